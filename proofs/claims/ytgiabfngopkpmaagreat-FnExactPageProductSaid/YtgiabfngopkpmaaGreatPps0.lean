/- What the abstract code answers: typed functions, part 1. -/
import Derived.Test.YtgiabfngopkpmaaGreatPpp
namespace Rv
theorem ai{a b:Prop}(x:a)(y:b):a∧b:=⟨x,y⟩
theorem ei.{u}{α:Sort u}{p:α→Prop}(w:α)(h:p w):∃x,p x:=⟨w,h⟩
set_option linter.unusedVariables false
set_option linter.unusedSimpArgs false
set_option maxRecDepth 100000
noncomputable section
abbrev eC(x:qh):V:=V.agg [V.int .i64 x.Prime,V.isl (x.Dims.map Enc.enc),V.isl (x.Maps.map Enc.enc)]
abbrev eF(x:qc):V:=V.agg [V.int .i64 x.Complex.Prime,V.isl (x.Complex.Dims.map Enc.enc),V.isl (x.Complex.Maps.map Enc.enc),V.isl (x.Levels.map Enc.enc)]
abbrev eK(x:zk):V:=V.agg [V.isl (x.Down.map Enc.enc),V.isl (x.Up.map Enc.enc),V.isl (x.Back.map Enc.enc)]
theorem R1:type_of%(ai RR (ai RB (ai RZ (ai @ii_eq <|ai @nn_eq <|ai @oM_e <|ai @oL_e <|ai @oS_e <|ai @oF_e <|ai @oB_e <|ai @oC_e <|ai @oI_e <|ai @oN_e <|ai @oP_e <|ai @oQ_e <|ai @oR_e <|ai @oU_e <|ai @opEv.eq_1 <|ai @opEv.eq_2 <|ai @opEv.eq_3 <|ai @opEv.eq_4 <|ai @opEv.eq_5 <|ai @opEv.eq_6 <|ai @opEv.eq_7 <|ai @opEv.eq_8 <|ai @opEv.eq_9 <|ai @opEv.eq_10 <|ai @opEv.eq_11 <|ai @opEv.eq_12 <|ai @opEv.eq_13 <|ai @opEv.eq_14 <|ai @opEv.eq_15 <|ai @opEv.eq_16 <|ai @opEv.eq_17 <|ai @opEv.eq_18 <|ai @opEv.eq_19 <|ai @opEv.eq_20 <|ai @opEv.eq_21 <|ai @opEv.eq_22 <|ai @opEv.eq_23 <|ai @opEv.eq_24 <|ai @opEv.eq_25 <|ai @opEv.eq_26 <|ai @opEv.eq_27 <|ai @opEv.eq_28 <|ai @opEv.eq_29 <|ai @opEv.eq_30 <|ai @opEv.eq_31 <|ai @opEv.eq_32 <|ai @opEv.eq_33 <|ai @opEv.eq_34 <|ai @opEv.eq_35 <|ai @opEv.eq_36 <|ai @opEv.eq_37 <|ai @fillV.eq_1 <|ai @fillV.eq_2 <|ai @mapO.eq_1 <|ai @mapO.eq_2 <|ai @mapS.eq_1 <| @mapS.eq_2)))):=ai RR (ai RB (ai RZ (ai @ii_eq <|ai @nn_eq <|ai @oM_e <|ai @oL_e <|ai @oS_e <|ai @oF_e <|ai @oB_e <|ai @oC_e <|ai @oI_e <|ai @oN_e <|ai @oP_e <|ai @oQ_e <|ai @oR_e <|ai @oU_e <|ai @opEv.eq_1 <|ai @opEv.eq_2 <|ai @opEv.eq_3 <|ai @opEv.eq_4 <|ai @opEv.eq_5 <|ai @opEv.eq_6 <|ai @opEv.eq_7 <|ai @opEv.eq_8 <|ai @opEv.eq_9 <|ai @opEv.eq_10 <|ai @opEv.eq_11 <|ai @opEv.eq_12 <|ai @opEv.eq_13 <|ai @opEv.eq_14 <|ai @opEv.eq_15 <|ai @opEv.eq_16 <|ai @opEv.eq_17 <|ai @opEv.eq_18 <|ai @opEv.eq_19 <|ai @opEv.eq_20 <|ai @opEv.eq_21 <|ai @opEv.eq_22 <|ai @opEv.eq_23 <|ai @opEv.eq_24 <|ai @opEv.eq_25 <|ai @opEv.eq_26 <|ai @opEv.eq_27 <|ai @opEv.eq_28 <|ai @opEv.eq_29 <|ai @opEv.eq_30 <|ai @opEv.eq_31 <|ai @opEv.eq_32 <|ai @opEv.eq_33 <|ai @opEv.eq_34 <|ai @opEv.eq_35 <|ai @opEv.eq_36 <|ai @opEv.eq_37 <|ai @fillV.eq_1 <|ai @fillV.eq_2 <|ai @mapO.eq_1 <|ai @mapO.eq_2 <|ai @mapS.eq_1 <| @mapS.eq_2)))
theorem R0:type_of%(ai R1 RE):=ai R1 RE
def F30_1_B(a0:List Int)(a1:List Int)(v5_1:Int)(s:Unit):Option ((Unit)⊕((Unit)⊕Bool)):=
 (getI a0 v5_1).bind fun x5=>
(getI a1 v5_1).bind fun x7=>
if x5=x7 then
 some (.inl ())
else
 some (.inr (.inr false))
def F30_1_D(a0:List Int)(a1:List Int)(v5_1:Int)(s:Unit):Option ((Unit)⊕Bool):=
 some (.inl ())
def F30(a0:List Int)(a1:List Int):Option Bool:=
 if(a0.length:Int)=(a1.length:Int)then
  (forR 0 (a0.length:Int) (F30_1_B a0 a1) (F30_1_D a0 a1) ()).bind fun t10=> match t10 with
   | .inl _=>
    some true
   | .inr r11=> some r11
 else
  some false
def I30_1(a0:List Int)(a1:List Int)(v5_1:Int)(s:Unit)(e:Env)(h:Heap):Prop:=
 ∃k3:Nat,h=⟨[],k3⟩∧e.length=26∧e.at 0=V.isl (a0.map Enc.enc)∧e.at 1=V.isl (a1.map Enc.enc)∧e.at 5=V.int .i64 v5_1
def P30_1(a0:List Int)(a1:List Int)(t:(Unit)⊕Bool)(x:Ex)(e:Env)(h:Heap):Prop:=
 match t with
 | .inl _=> x= .normal∧∃k3:Nat,h=⟨[],k3⟩∧e.length=26
 | .inr r=> x= .ret∧Fin p30 (Enc.enc r) .ret e h
theorem l30_1(a0:List Int)(a1:List Int){lo:Int}{s:Unit}{t:(Unit)⊕Bool}(hF:forR lo (a0.length:Int) (F30_1_B a0 a1) (F30_1_D a0 a1) s=some t){e:Env}{h:Heap}(hI:I30_1 a0 a1 lo s e h):W A c30_1 e h (P30_1 a0 a1 t):=by
 show W A (.block 0 (.loop false b30_1)) e h _;rw[qi];refine qr hF 0 (by obtain⟨_,rfl,_⟩:=hI; rfl) (I30_1 a0 a1) hI ?_ ?_
 ·rintro v5_1 _ e h ⟨k3,rfl,h_2⟩ hlt hw o ho
  unfold F30_1_B at ho;obtain⟨x5,gx5,ho⟩:=bS ho;obtain⟨w6a,w6b⟩:=ql gx5;obtain⟨x7,gx7,ho⟩:=bS ho;obtain⟨w8a,w8b⟩:=ql gx7;by_cases c9:x5=x7
  ·rw[if_pos c9]at ho
   cases ho;simp only[simprocAttr,R0,b30_1, *];refine ai rfl (ei _ (ai rfl ?_));simp only[simprocAttr,R0, *]
  ·rw[if_neg c9]at ho
   cases ho;simp only[simprocAttr,R0,b30_1, *];intro ht; subst ht;simp only[simprocAttr,RR,RB];exact ai rfl (qd (by simp only[simprocAttr,R0,qe,p30,Rs.ev,qa, *]))
 ·rintro v5_1 _ e h ⟨k3,rfl,h_2⟩ hge t1 ho
  unfold F30_1_D at ho;cases ho;simp only[simprocAttr,R0,b30_1, *];intro ht; subst ht;refine ai rfl (ei _ (ai rfl ?_));simp only[simprocAttr,R0, *]
theorem s30(a0:List Int)(a1:List Int){r:Bool}(hF:F30 a0 a1=some r):ans A 30 [V.isl (a0.map Enc.enc),V.isl (a1.map Enc.enc)]=some (Enc.enc r):=by
 refine qu (f:=p30) rfl rfl rfl fun e hl he=>?_;have h0_0:e.at 0=V.isl (a0.map Enc.enc):=he 0 _ rfl;have h1_0:e.at 1=V.isl (a1.map Enc.enc):=he 1 _ rfl;have hl_0:e.length=26:=hl;clear he hl;have h_0:=ai hl_0 (ai h0_0 h1_0);show W A b30 e ⟨[],0⟩ _;unfold F30 at hF;by_cases c1:(a0.length:Int)=(a1.length:Int)
 ·rw[if_pos c1]at hF
  obtain⟨t10,gt10,hF⟩:=bS hF;rcases t10 with _|r11
  ·dsimp only at hF
   simp only[simprocAttr,R0,b30, *];refine W.mono (l30_1 a0 a1 gt10 (ei _ (ai rfl ?_))) ?_
   ·simp only[simprocAttr,R0, *]
   rintro _ e _ ⟨rfl,k3,rfl,hl_4⟩;cases hF;simp only[simprocAttr,R0, *];exact qd (by simp only[simprocAttr,R0,qe,p30,Rs.ev,qa, *])
  ·dsimp only at hF
   cases hF;simp only[simprocAttr,R0,b30, *];refine W.mono (l30_1 a0 a1 gt10 (ei _ (ai rfl ?_))) ?_
   ·simp only[simprocAttr,R0, *]
   rintro _ e h ⟨rfl,hq⟩;simp only[simprocAttr,RR,RB];exact hq
 ·rw[if_neg c1]at hF
  cases hF;simp only[simprocAttr,R0,b30, *];exact qd (by simp only[simprocAttr,R0,qe,p30,Rs.ev,qa, *])
def F31_1_B(i:Int)(s:List Int×Int):Option ((List Int×Int)⊕(List Int×Int)):=
 (setI s.1 i s.2).bind fun l=>(chk (s.2+1)).bind fun k=> some (.inl (l,k))
def F31_1_D(i:Int)(s:List Int×Int):Option (List Int×Int):=some s
def F31(l:List Int)(k:Int):Option (List Int×Int):=forR 0 (l.length:Int) F31_1_B F31_1_D (l,k)
def FM31(x:List Int)(k:Int):Option ((List Int)×Int):=F31 x k
theorem d31{l:List Int}{k:Int}{r:List Int×Int}(hF:F31 l k=some r)(h:Heap){v:V}{K:Ks}(hr:Deep.rep h v l K):
  ∃h',res A 31 [v,V.int .i64 k] h=some (V.int .i64 r.2,h')∧Deep.rep h' v r.1 K∧(∀k,¬K k→h'.ents[k]? =h.ents[k]?)∧h'.ents.length=h.ents.length:=by
 refine res_ex (f:=p31) rfl rfl rfl fun e hl he=>?_;have h0_0:e.at 0=v:=he 0 _ rfl;have h1_0:e.at 1=V.int .i64 k:=he 1 _ rfl;have hl_0:e.length=19:=hl;clear he hl;show W A b31 e h _;unfold F31 at hF;obtain⟨E,c⟩:=h;simp only[simprocAttr, -Int.reduceNatCast',R1,b31,hl_0,h0_0,h1_0];show W A (.block 0 (.loop true b31_1)) _ _ _;rw[qi];refine qr hF _ rfl (fun i s e h=> Deep.rep h v s.1 K∧(∀k,¬K k→h.ents[k]? =E[k]?)∧h.ents.length=E.length∧s.1.length=l.length∧e.length=19∧e.at 0=v∧e.at 1=V.int .i64 s.2∧e.at 5=V.int .i64 i) ?_ ?_ ?_
 ·refine⟨hr,fun _ _=> rfl,rfl,rfl,?_⟩
  simp only[simprocAttr, -Int.reduceNatCast',R1,hl_0,h0_0,h1_0]
 ·clear hl_0 h0_0 h1_0
  rintro i ⟨s,q⟩ e ⟨E3,c3⟩ ⟨q1,q2,q3,q4,hl_1,h0_1,h1_1,h5_1⟩ hlt hw oo ho;unfold F31_1_B at ho;simp only at ho q1 q2 q3 q4 h1_1;obtain⟨s2,gs,ho⟩:=bS ho;obtain⟨s1,s2',s3,s4,s5⟩:=xr gs;obtain⟨k2,gk,ho⟩:=bS ho;have wk:=qx gk;have hE:=wA ho; subst hE;rcases row_int q1 with⟨_,rfl,_⟩|⟨key3,uid3,hx2,d1,d2⟩
  ·simp at s2'; omega
  simp only at d1;have s5':List.take i.toNat (s.map Enc.enc)++[V.int .i64 q]++List.drop (i.toNat+1) (s.map Enc.enc)=List.map Enc.enc s2:=s5;rw[q4]at s3;simp only[simprocAttr, -Int.reduceNatCast',R1,b31_1,hl_1,h0_1,h1_1,h5_1,eq_true hlt,hw,hx2,q4,d1,s1,s3,s5',wk];have hk3:key3 < E3.length:=(List.getElem?_eq_some_iff.1 d1).1;have hsl:s2.length=l.length:=by rw[s4]; exact q4
  refine ai rfl ⟨?_,fun k nk=>?_,by rw[←q3]; simp,hsl,?_⟩
  ·rw[←hsl]; exact xl (qI hk3) d2
  ·exact(qS (fun e=> nk ((d2 k).2 e))).trans (q2 k nk)
  ·simp only[simprocAttr, -Int.reduceNatCast',R1,hl_1,h0_1,h1_1,h5_1,hw,hx2,q4]
 ·clear hl_0 h0_0 h1_0
  rintro i ⟨s,q⟩ e ⟨E3,c3⟩ ⟨q1,q2,q3,q4,hl_1,h0_1,h1_1,h5_1⟩ hge t1 ho;have hE:=wA ho; subst hE;have hlen:=rep_len q1;simp only at hlen q1 q2 q3 q4 h1_1;simp only[simprocAttr, -Int.reduceNatCast',R1,b31_1,hl_1,h0_1,h1_1,h5_1,hlen,q4,eq_false hge];intro ht; subst ht;refine ai (fun _=> trivial) ⟨?_,q1,q2,q3⟩;simp only[simprocAttr, -Int.reduceNatCast',R1,qe,p31,Rs.ev,mapO,hl_1]
theorem dm31{x:List Int}{k:Int}{r:(List Int)×Int}(hF:FM31 x k=some r)(h:Heap){v:V}{K:Ks}(hr:Deep.rep h v x K):∃h',res A 31 [v,V.int .i64 k] h=some (V.int .i64 r.2,h')∧Deep.rep h' v r.1 K∧(∀k,k < h.ents.length→¬K k→h'.ents[k]? =h.ents[k]?)∧h.ents.length≤h'.ents.length:=by
 obtain⟨h',w,q1,q2,q3⟩:=d31 hF h hr;exact⟨h',w,q1,fun k _ nk=> q2 k nk,by omega⟩
def F32_1_B(a0:List Int)(v5_1:Int)(v1_1:Int):Option ((Int)⊕((Int)⊕Int)):=
 (getI a0 v5_1).bind fun x4=>
if x4=v1_1 then
 (chk (v1_1+1)).bind fun x7=>
 some (.inl x7)
else
 some (.inr (.inr (-1)))
def F32_1_D(a0:List Int)(v5_1:Int)(v1_1:Int):Option ((Int)⊕Int):=
 some (.inl v1_1)
def F32(a0:List Int)(a1:Int):Option Int:=
 (forR 0 (a0.length:Int) (F32_1_B a0) (F32_1_D a0) a1).bind fun t8=> match t8 with
  | .inl zv1_1=>
   some zv1_1
  | .inr r9=> some r9
def I32_1(a0:List Int)(v5_1:Int)(v1_1:Int)(e:Env)(h:Heap):Prop:=
 ∃k2:Nat,h=⟨[],k2⟩∧e.length=21∧e.at 0=V.isl (a0.map Enc.enc)∧e.at 1=V.int .i64 v1_1∧e.at 5=V.int .i64 v5_1
def P32_1(a0:List Int)(t:(Int)⊕Int)(x:Ex)(e:Env)(h:Heap):Prop:=
 match t with
 | .inl zv1_1=> x= .normal∧∃k2:Nat,h=⟨[],k2⟩∧e.length=21∧e.at 1=V.int .i64 zv1_1
 | .inr r=> x= .ret∧Fin p32 (Enc.enc r) .ret e h
theorem l32_1(a0:List Int){lo:Int}{s:Int}{t:(Int)⊕Int}(hF:forR lo (a0.length:Int) (F32_1_B a0) (F32_1_D a0) s=some t){e:Env}{h:Heap}(hI:I32_1 a0 lo s e h):W A c32_1 e h (P32_1 a0 t):=by
 show W A (.block 0 (.loop false b32_1)) e h _;rw[qi];refine qr hF 0 (by obtain⟨_,rfl,_⟩:=hI; rfl) (I32_1 a0) hI ?_ ?_
 ·rintro v5_1 v1_1 e h ⟨k2,rfl,h_1⟩ hlt hw o ho
  unfold F32_1_B at ho;obtain⟨x4,gx4,ho⟩:=bS ho;obtain⟨w5a,w5b⟩:=ql gx4;by_cases c6:x4=v1_1
  ·rw[if_pos c6]at ho
   obtain⟨x7,gx7,ho⟩:=bS ho;have wx7:=qx gx7;cases ho;simp only[simprocAttr,R0,b32_1, *];refine ai rfl (ei _ (ai rfl ?_));simp only[simprocAttr,R0, *]
  ·rw[if_neg c6]at ho
   cases ho;simp only[simprocAttr,R0,b32_1, *];intro ht; subst ht;simp only[simprocAttr,RR,RB];exact ai rfl (qd (by simp only[simprocAttr,R0,qe,p32,Rs.ev,qa, *]))
 ·rintro v5_1 v1_1 e h ⟨k2,rfl,h_1⟩ hge t1 ho
  unfold F32_1_D at ho;cases ho;simp only[simprocAttr,R0,b32_1, *];intro ht; subst ht;refine ai rfl (ei _ (ai rfl ?_));simp only[simprocAttr,R0, *]
theorem s32(a0:List Int)(a1:Int){r:Int}(hF:F32 a0 a1=some r):ans A 32 [V.isl (a0.map Enc.enc),V.int .i64 a1]=some (Enc.enc r):=by
 refine qu (f:=p32) rfl rfl rfl fun e hl he=>?_;have h0_0:e.at 0=V.isl (a0.map Enc.enc):=he 0 _ rfl;have h1_0:e.at 1=V.int .i64 a1:=he 1 _ rfl;have hl_0:e.length=21:=hl;clear he hl;have h_0:=ai hl_0 (ai h0_0 h1_0);show W A b32 e ⟨[],0⟩ _;unfold F32 at hF;obtain⟨t8,gt8,hF⟩:=bS hF;rcases t8 with zv1_1|r9
 ·dsimp only at hF
  simp only[simprocAttr,R0,b32, *];refine W.mono (l32_1 a0 gt8 (ei _ (ai rfl ?_))) ?_
  ·simp only[simprocAttr,R0, *]
  rintro _ e _ ⟨rfl,k2,rfl,h_3⟩;cases hF;simp only[simprocAttr,R0, *];exact qd (by simp only[simprocAttr,R0,qe,p32,Rs.ev,qa, *])
 ·dsimp only at hF
  cases hF;simp only[simprocAttr,R0,b32, *];refine W.mono (l32_1 a0 gt8 (ei _ (ai rfl ?_))) ?_
  ·simp only[simprocAttr,R0, *]
  rintro _ e h ⟨rfl,hq⟩;simp only[simprocAttr,RR,RB];exact hq
def F253_1_B(a0:Ar .i64 8)(v4_1:Int)(o2_1:(List Int)):Option (((List Int))⊕((List Int))):=
 (ixI 8 v4_1).bind fun n4=>
(some (arW 8 o2_1 n4 (a0.val.getD n4 0))).bind fun l7=>
some (.inl l7)
def F253_1_D(a0:Ar .i64 8)(v4_1:Int)(o2_1:(List Int)):Option ((List Int)):=
 some o2_1
def F253(a0:Ar .i64 8):Option (Ar .i64 8):=
 (forR 0 8 (F253_1_B a0) (F253_1_D a0) ([]:(List Int))).bind fun zo2_1=>
 some ⟨zo2_1⟩
def I253_1(a0:Ar .i64 8)(v4_1:Int)(o2_1:(List Int))(e:Env)(h:Heap):Prop:=
 ∃k2:Nat,h=⟨[(0,none),(1,some (arc .i64 8 [])),(2,some (arc .i64 8 o2_1))],k2⟩∧e.length=15∧e.at 1=V.iptr (arc .i64 8 a0.val)∧e.at 2=V.ptr 1 1 0∧e.at 3=V.ptr 2 2 0∧e.at 4=V.int .i64 v4_1
def P253_1(a0:Ar .i64 8)(zo2_1:(List Int))(x:Ex)(e:Env)(h:Heap):Prop:=
 x= .normal∧∃k2:Nat,h=⟨[(0,none),(1,some (arc .i64 8 [])),(2,some (arc .i64 8 zo2_1))],k2⟩∧e.length=15∧e.at 2=V.ptr 1 1 0∧e.at 3=V.ptr 2 2 0
theorem l253_1(a0:Ar .i64 8){lo:Int}{s:(List Int)}{t:(List Int)}(hF:forR lo 8 (F253_1_B a0) (F253_1_D a0) s=some t){e:Env}{h:Heap}(hI:I253_1 a0 lo s e h):W A c253_1 e h (P253_1 a0 t):=by
 show W A (.block 0 (.loop false b253_1)) e h _;rw[qi];refine qr hF 3 (by obtain⟨_,rfl,_⟩:=hI; rfl) (I253_1 a0) hI ?_ ?_
 ·rintro v4_1 o2_1 e h ⟨k2,rfl,h_1⟩ hlt hw o ho
  unfold F253_1_B at ho;obtain⟨n4,gn4,ho⟩:=bS ho;obtain⟨w5a,w5b,w5c,w5d⟩:=qU gn4;have w6:qf none (List.drop n4 (arc .i64 8 a0.val))=some (V.int .i64 (a0.val.getD n4 0)):=zo (i:=n4) (by omega) (by omega);obtain⟨l7,gl7,ho⟩:=bS ho;have w8:List.take n4 (arc .i64 8 o2_1)++[V.int .i64 (a0.val.getD n4 0)]++List.drop (n4+1) (arc .i64 8 o2_1)=arc .i64 8 l7:=by rw[←wA gl7]; exact arc_set (by omega)
  have w8l:n4+1≤8:=by omega
  cases ho;simp only[simprocAttr,R0,b253_1, *];refine ai rfl (ei _ (ai rfl ?_));simp only[simprocAttr,R0, *]
 ·rintro v4_1 o2_1 e h ⟨k2,rfl,h_1⟩ hge t1 ho
  unfold F253_1_D at ho;cases ho;simp only[simprocAttr,R0,b253_1, *];intro ht; subst ht;refine ai rfl (ei _ (ai rfl ?_));simp only[simprocAttr,R0, *]
theorem s253(a0:Ar .i64 8){r:Ar .i64 8}(hF:F253 a0=some r):ans A 253 [V.agg (arc .i64 8 a0.val)]=some (Enc.enc r):=by
 refine qu (f:=p253) rfl rfl rfl fun e hl he=>?_;have h0_0:e.at 0=V.agg (arc .i64 8 a0.val):=he 0 _ rfl;have hl_0:e.length=15:=hl;clear he hl;show W A b253 e ⟨[],0⟩ _;unfold F253 at hF;obtain⟨zo2_1,gt9,hF⟩:=bS hF;simp only[simprocAttr,R0,b253, *];refine W.mono (l253_1 a0 gt9 (ei _ (ai rfl ?_))) ?_
 ·simp only[simprocAttr,R0, *]
 rintro _ e _ ⟨rfl,k2,rfl,h_3⟩;have w12:List.drop 8 (arc .i64 8 [])=[]:=wI (by rw[qj]; exact wG _);cases hF;simp only[simprocAttr,R0,wB, *];exact qd (by simp only[simprocAttr,R0,qe,p253,Rs.ev,qa,wB, *])
def F291_1_B(a0:Ar .u8 8)(v4_1:Int)(o2_1:(List Int)):Option (((List Int))⊕((List Int))):=
 (ixI 8 v4_1).bind fun n4=>
(some (arW 8 o2_1 n4 (a0.val.getD n4 0))).bind fun l7=>
some (.inl l7)
def F291_1_D(a0:Ar .u8 8)(v4_1:Int)(o2_1:(List Int)):Option ((List Int)):=
 some o2_1
def F291(a0:Ar .u8 8):Option (Ar .u8 8):=
 (forR 0 8 (F291_1_B a0) (F291_1_D a0) ([]:(List Int))).bind fun zo2_1=>
 some ⟨zo2_1⟩
def I291_1(a0:Ar .u8 8)(v4_1:Int)(o2_1:(List Int))(e:Env)(h:Heap):Prop:=
 ∃k2:Nat,h=⟨[(0,none),(1,some (arc .u8 8 [])),(2,some (arc .u8 8 o2_1))],k2⟩∧e.length=15∧e.at 1=V.iptr (arc .u8 8 a0.val)∧e.at 2=V.ptr 1 1 0∧e.at 3=V.ptr 2 2 0∧e.at 4=V.int .i64 v4_1
def P291_1(a0:Ar .u8 8)(zo2_1:(List Int))(x:Ex)(e:Env)(h:Heap):Prop:=
 x= .normal∧∃k2:Nat,h=⟨[(0,none),(1,some (arc .u8 8 [])),(2,some (arc .u8 8 zo2_1))],k2⟩∧e.length=15∧e.at 2=V.ptr 1 1 0∧e.at 3=V.ptr 2 2 0
theorem l291_1(a0:Ar .u8 8){lo:Int}{s:(List Int)}{t:(List Int)}(hF:forR lo 8 (F291_1_B a0) (F291_1_D a0) s=some t){e:Env}{h:Heap}(hI:I291_1 a0 lo s e h):W A c291_1 e h (P291_1 a0 t):=by
 show W A (.block 0 (.loop false b291_1)) e h _;rw[qi];refine qr hF 3 (by obtain⟨_,rfl,_⟩:=hI; rfl) (I291_1 a0) hI ?_ ?_
 ·rintro v4_1 o2_1 e h ⟨k2,rfl,h_1⟩ hlt hw o ho
  unfold F291_1_B at ho;obtain⟨n4,gn4,ho⟩:=bS ho;obtain⟨w5a,w5b,w5c,w5d⟩:=qU gn4;have w6:qf none (List.drop n4 (arc .u8 8 a0.val))=some (V.int .u8 (a0.val.getD n4 0)):=zo (i:=n4) (by omega) (by omega);obtain⟨l7,gl7,ho⟩:=bS ho;have w8:List.take n4 (arc .u8 8 o2_1)++[V.int .u8 (a0.val.getD n4 0)]++List.drop (n4+1) (arc .u8 8 o2_1)=arc .u8 8 l7:=by rw[←wA gl7]; exact arc_set (by omega)
  have w8l:n4+1≤8:=by omega
  cases ho;simp only[simprocAttr,R0,b291_1, *];refine ai rfl (ei _ (ai rfl ?_));simp only[simprocAttr,R0, *]
 ·rintro v4_1 o2_1 e h ⟨k2,rfl,h_1⟩ hge t1 ho
  unfold F291_1_D at ho;cases ho;simp only[simprocAttr,R0,b291_1, *];intro ht; subst ht;refine ai rfl (ei _ (ai rfl ?_));simp only[simprocAttr,R0, *]
theorem s291(a0:Ar .u8 8){r:Ar .u8 8}(hF:F291 a0=some r):ans A 291 [V.agg (arc .u8 8 a0.val)]=some (Enc.enc r):=by
 refine qu (f:=p291) rfl rfl rfl fun e hl he=>?_;have h0_0:e.at 0=V.agg (arc .u8 8 a0.val):=he 0 _ rfl;have hl_0:e.length=15:=hl;clear he hl;show W A b291 e ⟨[],0⟩ _;unfold F291 at hF;obtain⟨zo2_1,gt9,hF⟩:=bS hF;simp only[simprocAttr,R0,b291, *];refine W.mono (l291_1 a0 gt9 (ei _ (ai rfl ?_))) ?_
 ·simp only[simprocAttr,R0, *]
 rintro _ e _ ⟨rfl,k2,rfl,h_3⟩;have w12:List.drop 8 (arc .u8 8 [])=[]:=wI (by rw[qj]; exact wG _);cases hF;simp only[simprocAttr,R0,wB, *];exact qd (by simp only[simprocAttr,R0,qe,p291,Rs.ev,qa,wB, *])
def F254_1_B(a0:Ar .u8 64)(v4_1:Int)(o2_1:(List Int)):Option (((List Int))⊕((List Int))):=
 (ixI 8 v4_1).bind fun n4=>
(F291 ⟨(arP a0.val (n4*8) 8)⟩).bind fun x7=>
(some (arU 64 o2_1 (n4*8) 8 x7.val)).bind fun l9=>
some (.inl l9)
def F254_1_D(a0:Ar .u8 64)(v4_1:Int)(o2_1:(List Int)):Option ((List Int)):=
 some o2_1
def F254(a0:Ar .u8 64):Option (Ar .u8 64):=
 (forR 0 8 (F254_1_B a0) (F254_1_D a0) ([]:(List Int))).bind fun zo2_1=>
 some ⟨zo2_1⟩
def I254_1(a0:Ar .u8 64)(v4_1:Int)(o2_1:(List Int))(e:Env)(h:Heap):Prop:=
 ∃k2:Nat,h=⟨[(0,none),(1,some (arc .u8 64 [])),(2,some (arc .u8 64 o2_1))],k2⟩∧e.length=16∧e.at 1=V.iptr (arc .u8 64 a0.val)∧e.at 2=V.ptr 1 1 0∧e.at 3=V.ptr 2 2 0∧e.at 4=V.int .i64 v4_1
def P254_1(a0:Ar .u8 64)(zo2_1:(List Int))(x:Ex)(e:Env)(h:Heap):Prop:=
 x= .normal∧∃k2:Nat,h=⟨[(0,none),(1,some (arc .u8 64 [])),(2,some (arc .u8 64 zo2_1))],k2⟩∧e.length=16∧e.at 2=V.ptr 1 1 0∧e.at 3=V.ptr 2 2 0
theorem l254_1(a0:Ar .u8 64){lo:Int}{s:(List Int)}{t:(List Int)}(hF:forR lo 8 (F254_1_B a0) (F254_1_D a0) s=some t){e:Env}{h:Heap}(hI:I254_1 a0 lo s e h):W A c254_1 e h (P254_1 a0 t):=by
 show W A (.block 0 (.loop false b254_1)) e h _;rw[qi];refine qr hF 3 (by obtain⟨_,rfl,_⟩:=hI; rfl) (I254_1 a0) hI ?_ ?_
 ·rintro v4_1 o2_1 e h ⟨k2,rfl,h_1⟩ hlt hw o ho
  unfold F254_1_B at ho;obtain⟨n4,gn4,ho⟩:=bS ho;obtain⟨w5a,w5b,w5c,w5d⟩:=qU gn4;have w6:List.take 8 (List.drop (n4*8) (arc .u8 64 a0.val))=arc .u8 8 (arP a0.val (n4*8) 8):=arc_part' (i:=n4*8) (m:=8) (by omega) (by omega);have w6l:8≤List.length (List.drop (n4*8) (arc .u8 64 a0.val)):=by simp only[wQ,qj]; omega
  obtain⟨x7,gx7,ho⟩:=bS ho;have w8:ans A 291 [V.agg (arc .u8 8 (arP a0.val (n4*8) 8))]=some (V.agg (arc .u8 8 x7.val)):=s291 ⟨(arP a0.val (n4*8) 8)⟩ gx7;obtain⟨l9,gl9,ho⟩:=bS ho;have w10:List.take (n4*8) (arc .u8 64 o2_1)++arc .u8 8 x7.val++List.drop (n4*8+8) (arc .u8 64 o2_1)=arc .u8 64 l9:=by rw[←wA gl9]; exact arc_sets (by omega)
  have w10l:n4*8+8≤64:=by omega
  cases ho;simp only[simprocAttr,R0,b254_1, *];refine ai rfl (ei _ (ai rfl ?_));simp only[simprocAttr,R0, *]
 ·rintro v4_1 o2_1 e h ⟨k2,rfl,h_1⟩ hge t1 ho
  unfold F254_1_D at ho;cases ho;simp only[simprocAttr,R0,b254_1, *];intro ht; subst ht;refine ai rfl (ei _ (ai rfl ?_));simp only[simprocAttr,R0, *]
theorem s254(a0:Ar .u8 64){r:Ar .u8 64}(hF:F254 a0=some r):ans A 254 [V.agg (arc .u8 64 a0.val)]=some (Enc.enc r):=by
 refine qu (f:=p254) rfl rfl rfl fun e hl he=>?_;have h0_0:e.at 0=V.agg (arc .u8 64 a0.val):=he 0 _ rfl;have hl_0:e.length=16:=hl;clear he hl;show W A b254 e ⟨[],0⟩ _;unfold F254 at hF;obtain⟨zo2_1,gt11,hF⟩:=bS hF;simp only[simprocAttr,R0,b254, *];refine W.mono (l254_1 a0 gt11 (ei _ (ai rfl ?_))) ?_
 ·simp only[simprocAttr,R0, *]
 rintro _ e _ ⟨rfl,k2,rfl,h_3⟩;have w14:List.drop 64 (arc .u8 64 [])=[]:=wI (by rw[qj]; exact wG _);cases hF;simp only[simprocAttr,R0,wB, *];exact qd (by simp only[simprocAttr,R0,qe,p254,Rs.ev,qa,wB, *])
def F255_1_B(a0:Ar .u8 512)(v4_1:Int)(o2_1:(List Int)):Option (((List Int))⊕((List Int))):=
 (ixI 8 v4_1).bind fun n4=>
(F254 ⟨(arP a0.val (n4*64) 64)⟩).bind fun x7=>
(some (arU 512 o2_1 (n4*64) 64 x7.val)).bind fun l9=>
some (.inl l9)
def F255_1_D(a0:Ar .u8 512)(v4_1:Int)(o2_1:(List Int)):Option ((List Int)):=
 some o2_1
def F255(a0:Ar .u8 512):Option (Ar .u8 512):=
 (forR 0 8 (F255_1_B a0) (F255_1_D a0) ([]:(List Int))).bind fun zo2_1=>
 some ⟨zo2_1⟩
def I255_1(a0:Ar .u8 512)(v4_1:Int)(o2_1:(List Int))(e:Env)(h:Heap):Prop:=
 ∃k2:Nat,h=⟨[(0,none),(1,some (arc .u8 512 [])),(2,some (arc .u8 512 o2_1))],k2⟩∧e.length=16∧e.at 1=V.iptr (arc .u8 512 a0.val)∧e.at 2=V.ptr 1 1 0∧e.at 3=V.ptr 2 2 0∧e.at 4=V.int .i64 v4_1
def P255_1(a0:Ar .u8 512)(zo2_1:(List Int))(x:Ex)(e:Env)(h:Heap):Prop:=
 x= .normal∧∃k2:Nat,h=⟨[(0,none),(1,some (arc .u8 512 [])),(2,some (arc .u8 512 zo2_1))],k2⟩∧e.length=16∧e.at 2=V.ptr 1 1 0∧e.at 3=V.ptr 2 2 0
theorem l255_1(a0:Ar .u8 512){lo:Int}{s:(List Int)}{t:(List Int)}(hF:forR lo 8 (F255_1_B a0) (F255_1_D a0) s=some t){e:Env}{h:Heap}(hI:I255_1 a0 lo s e h):W A c255_1 e h (P255_1 a0 t):=by
 show W A (.block 0 (.loop false b255_1)) e h _;rw[qi];refine qr hF 3 (by obtain⟨_,rfl,_⟩:=hI; rfl) (I255_1 a0) hI ?_ ?_
 ·rintro v4_1 o2_1 e h ⟨k2,rfl,h_1⟩ hlt hw o ho
  unfold F255_1_B at ho;obtain⟨n4,gn4,ho⟩:=bS ho;obtain⟨w5a,w5b,w5c,w5d⟩:=qU gn4;have w6:List.take 64 (List.drop (n4*64) (arc .u8 512 a0.val))=arc .u8 64 (arP a0.val (n4*64) 64):=arc_part' (i:=n4*64) (m:=64) (by omega) (by omega);have w6l:64≤List.length (List.drop (n4*64) (arc .u8 512 a0.val)):=by simp only[wQ,qj]; omega
  obtain⟨x7,gx7,ho⟩:=bS ho;have w8:ans A 254 [V.agg (arc .u8 64 (arP a0.val (n4*64) 64))]=some (V.agg (arc .u8 64 x7.val)):=s254 ⟨(arP a0.val (n4*64) 64)⟩ gx7;obtain⟨l9,gl9,ho⟩:=bS ho;have w10:List.take (n4*64) (arc .u8 512 o2_1)++arc .u8 64 x7.val++List.drop (n4*64+64) (arc .u8 512 o2_1)=arc .u8 512 l9:=by rw[←wA gl9]; exact arc_sets (by omega)
  have w10l:n4*64+64≤512:=by omega
  cases ho;simp only[simprocAttr,R0,b255_1, *];refine ai rfl (ei _ (ai rfl ?_));simp only[simprocAttr,R0, *]
 ·rintro v4_1 o2_1 e h ⟨k2,rfl,h_1⟩ hge t1 ho
  unfold F255_1_D at ho;cases ho;simp only[simprocAttr,R0,b255_1, *];intro ht; subst ht;refine ai rfl (ei _ (ai rfl ?_));simp only[simprocAttr,R0, *]
theorem s255(a0:Ar .u8 512){r:Ar .u8 512}(hF:F255 a0=some r):ans A 255 [V.agg (arc .u8 512 a0.val)]=some (Enc.enc r):=by
 refine qu (f:=p255) rfl rfl rfl fun e hl he=>?_;have h0_0:e.at 0=V.agg (arc .u8 512 a0.val):=he 0 _ rfl;have hl_0:e.length=16:=hl;clear he hl;show W A b255 e ⟨[],0⟩ _;unfold F255 at hF;obtain⟨zo2_1,gt11,hF⟩:=bS hF;simp only[simprocAttr,R0,b255, *];refine W.mono (l255_1 a0 gt11 (ei _ (ai rfl ?_))) ?_
 ·simp only[simprocAttr,R0, *]
 rintro _ e _ ⟨rfl,k2,rfl,h_3⟩;have w14:List.drop 512 (arc .u8 512 [])=[]:=wI (by rw[qj]; exact wG _);cases hF;simp only[simprocAttr,R0,wB, *];exact qd (by simp only[simprocAttr,R0,qe,p255,Rs.ev,qa,wB, *])
def F229(a0:GDga):Option GDga:=
 (some {(⟨0,0,⟨[]⟩,⟨[]⟩,⟨[]⟩,⟨[]⟩⟩:GDga)with Prime:=a0.Prime}).bind fun z3=>
 (some {z3 with Size:=a0.Size}).bind fun z6=>
 (F253 a0.Degrees).bind fun x8=>
 (some {z6 with Degrees:=⟨x8.val⟩}).bind fun z11=>
 (F253 a0.Levels).bind fun x13=>
 (some {z11 with Levels:=⟨x13.val⟩}).bind fun z16=>
 (F254 a0.Diff).bind fun x18=>
 (some {z16 with Diff:=⟨x18.val⟩}).bind fun z21=>
 (F255 a0.Table).bind fun x23=>
 (some {z21 with Table:=⟨x23.val⟩}).bind fun z26=>
 some z26
theorem s229(a0:GDga){r:GDga}(hF:F229 a0=some r):ans A 229 [V.agg (qb a0)]=some (Enc.enc r):=by
 refine qu (f:=p229) rfl rfl rfl fun e hl he=>?_;have h0_0:e.at 0=V.agg (qb a0):=he 0 _ rfl;have hl_0:e.length=27:=hl;clear he hl;show W A b229 e ⟨[],0⟩ _;unfold F229 at hF;have w1:qf none (qb a0)=some (V.int .i64 a0.Prime):=qA (a:=0) rfl;obtain⟨z3,gz3,hF⟩:=bS hF;have w2:V.int .i64 a0.Prime::List.drop 1 (qb (⟨0,0,⟨[]⟩,⟨[]⟩,⟨[]⟩,⟨[]⟩⟩:GDga))=qb z3:=by rw[←wA gz3]; exact ceGDga_Prime_set
 have w2l:1≤594:=by omega
 have w4:qf none (List.drop 1 (qb a0))=some (V.int .i64 a0.Size):=qk rfl;obtain⟨z6,gz6,hF⟩:=bS hF;have w5:List.take 1 (qb z3)++[V.int .i64 a0.Size]++List.drop 2 (qb z3)=qb z6:=by rw[←wA gz6]; exact ceGDga_Size_set
 have w5l:2≤594:=by omega
 have w7:List.take 8 (List.drop 2 (qb a0))=arc .i64 8 a0.Degrees.val:=ceGDga_Degrees_full (by omega);have w7l:8≤List.length (List.drop 2 (qb a0)):=by simp only[wQ,qj,qy]; omega
 obtain⟨x8,gx8,hF⟩:=bS hF;have w9:=s253 a0.Degrees gx8;obtain⟨z11,gz11,hF⟩:=bS hF;have w10:List.take 2 (qb z6)++arc .i64 8 x8.val++List.drop 10 (qb z6)=qb z11:=by rw[←wA gz11]; exact ceGDga_Degrees_setf (by omega) (by omega)
 have w10l:10≤594:=by omega
 have w12:List.take 8 (List.drop 10 (qb a0))=arc .i64 8 a0.Levels.val:=ceGDga_Levels_full (by omega);have w12l:8≤List.length (List.drop 10 (qb a0)):=by simp only[wQ,qj,qy]; omega
 obtain⟨x13,gx13,hF⟩:=bS hF;have w14:=s253 a0.Levels gx13;obtain⟨z16,gz16,hF⟩:=bS hF;have w15:List.take 10 (qb z11)++arc .i64 8 x13.val++List.drop 18 (qb z11)=qb z16:=by rw[←wA gz16]; exact ceGDga_Levels_setf (by omega) (by omega)
 have w15l:18≤594:=by omega
 have w17:List.take 64 (List.drop 18 (qb a0))=arc .u8 64 a0.Diff.val:=ceGDga_Diff_full (by omega);have w17l:64≤List.length (List.drop 18 (qb a0)):=by simp only[wQ,qj,qy]; omega
 obtain⟨x18,gx18,hF⟩:=bS hF;have w19:=s254 a0.Diff gx18;obtain⟨z21,gz21,hF⟩:=bS hF;have w20:List.take 18 (qb z16)++arc .u8 64 x18.val++List.drop 82 (qb z16)=qb z21:=by rw[←wA gz21]; exact ceGDga_Diff_setf (by omega) (by omega)
 have w20l:82≤594:=by omega
 have w22:List.take 512 (List.drop 82 (qb a0))=arc .u8 512 a0.Table.val:=ceGDga_Table_full (by omega);have w22l:512≤List.length (List.drop 82 (qb a0)):=by simp only[wQ,qj,qy]; omega
 obtain⟨x23,gx23,hF⟩:=bS hF;have w24:=s255 a0.Table gx23;obtain⟨z26,gz26,hF⟩:=bS hF;have w25:List.take 82 (qb z21)++arc .u8 512 x23.val++List.drop 594 (qb z21)=qb z26:=by rw[←wA gz26]; exact ceGDga_Table_setf (by omega) (by omega)
 have w25l:594≤594:=by omega
 cases hF;simp only[simprocAttr,R0,b229,xF,xF,(wI (Nat.le_of_eq (qy (⟨0,0,⟨[]⟩,⟨[]⟩,⟨[]⟩,⟨[]⟩⟩:GDga))):List.drop 594 (qb (⟨0,0,⟨[]⟩,⟨[]⟩,⟨[]⟩,⟨[]⟩⟩:GDga))=[]),wB, *];exact qd (by simp only[simprocAttr,R0,qe,p229,Rs.ev,qa,xF,xF,(wI (Nat.le_of_eq (qy (⟨0,0,⟨[]⟩,⟨[]⟩,⟨[]⟩,⟨[]⟩⟩:GDga))):List.drop 594 (qb (⟨0,0,⟨[]⟩,⟨[]⟩,⟨[]⟩,⟨[]⟩⟩:GDga))=[]),wB, *])
def F54(a0:Int)(a1:Int)(a2:Int):Option Bool:=
 if a1≤a0 then
  some (decide (a0≤a2))
 else
  some false
theorem s54(a0:Int)(a1:Int)(a2:Int){r:Bool}(hF:F54 a0 a1 a2=some r):ans A 54 [V.int .i64 a0,V.int .i64 a1,V.int .i64 a2]=some (Enc.enc r):=by
 refine qu (f:=p54) rfl rfl rfl fun e hl he=>?_;have h0_0:e.at 0=V.int .i64 a0:=he 0 _ rfl;have h1_0:e.at 1=V.int .i64 a1:=he 1 _ rfl;have h2_0:e.at 2=V.int .i64 a2:=he 2 _ rfl;have hl_0:e.length=15:=hl;clear he hl;have h_0:=ai hl_0 (ai h0_0 (ai h1_0 h2_0));show W A b54 e ⟨[],0⟩ _;unfold F54 at hF;by_cases c1:a1≤a0
 ·rw[if_pos c1]at hF
  cases hF;simp only[simprocAttr,R0,b54, *];exact qd (by simp only[simprocAttr,R0,qe,p54,Rs.ev,qa, *])
 ·rw[if_neg c1]at hF
  cases hF;simp only[simprocAttr,R0,b54, *];exact qd (by simp only[simprocAttr,R0,qe,p54,Rs.ev,qa, *])
def F106_1_B(a0:GDga)(a1:Int)(v6_1:Int)(o1_1:(List Int)):Option (((List Int))⊕((List Int))):=
 (ixI 8 v6_1).bind fun n6=>
if(a0.Degrees.val.getD n6 0)=a1 then
 (app 8 o1_1 [v6_1]).bind fun l11=>
 some (.inl l11)
else
 some (.inl o1_1)
def F106_1_D(a0:GDga)(a1:Int)(v6_1:Int)(o1_1:(List Int)):Option ((List Int)):=
 some o1_1
def F106(a0:GDga)(a1:Int):Option (List Int):=
 (forR 0 a0.Size (F106_1_B a0 a1) (F106_1_D a0 a1) ([]:(List Int))).bind fun zo1_1=>
 some zo1_1
def I106_1(a0:GDga)(a1:Int)(v6_1:Int)(o1_1:(List Int))(e:Env)(h:Heap):Prop:=
 ∃u2 k3:Nat,h=⟨[(0,none),(u2,some (o1_1.map Enc.enc))],k3⟩∧e.length=25∧e.at 1=V.int .i64 a1∧e.at 2=V.iptr (qb a0)∧e.at 5=V.sl 1 u2 0 o1_1.length 1∧e.at 6=V.int .i64 v6_1
def P106_1(a0:GDga)(a1:Int)(zo1_1:(List Int))(x:Ex)(e:Env)(h:Heap):Prop:=
 x= .normal∧∃u2 k3:Nat,h=⟨[(0,none),(u2,some (zo1_1.map Enc.enc))],k3⟩∧e.length=25∧e.at 5=V.sl 1 u2 0 zo1_1.length 1
theorem l106_1(a0:GDga)(a1:Int){lo:Int}{s:(List Int)}{t:(List Int)}(hF:forR lo a0.Size (F106_1_B a0 a1) (F106_1_D a0 a1) s=some t){e:Env}{h:Heap}(hI:I106_1 a0 a1 lo s e h):W A c106_1 e h (P106_1 a0 a1 t):=by
 show W A (.block 0 (.loop false b106_1)) e h _;rw[qi];refine qr hF 2 (by obtain⟨_,_,rfl,_⟩:=hI; rfl) (I106_1 a0 a1) hI ?_ ?_
 ·rintro v6_1 o1_1 e h ⟨u2,k3,rfl,h_1⟩ hlt hw o ho
  unfold F106_1_B at ho;have w5:qf none (List.drop 1 (qb a0))=some (V.int .i64 a0.Size):=qk rfl;obtain⟨n6,gn6,ho⟩:=bS ho;obtain⟨w7a,w7b,w7c,w7d⟩:=qU gn6;have w8:qf none (List.drop n6 (List.drop 2 (qb a0)))=some (V.int .i64 (a0.Degrees.val.getD n6 0)):=by simp only[wH]; exact qm (i:=n6) (by omega) (by omega)
  by_cases c9:(a0.Degrees.val.getD n6 0)=a1
  ·rw[if_pos c9]at ho
   obtain⟨l11,gl11,ho⟩:=bS ho;have w10:=fun a b c d e=> qC (α:=Int) (n:=o1_1.length) (m:=1) (ds:=[V.int .i64 v6_1]) gl11 (by first|rfl|simp) (by first|rfl|simp) rfl a b c d e;have w10l:=qM gl11;cases ho;simp only[simprocAttr, -Int.reduceNatCast',R0,b106_1, *];refine ai rfl (ei _ (ei _ (ai rfl ?_)));simp only[simprocAttr, -Int.reduceNatCast',R0, *]
  ·rw[if_neg c9]at ho
   cases ho;simp only[simprocAttr, -Int.reduceNatCast',R0,b106_1, *];refine ai rfl (ei _ (ei _ (ai rfl ?_)));simp only[simprocAttr, -Int.reduceNatCast',R0, *]
 ·rintro v6_1 o1_1 e h ⟨u2,k3,rfl,h_1⟩ hge t1 ho
  unfold F106_1_D at ho;have w12:qf none (List.drop 1 (qb a0))=some (V.int .i64 a0.Size):=qk rfl;cases ho;simp only[simprocAttr, -Int.reduceNatCast',R0,b106_1, *];intro ht; subst ht;refine ai rfl (ei _ (ei _ (ai rfl ?_)));simp only[simprocAttr, -Int.reduceNatCast',R0, *]
theorem s106(a0:GDga)(a1:Int){r:List Int}(hF:F106 a0 a1=some r):ans A 106 [V.agg (qb a0),V.int .i64 a1]=some (Enc.enc r):=by
 refine qu (f:=p106) rfl rfl rfl fun e hl he=>?_;have h0_0:e.at 0=V.agg (qb a0):=he 0 _ rfl;have h1_0:e.at 1=V.int .i64 a1:=he 1 _ rfl;have hl_0:e.length=25:=hl;clear he hl;show W A b106 e ⟨[],0⟩ _;unfold F106 at hF;obtain⟨zo1_1,gt13,hF⟩:=bS hF;simp only[simprocAttr, -Int.reduceNatCast',R0,b106, *];refine W.mono (l106_1 a0 a1 gt13 (ei _ (ei _ (ai rfl ?_)))) ?_
 ·simp only[simprocAttr, -Int.reduceNatCast',R0, *]
 rintro _ e _ ⟨rfl,u2,k3,rfl,hl_4,h5_4⟩;have hE:=wA hF; subst hE;simp only[simprocAttr, -Int.reduceNatCast',R0, *];exact qd (by simp only[simprocAttr, -Int.reduceNatCast',R0,qe,p106,Rs.ev,qa,frzs (α:=Int) zo1_1,qO (α:=Int) zo1_1, *])
def F107_1_B(a2:Ar .u8 8)(x1:List Int)(v9_1:Int)(o2_1:(List Int)):Option (((List Int))⊕((List Int))):=
 (getI x1 v9_1).bind fun x7=>
(ixI 8 x7).bind fun n9=>
(chk (a2.val.getD n9 0)).bind fun x12=>
(app 8 o2_1 [x12]).bind fun l14=>
some (.inl l14)
def F107_1_D(a2:Ar .u8 8)(x1:List Int)(v9_1:Int)(o2_1:(List Int)):Option ((List Int)):=
 some o2_1
def F107(a0:GDga)(a1:Int)(a2:Ar .u8 8):Option (List Int):=
 (F106 a0 a1).bind fun x1=>
 (forR 0 (x1.length:Int) (F107_1_B a2 x1) (F107_1_D a2 x1) ([]:(List Int))).bind fun zo2_1=>
 some zo2_1
def I107_1(a2:Ar .u8 8)(x1:List Int)(v9_1:Int)(o2_1:(List Int))(e:Env)(h:Heap):Prop:=
 ∃u4 k5:Nat,h=⟨[(0,none),(0,none),(u4,some (o2_1.map Enc.enc))],k5⟩∧e.length=31∧e.at 5=V.iptr (arc .u8 8 a2.val)∧e.at 7=V.isl (x1.map Enc.enc)∧e.at 8=V.sl 2 u4 0 o2_1.length 1∧e.at 9=V.int .i64 v9_1
def P107_1(a2:Ar .u8 8)(x1:List Int)(zo2_1:(List Int))(x:Ex)(e:Env)(h:Heap):Prop:=
 x= .normal∧∃u4 k5:Nat,h=⟨[(0,none),(0,none),(u4,some (zo2_1.map Enc.enc))],k5⟩∧e.length=31∧e.at 8=V.sl 2 u4 0 zo2_1.length 1
theorem l107_1(a2:Ar .u8 8)(x1:List Int){lo:Int}{s:(List Int)}{t:(List Int)}(hF:forR lo (x1.length:Int) (F107_1_B a2 x1) (F107_1_D a2 x1) s=some t){e:Env}{h:Heap}(hI:I107_1 a2 x1 lo s e h):W A c107_1 e h (P107_1 a2 x1 t):=by
 show W A (.block 0 (.loop false b107_1)) e h _;rw[qi];refine qr hF 3 (by obtain⟨_,_,rfl,_⟩:=hI; rfl) (I107_1 a2 x1) hI ?_ ?_
 ·rintro v9_1 o2_1 e h ⟨u4,k5,rfl,h_3⟩ hlt hw o ho
  unfold F107_1_B at ho;obtain⟨x7,gx7,ho⟩:=bS ho;obtain⟨w8a,w8b⟩:=ql gx7;obtain⟨n9,gn9,ho⟩:=bS ho;obtain⟨w10a,w10b,w10c,w10d⟩:=qU gn9;have w11:qf none (List.drop n9 (arc .u8 8 a2.val))=some (V.int .u8 (a2.val.getD n9 0)):=zo (i:=n9) (by omega) (by omega);obtain⟨x12,gx12,ho⟩:=bS ho;have wx12:=qx gx12;obtain⟨l14,gl14,ho⟩:=bS ho;have w13:=fun a b c d e=> qC (α:=Int) (n:=o2_1.length) (m:=1) (ds:=[V.int .i64 x12]) gl14 (by first|rfl|simp) (by first|rfl|simp) rfl a b c d e;have w13l:=qM gl14;cases ho;simp only[simprocAttr, -Int.reduceNatCast',R0,b107_1, *];refine ai rfl (ei _ (ei _ (ai rfl ?_)));simp only[simprocAttr, -Int.reduceNatCast',R0, *]
 ·rintro v9_1 o2_1 e h ⟨u4,k5,rfl,h_3⟩ hge t1 ho
  unfold F107_1_D at ho;cases ho;simp only[simprocAttr, -Int.reduceNatCast',R0,b107_1, *];intro ht; subst ht;refine ai rfl (ei _ (ei _ (ai rfl ?_)));simp only[simprocAttr, -Int.reduceNatCast',R0, *]
theorem s107(a0:GDga)(a1:Int)(a2:Ar .u8 8){r:List Int}(hF:F107 a0 a1 a2=some r):ans A 107 [V.agg (qb a0),V.int .i64 a1,V.agg (arc .u8 8 a2.val)]=some (Enc.enc r):=by
 refine qu (f:=p107) rfl rfl rfl fun e hl he=>?_;have h0_0:e.at 0=V.agg (qb a0):=he 0 _ rfl;have h1_0:e.at 1=V.int .i64 a1:=he 1 _ rfl;have h2_0:e.at 2=V.agg (arc .u8 8 a2.val):=he 2 _ rfl;have hl_0:e.length=31:=hl;clear he hl;show W A b107 e ⟨[],0⟩ _;unfold F107 at hF;obtain⟨x1,gx1,hF⟩:=bS hF;have w2:=s106 a0 a1 gx1;obtain⟨zo2_1,gt15,hF⟩:=bS hF;simp only[simprocAttr, -Int.reduceNatCast',R0,b107, *];refine W.mono (l107_1 a2 x1 gt15 (ei _ (ei _ (ai rfl ?_)))) ?_
 ·simp only[simprocAttr, -Int.reduceNatCast',R0, *]
 rintro _ e _ ⟨rfl,u4,k5,rfl,hl_6,h8_6⟩;have hE:=wA hF; subst hE;simp only[simprocAttr, -Int.reduceNatCast',R0, *];exact qd (by simp only[simprocAttr, -Int.reduceNatCast',R0,qe,p107,Rs.ev,qa,frzs (α:=Int) zo2_1,qO (α:=Int) zo2_1, *])
def F65_2_B(a0:GDga)(o2_1:List Int)(o3_1:List (List (List Int)))(o4_1:List (List Int))(q5_0_1:Int)(v4_1:Int)(x14:List Int)(v8_2:Int)(s:(List Int)×(List (List Int))):Option (((List Int)×(List (List Int)))⊕((List Int)×(List (List Int)))):=
 match s with
 |(o6_2,o7_2)=>
  (getI x14 v8_2).bind fun x21=>
  (ixI 8 x21).bind fun n23=>
  (app 8 o6_2 [(a0.Levels.val.getD n23 0)]).bind fun l27=>
  (chk (v4_1 - 1)).bind fun x28=>
  (F107 a0 x28 ⟨(arP a0.Diff.val (n23*8) 8)⟩).bind fun x30=>
  (app 24 o7_2 [x30]).bind fun l33=>
  some (.inl (l27,l33))
def F65_2_D(a0:GDga)(o2_1:List Int)(o3_1:List (List (List Int)))(o4_1:List (List Int))(q5_0_1:Int)(v4_1:Int)(x14:List Int)(v8_2:Int)(s:(List Int)×(List (List Int))):Option ((List Int)×(List (List Int))):=
 match s with
 |(o6_2,o7_2)=>
  some (o6_2,o7_2)
def F65_1_S(a0:GDga)(s:(List Int)×(List (List (List Int)))×(List (List Int))×Int×Int):Option (((List Int)×(List (List (List Int)))×(List (List Int))×Int×Int)⊕((List Int)×(List (List (List Int)))×(List (List Int))×Int)):=
 match s with
 |(o2_1,o3_1,o4_1,q5_0_1,v4_1)=>
  (chk (a0.Size - 1)).bind fun x9=>
  (ixI 8 x9).bind fun n10=>
  if v4_1≤(a0.Degrees.val.getD n10 0)then
   (F106 a0 v4_1).bind fun x14=>
   (forR 0 (x14.length:Int) (F65_2_B a0 o2_1 o3_1 o4_1 q5_0_1 v4_1 x14) (F65_2_D a0 o2_1 o3_1 o4_1 q5_0_1 v4_1 x14) ([],[])).bind fun t34=> match t34 with
    |(zo6_2,zo7_2)=>
     (app 8 o2_1 [(x14.length:Int)]).bind fun l36=>
     (app 24 o4_1 [zo6_2]).bind fun l38=>
     if 0 < v4_1 then
      (app 24 o3_1 [zo7_2]).bind fun l41=>
      (chk (v4_1+1)).bind fun x42=>
      some (.inl (l36,l41,l38,q5_0_1,x42))
     else
      (chk (v4_1+1)).bind fun x43=>
      some (.inl (l36,o3_1,l38,q5_0_1,x43))
  else
   some (.inr (o2_1,o3_1,o4_1,q5_0_1))
def F65(a0:GDga):Option qc:=
 (zD (F65_1_S a0) ([],[],[],a0.Prime,0)).bind fun t44=> match t44 with
  |(zo2_1,zo3_1,zo4_1,zq5_0_1)=>
   some ⟨⟨zq5_0_1,zo2_1,zo3_1⟩,zo4_1⟩
def I65_2(a0:GDga)(o2_1:List Int)(o3_1:List (List (List Int)))(o4_1:List (List Int))(q5_0_1:Int)(v4_1:Int)(x14:List Int)(u3 u4 u5:Nat)(v8_2:Int)(s:(List Int)×(List (List Int)))(e:Env)(h:Heap):Prop:=
 match s with
 |(o6_2,o7_2)=>
  ∃u17 u18 k19:Nat,h=⟨[(0,none),(1,some [V.int .i64 0,V.nils,V.nils,V.nils]),(u3,some (o2_1.map Enc.enc)),(u4,some (o3_1.map Enc.enc)),(u5,some (o4_1.map Enc.enc)),(5,some [V.int .i64 q5_0_1,V.sl 2 u3 0 o2_1.length 1,V.sl 3 u4 0 o3_1.length 1,V.sl 4 u5 0 o4_1.length 1]),(u17,some (o6_2.map Enc.enc)),(u18,some (o7_2.map Enc.enc))],k19⟩∧e.length=87∧e.at 1=V.iptr (qb a0)∧e.at 2=V.ptr 1 1 0∧e.at 3=V.ptr 5 5 0∧e.at 4=V.int .i64 v4_1∧e.at 5=V.isl (x14.map Enc.enc)∧e.at 6=V.sl 6 u17 0 o6_2.length 1∧e.at 7=V.sl 7 u18 0 o7_2.length 1∧e.at 8=V.int .i64 v8_2
def P65_2(a0:GDga)(o2_1:List Int)(o3_1:List (List (List Int)))(o4_1:List (List Int))(q5_0_1:Int)(v4_1:Int)(x14:List Int)(u3 u4 u5:Nat)(t:(List Int)×(List (List Int)))(x:Ex)(e:Env)(h:Heap):Prop:=
 match t with
 |(zo6_2,zo7_2)=>
  x= .normal∧∃u17 u18 k19:Nat,h=⟨[(0,none),(1,some [V.int .i64 0,V.nils,V.nils,V.nils]),(u3,some (o2_1.map Enc.enc)),(u4,some (o3_1.map Enc.enc)),(u5,some (o4_1.map Enc.enc)),(5,some [V.int .i64 q5_0_1,V.sl 2 u3 0 o2_1.length 1,V.sl 3 u4 0 o3_1.length 1,V.sl 4 u5 0 o4_1.length 1]),(u17,some (zo6_2.map Enc.enc)),(u18,some (zo7_2.map Enc.enc))],k19⟩∧e.length=87∧e.at 1=V.iptr (qb a0)∧e.at 2=V.ptr 1 1 0∧e.at 3=V.ptr 5 5 0∧e.at 4=V.int .i64 v4_1∧e.at 5=V.isl (x14.map Enc.enc)∧e.at 6=V.sl 6 u17 0 zo6_2.length 1∧e.at 7=V.sl 7 u18 0 zo7_2.length 1
theorem l65_2(a0:GDga)(o2_1:List Int)(o3_1:List (List (List Int)))(o4_1:List (List Int))(q5_0_1:Int)(v4_1:Int)(x14:List Int)(u3 u4 u5:Nat){lo:Int}{s:(List Int)×(List (List Int))}{t:(List Int)×(List (List Int))}(hF:forR lo (x14.length:Int) (F65_2_B a0 o2_1 o3_1 o4_1 q5_0_1 v4_1 x14) (F65_2_D a0 o2_1 o3_1 o4_1 q5_0_1 v4_1 x14) s=some t){e:Env}{h:Heap}(hI:I65_2 a0 o2_1 o3_1 o4_1 q5_0_1 v4_1 x14 u3 u4 u5 lo s e h):W A c65_2 e h (P65_2 a0 o2_1 o3_1 o4_1 q5_0_1 v4_1 x14 u3 u4 u5 t):=by
 show W A (.block 2 (.loop false b65_2)) e h _;rw[qi];refine qr hF 8 (by rcases s with⟨_,_⟩; obtain⟨_,_,_,rfl,_⟩:=hI; rfl) (I65_2 a0 o2_1 o3_1 o4_1 q5_0_1 v4_1 x14 u3 u4 u5) hI ?_ ?_
 ·rintro v8_2 ⟨o6_2,o7_2⟩ e h ⟨u17,u18,k19,rfl,h_16⟩ hlt hw o ho
  unfold F65_2_B at ho;dsimp only at ho;obtain⟨x21,gx21,ho⟩:=bS ho;obtain⟨w22a,w22b⟩:=ql gx21;obtain⟨n23,gn23,ho⟩:=bS ho;obtain⟨w24a,w24b,w24c,w24d⟩:=qU gn23;have w25:qf none (List.drop n23 (List.drop 10 (qb a0)))=some (V.int .i64 (a0.Levels.val.getD n23 0)):=by simp only[wH]; exact qv (i:=n23) (by omega) (by omega)
  obtain⟨l27,gl27,ho⟩:=bS ho;have w26:=fun a b c d e=> qC (α:=Int) (n:=o6_2.length) (m:=1) (ds:=[V.int .i64 (a0.Levels.val.getD n23 0)]) gl27 (by first|rfl|simp) (by first|rfl|simp) rfl a b c d e;have w26l:=qM gl27;obtain⟨x28,gx28,ho⟩:=bS ho;have wx28:=qx gx28;have w29:List.take 8 (List.drop (n23*8) (List.drop 18 (qb a0)))=arc .u8 8 (arP a0.Diff.val (n23*8) 8):=by simp only[wH]; exact qH (i:=n23*8) (m:=8) (by omega) (by omega)
  have w29l:8≤List.length (List.drop (n23*8) (List.drop 18 (qb a0))):=by simp only[wQ,qj,qy]; omega
  obtain⟨x30,gx30,ho⟩:=bS ho;have w31:ans A 107 [V.agg (qb a0),V.int .i64 x28,V.agg (arc .u8 8 (arP a0.Diff.val (n23*8) 8))]=some (V.isl (x30.map Enc.enc)):=s107 a0 x28 ⟨(arP a0.Diff.val (n23*8) 8)⟩ gx30;obtain⟨l33,gl33,ho⟩:=bS ho;have w32:=fun a b c d e=> qC (α:=List Int) (n:=o7_2.length) (m:=1) (ds:=[V.isl (x30.map Enc.enc)]) gl33 (by first|rfl|simp) (by first|rfl|simp) rfl a b c d e;have w32l:=qM gl33;cases ho;simp only[simprocAttr, -Int.reduceNatCast',R0,b65_2, *];refine ai rfl (ei _ (ei _ (ei _ (ai rfl ?_))));simp only[simprocAttr, -Int.reduceNatCast',R0, *]
 ·rintro v8_2 ⟨o6_2,o7_2⟩ e h ⟨u17,u18,k19,rfl,h_16⟩ hge t1 ho
  unfold F65_2_D at ho;dsimp only at ho;cases ho;simp only[simprocAttr, -Int.reduceNatCast',R0,b65_2, *];intro ht; subst ht;refine ai rfl (ei _ (ei _ (ei _ (ai rfl ?_))));simp only[simprocAttr, -Int.reduceNatCast',R0, *]
def I65_1(a0:GDga)(s:(List Int)×(List (List (List Int)))×(List (List Int))×Int×Int)(e:Env)(h:Heap):Prop:=
 match s with
 |(o2_1,o3_1,o4_1,q5_0_1,v4_1)=>
  ∃u3 u4 u5 k6:Nat,h=⟨[(0,none),(1,some [V.int .i64 0,V.nils,V.nils,V.nils]),(u3,some (o2_1.map Enc.enc)),(u4,some (o3_1.map Enc.enc)),(u5,some (o4_1.map Enc.enc)),(5,some [V.int .i64 q5_0_1,V.sl 2 u3 0 o2_1.length 1,V.sl 3 u4 0 o3_1.length 1,V.sl 4 u5 0 o4_1.length 1])],k6⟩∧e.length=87∧e.at 1=V.iptr (qb a0)∧e.at 2=V.ptr 1 1 0∧e.at 3=V.ptr 5 5 0∧e.at 4=V.int .i64 v4_1
def P65_1(a0:GDga)(t:(List Int)×(List (List (List Int)))×(List (List Int))×Int)(x:Ex)(e:Env)(h:Heap):Prop:=
 match t with
 |(zo2_1,zo3_1,zo4_1,zq5_0_1)=>
  x= .normal∧∃u3 u4 u5 k6:Nat,h=⟨[(0,none),(1,some [V.int .i64 0,V.nils,V.nils,V.nils]),(u3,some (zo2_1.map Enc.enc)),(u4,some (zo3_1.map Enc.enc)),(u5,some (zo4_1.map Enc.enc)),(5,some [V.int .i64 zq5_0_1,V.sl 2 u3 0 zo2_1.length 1,V.sl 3 u4 0 zo3_1.length 1,V.sl 4 u5 0 zo4_1.length 1])],k6⟩∧e.length=87∧e.at 2=V.ptr 1 1 0∧e.at 3=V.ptr 5 5 0
theorem l65_1(a0:GDga){s:(List Int)×(List (List (List Int)))×(List (List Int))×Int×Int}{t:(List Int)×(List (List (List Int)))×(List (List Int))×Int}(hF:zD (F65_1_S a0) s=some t){e:Env}{h:Heap}(hI:I65_1 a0 s e h):W A c65_1 e h (P65_1 a0 t):=by
 show W A (.block 0 (.loop false b65_1)) e h _;rw[qi];refine W_loop hF 6 (by rcases s with⟨_,_,_,_,_⟩; obtain⟨_,_,_,_,rfl,_⟩:=hI; rfl) (I65_1 a0) hI ?_
 ·rintro⟨o2_1,o3_1,o4_1,q5_0_1,v4_1⟩ e h ⟨u3,u4,u5,k6,rfl,h_2⟩ o ho
  unfold F65_1_S at ho;dsimp only at ho;have w8:qf none (List.drop 1 (qb a0))=some (V.int .i64 a0.Size):=qk rfl;obtain⟨x9,gx9,ho⟩:=bS ho;have wx9:=qx gx9;obtain⟨n10,gn10,ho⟩:=bS ho;obtain⟨w11a,w11b,w11c,w11d⟩:=qU gn10;have w12:qf none (List.drop n10 (List.drop 2 (qb a0)))=some (V.int .i64 (a0.Degrees.val.getD n10 0)):=by simp only[wH]; exact qm (i:=n10) (by omega) (by omega)
  by_cases c13:v4_1≤(a0.Degrees.val.getD n10 0)
  ·rw[if_pos c13]at ho
   obtain⟨x14,gx14,ho⟩:=bS ho;have w15:ans A 106 [V.agg (qb a0),V.int .i64 v4_1]=some (V.isl (x14.map Enc.enc)):=s106 a0 v4_1 gx14;obtain⟨⟨zo6_2,zo7_2⟩,gt34,ho⟩:=bS ho;dsimp only at ho;simp only[simprocAttr, -Int.reduceNatCast',R0,b65_1,h_2,w8,wx9,w11a,w11b,w11c,w12,eq_true c13,w15];refine W.mono (l65_2 a0 o2_1 o3_1 o4_1 q5_0_1 v4_1 x14 u3 u4 u5 gt34 (ei _ (ei _ (ei _ (ai rfl ?_))))) ?_
   ·simp only[simprocAttr, -Int.reduceNatCast',R0,h_2,w8,wx9,w11a,w11b,w11c,w12,eq_true c13,w15]
   rintro _ e _ ⟨rfl,u17,u18,k19,rfl,h_20⟩;obtain⟨l36,gl36,ho⟩:=bS ho;have w35:=fun a b c d e=> qC (α:=Int) (n:=o2_1.length) (m:=1) (ds:=[V.int .i64 (x14.length:Int)]) gl36 (by first|rfl|simp) (by first|rfl|simp) rfl a b c d e;have w35l:=qM gl36;obtain⟨l38,gl38,ho⟩:=bS ho;have w37:=fun a b c d e=> qC (α:=List Int) (n:=o4_1.length) (m:=1) (ds:=[V.isl (zo6_2.map Enc.enc)]) gl38 (by first|rfl|simp) (by first|rfl|simp) rfl a b c d e;have w37l:=qM gl38;by_cases c39:0 < v4_1
   ·rw[if_pos c39]at ho
    obtain⟨l41,gl41,ho⟩:=bS ho;have w40:=fun a b c d e=> qC (α:=List (List Int)) (n:=o3_1.length) (m:=1) (ds:=[V.isl (zo7_2.map Enc.enc)]) gl41 (by first|rfl|simp) (by first|rfl|simp) rfl a b c d e;have w40l:=qM gl41;obtain⟨x42,gx42,ho⟩:=bS ho;have wx42:=qx gx42;cases ho;simp only[simprocAttr, -Int.reduceNatCast',R0,h_20,eq_true c13,w35,qO (α:=Int) zo6_2,w37,eq_true c39,qO (α:=List Int) zo7_2,w40,wx42];refine ai rfl (ei _ (ei _ (ei _ (ei _ (ai rfl ?_)))));simp only[simprocAttr, -Int.reduceNatCast',R0,h_20,eq_true c13,w35,qO (α:=Int) zo6_2,w37,eq_true c39,qO (α:=List Int) zo7_2,w40,wx42]
   ·rw[if_neg c39]at ho
    obtain⟨x43,gx43,ho⟩:=bS ho;have wx43:=qx gx43;cases ho;simp only[simprocAttr, -Int.reduceNatCast',R0,h_20,eq_true c13,w35,qO (α:=Int) zo6_2,w37,eq_false c39,wx43];refine ai rfl (ei _ (ei _ (ei _ (ei _ (ai rfl ?_)))));simp only[simprocAttr, -Int.reduceNatCast',R0,h_20,eq_true c13,w35,qO (α:=Int) zo6_2,w37,eq_false c39,wx43]
  ·rw[if_neg c13]at ho
   cases ho;simp only[simprocAttr, -Int.reduceNatCast',R0,b65_1,h_2,w8,wx9,w11a,w11b,w11c,w12,eq_false c13];intro ht; subst ht;simp only[simprocAttr, -Int.reduceNatCast',RR,RB];refine ai rfl (ei _ (ei _ (ei _ (ei _ (ai rfl ?_)))));simp only[simprocAttr, -Int.reduceNatCast',R0,h_2,w8,wx9,w11a,w11b,w11c,w12,eq_false c13]
theorem s65(a0:GDga){r:qc}(hF:F65 a0=some r):ans A 65 [V.agg (qb a0)]=some (Enc.enc r):=by
 refine qu (f:=p65) rfl rfl rfl fun e hl he=>?_;have h0_0:e.at 0=V.agg (qb a0):=he 0 _ rfl;have hl_0:e.length=87:=hl;clear he hl;show W A b65 e ⟨[],0⟩ _;unfold F65 at hF;have w1:qf none (qb a0)=some (V.int .i64 a0.Prime):=qA (a:=0) rfl;obtain⟨⟨zo2_1,zo3_1,zo4_1,zq5_0_1⟩,gt44,hF⟩:=bS hF;dsimp only at hF;simp only[simprocAttr,R0,b65, *];refine W.mono (l65_1 a0 gt44 (ei _ (ei _ (ei _ (ei _ (ai rfl ?_)))))) ?_
 ·simp only[simprocAttr,R0, *]
 rintro _ e _ ⟨rfl,u3,u4,u5,k6,rfl,h_7⟩;cases hF;simp only[simprocAttr,R0, *];exact qd (by simp only[simprocAttr,R0,qe,p65,Rs.ev,qa,frzs (α:=Int) zo2_1,qO (α:=Int) zo2_1,frzs (α:=List (List Int)) zo3_1,qO (α:=List (List Int)) zo3_1,frzs (α:=List Int) zo4_1,qO (α:=List Int) zo4_1, *])
def F81_1_B(a0:List Int)(v3_1:Int)(s:Unit):Option ((Unit)⊕((Unit)⊕Int)):=
 (getI a0 v3_1).bind fun x4=>
if x4=0 then
 some (.inl ())
else
 some (.inr (.inr v3_1))
def F81_1_D(a0:List Int)(v3_1:Int)(s:Unit):Option ((Unit)⊕Int):=
 some (.inl ())
def F81(a0:List Int):Option Int:=
 (forR 0 (a0.length:Int) (F81_1_B a0) (F81_1_D a0) ()).bind fun t7=> match t7 with
  | .inl _=>
   some (-1)
  | .inr r8=> some r8
def I81_1(a0:List Int)(v3_1:Int)(s:Unit)(e:Env)(h:Heap):Prop:=
 ∃k2:Nat,h=⟨[],k2⟩∧e.length=16∧e.at 0=V.isl (a0.map Enc.enc)∧e.at 3=V.int .i64 v3_1
def P81_1(a0:List Int)(t:(Unit)⊕Int)(x:Ex)(e:Env)(h:Heap):Prop:=
 match t with
 | .inl _=> x= .normal∧∃k2:Nat,h=⟨[],k2⟩∧e.length=16
 | .inr r=> x= .ret∧Fin p81 (Enc.enc r) .ret e h
theorem l81_1(a0:List Int){lo:Int}{s:Unit}{t:(Unit)⊕Int}(hF:forR lo (a0.length:Int) (F81_1_B a0) (F81_1_D a0) s=some t){e:Env}{h:Heap}(hI:I81_1 a0 lo s e h):W A c81_1 e h (P81_1 a0 t):=by
 show W A (.block 0 (.loop false b81_1)) e h _;rw[qi];refine qr hF 0 (by obtain⟨_,rfl,_⟩:=hI; rfl) (I81_1 a0) hI ?_ ?_
 ·rintro v3_1 _ e h ⟨k2,rfl,h_1⟩ hlt hw o ho
  unfold F81_1_B at ho;obtain⟨x4,gx4,ho⟩:=bS ho;obtain⟨w5a,w5b⟩:=ql gx4;by_cases c6:x4=0
  ·rw[if_pos c6]at ho
   cases ho;simp only[simprocAttr,R0,b81_1, *];refine ai rfl (ei _ (ai rfl ?_));simp only[simprocAttr,R0, *]
  ·rw[if_neg c6]at ho
   cases ho;simp only[simprocAttr,R0,b81_1, *];intro ht; subst ht;simp only[simprocAttr,RR,RB];exact ai rfl (qd (by simp only[simprocAttr,R0,qe,p81,Rs.ev,qa, *]))
 ·rintro v3_1 _ e h ⟨k2,rfl,h_1⟩ hge t1 ho
  unfold F81_1_D at ho;cases ho;simp only[simprocAttr,R0,b81_1, *];intro ht; subst ht;refine ai rfl (ei _ (ai rfl ?_));simp only[simprocAttr,R0, *]
theorem s81(a0:List Int){r:Int}(hF:F81 a0=some r):ans A 81 [V.isl (a0.map Enc.enc)]=some (Enc.enc r):=by
 refine qu (f:=p81) rfl rfl rfl fun e hl he=>?_;have h0_0:e.at 0=V.isl (a0.map Enc.enc):=he 0 _ rfl;have hl_0:e.length=16:=hl;clear he hl;have h_0:=ai hl_0 h0_0;show W A b81 e ⟨[],0⟩ _;unfold F81 at hF;obtain⟨t7,gt7,hF⟩:=bS hF;rcases t7 with _|r8
 ·dsimp only at hF
  simp only[simprocAttr,R0,b81, *];refine W.mono (l81_1 a0 gt7 (ei _ (ai rfl ?_))) ?_
  ·simp only[simprocAttr,R0, *]
  rintro _ e _ ⟨rfl,k2,rfl,hl_3⟩;cases hF;simp only[simprocAttr,R0, *];exact qd (by simp only[simprocAttr,R0,qe,p81,Rs.ev,qa, *])
 ·dsimp only at hF
  cases hF;simp only[simprocAttr,R0,b81, *];refine W.mono (l81_1 a0 gt7 (ei _ (ai rfl ?_))) ?_
  ·simp only[simprocAttr,R0, *]
  rintro _ e h ⟨rfl,hq⟩;simp only[simprocAttr,RR,RB];exact hq
def F104(a0:Int):Option (Ar .u8 8):=
 (ixI 8 a0).bind fun n3=>
 (some (arW 8 [] n3 1)).bind fun l5=>
 some ⟨l5⟩
theorem s104(a0:Int){r:Ar .u8 8}(hF:F104 a0=some r):ans A 104 [V.int .i64 a0]=some (Enc.enc r):=by
 refine qu (f:=p104) rfl rfl rfl fun e hl he=>?_;have h0_0:e.at 0=V.int .i64 a0:=he 0 _ rfl;have hl_0:e.length=8:=hl;clear he hl;show W A b104 e ⟨[],0⟩ _;unfold F104 at hF;have w2:List.drop 8 (arc .u8 8 [])=[]:=wI (by rw[qj]; exact wG _);obtain⟨n3,gn3,hF⟩:=bS hF;obtain⟨w4a,w4b,w4c,w4d⟩:=qU gn3;obtain⟨l5,gl5,hF⟩:=bS hF;have w6:List.take n3 (arc .u8 8 [])++[V.int .u8 1]++List.drop (n3+1) (arc .u8 8 [])=arc .u8 8 l5:=by rw[←wA gl5]; exact arc_set (by omega)
 have w6l:n3+1≤8:=by omega
 have w9:List.drop 8 (arc .u8 8 [])=[]:=wI (by rw[qj]; exact wG _);cases hF;simp only[simprocAttr, -Int.reduceNatCast',R0,b104,wB,wB, *];exact qd (by simp only[simprocAttr, -Int.reduceNatCast',R0,qe,p104,Rs.ev,qa,wB,wB, *])
def F127(a0:Int)(a1:Int):Option Int:=
 (remI a1 a0).bind fun x1=>
 (chk (x1+a0)).bind fun x3=>
 (remI x3 a0).bind fun x4=>
 some x4
theorem s127(a0:Int)(a1:Int){r:Int}(hF:F127 a0 a1=some r):ans A 127 [V.int .i64 a0,V.int .i64 a1]=some (Enc.enc r):=by
 refine qu (f:=p127) rfl rfl rfl fun e hl he=>?_;have h0_0:e.at 0=V.int .i64 a0:=he 0 _ rfl;have h1_0:e.at 1=V.int .i64 a1:=he 1 _ rfl;have hl_0:e.length=12:=hl;clear he hl;show W A b127 e ⟨[],0⟩ _;unfold F127 at hF;obtain⟨x1,gx1,hF⟩:=bS hF;obtain⟨w2a,w2b⟩:=rem_w gx1;obtain⟨x3,gx3,hF⟩:=bS hF;have wx3:=qx gx3;obtain⟨x4,gx4,hF⟩:=bS hF;obtain⟨w5a,w5b⟩:=rem_w gx4;cases hF;simp only[simprocAttr,R0,b127, *];exact qd (by simp only[simprocAttr,R0,qe,p127,Rs.ev,qa, *])
def F105_1_B(a0:Int)(a2:Ar .u8 8)(a3:Int)(v9_1:Int)(o0_1:(List Int)):Option (((List Int))⊕((List Int))):=
 (ixI 8 v9_1).bind fun n4=>
(chk (o0_1.getD n4 0)).bind fun x7=>
(chk (a2.val.getD n4 0)).bind fun x9=>
(chk (a3*x9)).bind fun x10=>
(chk (x7+x10)).bind fun x11=>
(F127 a0 x11).bind fun x12=>
(some (arW 8 o0_1 n4 (Go.IntKind.wrap .u8 x12))).bind fun l14=>
some (.inl l14)
def F105_1_D(a0:Int)(a2:Ar .u8 8)(a3:Int)(v9_1:Int)(o0_1:(List Int)):Option ((List Int)):=
 some o0_1
def F105(a0:Int)(a1:Ar .u8 8)(a2:Ar .u8 8)(a3:Int):Option (Ar .u8 8):=
 (forR 0 8 (F105_1_B a0 a2 a3) (F105_1_D a0 a2 a3) a1.val).bind fun zo0_1=>
 some ⟨zo0_1⟩
def I105_1(a0:Int)(a2:Ar .u8 8)(a3:Int)(v9_1:Int)(o0_1:(List Int))(e:Env)(h:Heap):Prop:=
 ∃k2:Nat,h=⟨[(0,some (arc .u8 8 o0_1)),(0,none),(2,some (arc .u8 8 []))],k2⟩∧e.length=31∧e.at 0=V.int .i64 a0∧e.at 3=V.int .i64 a3∧e.at 5=V.ptr 0 0 0∧e.at 6=V.iptr (arc .u8 8 a2.val)∧e.at 8=V.ptr 2 2 0∧e.at 9=V.int .i64 v9_1
def P105_1(a0:Int)(a2:Ar .u8 8)(a3:Int)(zo0_1:(List Int))(x:Ex)(e:Env)(h:Heap):Prop:=
 x= .normal∧∃k2:Nat,h=⟨[(0,some (arc .u8 8 zo0_1)),(0,none),(2,some (arc .u8 8 []))],k2⟩∧e.length=31∧e.at 5=V.ptr 0 0 0∧e.at 8=V.ptr 2 2 0
theorem l105_1(a0:Int)(a2:Ar .u8 8)(a3:Int){lo:Int}{s:(List Int)}{t:(List Int)}(hF:forR lo 8 (F105_1_B a0 a2 a3) (F105_1_D a0 a2 a3) s=some t){e:Env}{h:Heap}(hI:I105_1 a0 a2 a3 lo s e h):W A c105_1 e h (P105_1 a0 a2 a3 t):=by
 show W A (.block 0 (.loop false b105_1)) e h _;rw[qi];refine qr hF 3 (by obtain⟨_,rfl,_⟩:=hI; rfl) (I105_1 a0 a2 a3) hI ?_ ?_
 ·rintro v9_1 o0_1 e h ⟨k2,rfl,h_1⟩ hlt hw o ho
  unfold F105_1_B at ho;obtain⟨n4,gn4,ho⟩:=bS ho;obtain⟨w5a,w5b,w5c,w5d⟩:=qU gn4;have w6:qf none (List.drop n4 (arc .u8 8 o0_1))=some (V.int .u8 (o0_1.getD n4 0)):=zo (i:=n4) (by omega) (by omega);obtain⟨x7,gx7,ho⟩:=bS ho;have wx7:=qx gx7;have w8:qf none (List.drop n4 (arc .u8 8 a2.val))=some (V.int .u8 (a2.val.getD n4 0)):=zo (i:=n4) (by omega) (by omega);obtain⟨x9,gx9,ho⟩:=bS ho;have wx9:=qx gx9;obtain⟨x10,gx10,ho⟩:=bS ho;have wx10:=qx gx10;obtain⟨x11,gx11,ho⟩:=bS ho;have wx11:=qx gx11;obtain⟨x12,gx12,ho⟩:=bS ho;have w13:=s127 a0 x11 gx12;obtain⟨l14,gl14,ho⟩:=bS ho;have w15:List.take n4 (arc .u8 8 o0_1)++[V.int .u8 (Go.IntKind.wrap .u8 x12)]++List.drop (n4+1) (arc .u8 8 o0_1)=arc .u8 8 l14:=by rw[←wA gl14]; exact arc_set (by omega)
  have w15l:n4+1≤8:=by omega
  cases ho;simp only[simprocAttr,R0,b105_1, *];refine ai rfl (ei _ (ai rfl ?_));simp only[simprocAttr,R0, *]
 ·rintro v9_1 o0_1 e h ⟨k2,rfl,h_1⟩ hge t1 ho
  unfold F105_1_D at ho;cases ho;simp only[simprocAttr,R0,b105_1, *];intro ht; subst ht;refine ai rfl (ei _ (ai rfl ?_));simp only[simprocAttr,R0, *]
theorem s105(a0:Int)(a1:Ar .u8 8)(a2:Ar .u8 8)(a3:Int){r:Ar .u8 8}(hF:F105 a0 a1 a2 a3=some r):ans A 105 [V.int .i64 a0,V.agg (arc .u8 8 a1.val),V.agg (arc .u8 8 a2.val),V.int .i64 a3]=some (Enc.enc r):=by
 refine qu (f:=p105) rfl rfl rfl fun e hl he=>?_;have h0_0:e.at 0=V.int .i64 a0:=he 0 _ rfl;have h1_0:e.at 1=V.agg (arc .u8 8 a1.val):=he 1 _ rfl;have h2_0:e.at 2=V.agg (arc .u8 8 a2.val):=he 2 _ rfl;have h3_0:e.at 3=V.int .i64 a3:=he 3 _ rfl;have hl_0:e.length=31:=hl;clear he hl;show W A b105 e ⟨[],0⟩ _;unfold F105 at hF;obtain⟨zo0_1,gt16,hF⟩:=bS hF;simp only[simprocAttr,R0,b105, *];refine W.mono (l105_1 a0 a2 a3 gt16 (ei _ (ai rfl ?_))) ?_
 ·simp only[simprocAttr,R0, *]
 rintro _ e _ ⟨rfl,k2,rfl,h_3⟩;have w19:List.drop 8 (arc .u8 8 [])=[]:=wI (by rw[qj]; exact wG _);cases hF;simp only[simprocAttr,R0,wB, *];exact qd (by simp only[simprocAttr,R0,qe,p105,Rs.ev,qa,wB, *])
def F78(a0:Int):Option Bool:=
 if a0=2 then
  some true
 else
  if a0=3 then
   some true
  else
   if a0=5 then
    some true
   else
    some (decide (a0=7))
theorem s78(a0:Int){r:Bool}(hF:F78 a0=some r):ans A 78 [V.int .i64 a0]=some (Enc.enc r):=by
 refine qu (f:=p78) rfl rfl rfl fun e hl he=>?_;have h0_0:e.at 0=V.int .i64 a0:=he 0 _ rfl;have hl_0:e.length=17:=hl;clear he hl;have h_0:=ai hl_0 h0_0;show W A b78 e ⟨[],0⟩ _;unfold F78 at hF;by_cases c1:a0=2
 ·rw[if_pos c1]at hF
  cases hF;simp only[simprocAttr,R0,b78, *];exact qd (by simp only[simprocAttr,R0,qe,p78,Rs.ev,qa, *])
 ·rw[if_neg c1]at hF
  by_cases c2:a0=3
  ·rw[if_pos c2]at hF
   cases hF;simp only[simprocAttr,R0,b78, *];exact qd (by simp only[simprocAttr,R0,qe,p78,Rs.ev,qa, *])
  ·rw[if_neg c2]at hF
   by_cases c3:a0=5
   ·rw[if_pos c3]at hF
    cases hF;simp only[simprocAttr,R0,b78, *];exact qd (by simp only[simprocAttr,R0,qe,p78,Rs.ev,qa, *])
   ·rw[if_neg c3]at hF
    cases hF;simp only[simprocAttr,R0,b78, *];exact qd (by simp only[simprocAttr,R0,qe,p78,Rs.ev,qa, *])
def F181_1_B(a0:Int)(a1:Int)(a2:Ar .u8 8)(v7_1:Int)(s:Unit):Option ((Unit)⊕((Unit)⊕Bool)):=
 (ixI 8 v7_1).bind fun n4=>
(chk (a2.val.getD n4 0)).bind fun x7=>
if a0≤x7 then
 some (.inr (.inr false))
else
 if a1≤v7_1 then
  if(a2.val.getD n4 0)=0 then
   some (.inl ())
  else
   some (.inr (.inr false))
 else
  some (.inl ())
def F181_1_D(a0:Int)(a1:Int)(a2:Ar .u8 8)(v7_1:Int)(s:Unit):Option ((Unit)⊕Bool):=
 some (.inl ())
def F181(a0:Int)(a1:Int)(a2:Ar .u8 8):Option Bool:=
 (forR 0 8 (F181_1_B a0 a1 a2) (F181_1_D a0 a1 a2) ()).bind fun t11=> match t11 with
  | .inl _=>
   some true
  | .inr r12=> some r12
def I181_1(a0:Int)(a1:Int)(a2:Ar .u8 8)(v7_1:Int)(s:Unit)(e:Env)(h:Heap):Prop:=
 ∃k2:Nat,h=⟨[(0,none)],k2⟩∧e.length=29∧e.at 0=V.int .i64 a0∧e.at 1=V.int .i64 a1∧e.at 5=V.iptr (arc .u8 8 a2.val)∧e.at 7=V.int .i64 v7_1
def P181_1(a0:Int)(a1:Int)(a2:Ar .u8 8)(t:(Unit)⊕Bool)(x:Ex)(e:Env)(h:Heap):Prop:=
 match t with
 | .inl _=> x= .normal∧∃k2:Nat,h=⟨[(0,none)],k2⟩∧e.length=29
 | .inr r=> x= .ret∧Fin p181 (Enc.enc r) .ret e h
theorem l181_1(a0:Int)(a1:Int)(a2:Ar .u8 8){lo:Int}{s:Unit}{t:(Unit)⊕Bool}(hF:forR lo 8 (F181_1_B a0 a1 a2) (F181_1_D a0 a1 a2) s=some t){e:Env}{h:Heap}(hI:I181_1 a0 a1 a2 lo s e h):W A c181_1 e h (P181_1 a0 a1 a2 t):=by
 show W A (.block 0 (.loop false b181_1)) e h _;rw[qi];refine qr hF 1 (by obtain⟨_,rfl,_⟩:=hI; rfl) (I181_1 a0 a1 a2) hI ?_ ?_
 ·rintro v7_1 _ e h ⟨k2,rfl,h_1⟩ hlt hw o ho
  unfold F181_1_B at ho;obtain⟨n4,gn4,ho⟩:=bS ho;obtain⟨w5a,w5b,w5c,w5d⟩:=qU gn4;have w6:qf none (List.drop n4 (arc .u8 8 a2.val))=some (V.int .u8 (a2.val.getD n4 0)):=zo (i:=n4) (by omega) (by omega);obtain⟨x7,gx7,ho⟩:=bS ho;have wx7:=qx gx7;by_cases c8:a0≤x7
  ·rw[if_pos c8]at ho
   cases ho;simp only[simprocAttr,R0,b181_1,h_1,eq_true hlt,hw,w5a,w5b,w5c,w6,wx7,eq_true c8];intro ht; subst ht;simp only[simprocAttr,RR,RB];exact ai rfl (qd (by simp only[simprocAttr,R0,qe,p181,Rs.ev,qa,h_1,eq_true hlt,hw,w5a,w5b,w5c,w6,wx7,eq_true c8]))
  ·rw[if_neg c8]at ho
   by_cases c9:a1≤v7_1
   ·rw[if_pos c9]at ho
    by_cases c10:(a2.val.getD n4 0)=0
    ·rw[if_pos c10]at ho
     cases ho;simp only[simprocAttr,R0,b181_1,h_1,eq_true hlt,hw,w5a,w5b,w5c,w6,wx7,eq_false c8,eq_true c9,eq_true c10];refine ai rfl (ei _ (ai rfl ?_));simp only[simprocAttr,R0,h_1,eq_true hlt,hw,w5a,w5b,w5c,w6,wx7,eq_false c8,eq_true c9,eq_true c10]
    ·rw[if_neg c10]at ho
     cases ho;simp only[simprocAttr,R0,b181_1,h_1,eq_true hlt,hw,w5a,w5b,w5c,w6,wx7,eq_false c8,eq_true c9,eq_false c10];intro ht; subst ht;simp only[simprocAttr,RR,RB];exact ai rfl (qd (by simp only[simprocAttr,R0,qe,p181,Rs.ev,qa,h_1,eq_true hlt,hw,w5a,w5b,w5c,w6,wx7,eq_false c8,eq_true c9,eq_false c10]))
   ·rw[if_neg c9]at ho
    cases ho;simp only[simprocAttr,R0,b181_1,h_1,eq_true hlt,hw,w5a,w5b,w5c,w6,wx7,eq_false c8,eq_false c9];refine ai rfl (ei _ (ai rfl ?_));simp only[simprocAttr,R0,h_1,eq_true hlt,hw,w5a,w5b,w5c,w6,wx7,eq_false c8,eq_false c9]
 ·rintro v7_1 _ e h ⟨k2,rfl,h_1⟩ hge t1 ho
  unfold F181_1_D at ho;cases ho;simp only[simprocAttr,R0,b181_1,h_1,eq_false hge];intro ht; subst ht;refine ai rfl (ei _ (ai rfl ?_));simp only[simprocAttr,R0,h_1,eq_false hge]
theorem s181(a0:Int)(a1:Int)(a2:Ar .u8 8){r:Bool}(hF:F181 a0 a1 a2=some r):ans A 181 [V.int .i64 a0,V.int .i64 a1,V.agg (arc .u8 8 a2.val)]=some (Enc.enc r):=by
 refine qu (f:=p181) rfl rfl rfl fun e hl he=>?_;have h0_0:e.at 0=V.int .i64 a0:=he 0 _ rfl;have h1_0:e.at 1=V.int .i64 a1:=he 1 _ rfl;have h2_0:e.at 2=V.agg (arc .u8 8 a2.val):=he 2 _ rfl;have hl_0:e.length=29:=hl;clear he hl;have h_0:=ai hl_0 (ai h0_0 (ai h1_0 h2_0));show W A b181 e ⟨[],0⟩ _;unfold F181 at hF;obtain⟨t11,gt11,hF⟩:=bS hF;rcases t11 with _|r12
 ·dsimp only at hF
  simp only[simprocAttr,R0,b181, *];refine W.mono (l181_1 a0 a1 a2 gt11 (ei _ (ai rfl ?_))) ?_
  ·simp only[simprocAttr,R0, *]
  rintro _ e _ ⟨rfl,k2,rfl,hl_3⟩;cases hF;simp only[simprocAttr,R0, *];exact qd (by simp only[simprocAttr,R0,qe,p181,Rs.ev,qa, *])
 ·dsimp only at hF
  cases hF;simp only[simprocAttr,R0,b181, *];refine W.mono (l181_1 a0 a1 a2 gt11 (ei _ (ai rfl ?_))) ?_
  ·simp only[simprocAttr,R0, *]
  rintro _ e h ⟨rfl,hq⟩;simp only[simprocAttr,RR,RB];exact hq
def F210_1_B(a0:GDga)(a1:Ar .u8 8)(a2:Int)(a3:Int)(v9_1:Int)(s:Unit):Option ((Unit)⊕((Unit)⊕Bool)):=
 (ixI 8 v9_1).bind fun n5=>
if(a1.val.getD n5 0)=0 then
 some (.inl ())
else
 if(a0.Degrees.val.getD n5 0)=a2 then
  if a3 < (a0.Levels.val.getD n5 0)then
   some (.inr (.inr false))
  else
   some (.inl ())
 else
  some (.inr (.inr false))
def F210_1_D(a0:GDga)(a1:Ar .u8 8)(a2:Int)(a3:Int)(v9_1:Int)(s:Unit):Option ((Unit)⊕Bool):=
 some (.inl ())
def F210(a0:GDga)(a1:Ar .u8 8)(a2:Int)(a3:Int):Option Bool:=
 (forR 0 a0.Size (F210_1_B a0 a1 a2 a3) (F210_1_D a0 a1 a2 a3) ()).bind fun t14=> match t14 with
  | .inl _=>
   some true
  | .inr r15=> some r15
def I210_1(a0:GDga)(a1:Ar .u8 8)(a2:Int)(a3:Int)(v9_1:Int)(s:Unit)(e:Env)(h:Heap):Prop:=
 ∃k2:Nat,h=⟨[(0,none),(0,none)],k2⟩∧e.length=36∧e.at 2=V.int .i64 a2∧e.at 3=V.int .i64 a3∧e.at 4=V.iptr (qb a0)∧e.at 5=V.iptr (arc .u8 8 a1.val)∧e.at 9=V.int .i64 v9_1
def P210_1(a0:GDga)(a1:Ar .u8 8)(a2:Int)(a3:Int)(t:(Unit)⊕Bool)(x:Ex)(e:Env)(h:Heap):Prop:=
 match t with
 | .inl _=> x= .normal∧∃k2:Nat,h=⟨[(0,none),(0,none)],k2⟩∧e.length=36
 | .inr r=> x= .ret∧Fin p210 (Enc.enc r) .ret e h
theorem l210_1(a0:GDga)(a1:Ar .u8 8)(a2:Int)(a3:Int){lo:Int}{s:Unit}{t:(Unit)⊕Bool}(hF:forR lo a0.Size (F210_1_B a0 a1 a2 a3) (F210_1_D a0 a1 a2 a3) s=some t){e:Env}{h:Heap}(hI:I210_1 a0 a1 a2 a3 lo s e h):W A c210_1 e h (P210_1 a0 a1 a2 a3 t):=by
 show W A (.block 0 (.loop false b210_1)) e h _;rw[qi];refine qr hF 2 (by obtain⟨_,rfl,_⟩:=hI; rfl) (I210_1 a0 a1 a2 a3) hI ?_ ?_
 ·rintro v9_1 _ e h ⟨k2,rfl,h_1⟩ hlt hw o ho
  unfold F210_1_B at ho;have w4:qf none (List.drop 1 (qb a0))=some (V.int .i64 a0.Size):=qk rfl;obtain⟨n5,gn5,ho⟩:=bS ho;obtain⟨w6a,w6b,w6c,w6d⟩:=qU gn5;have w7:qf none (List.drop n5 (arc .u8 8 a1.val))=some (V.int .u8 (a1.val.getD n5 0)):=zo (i:=n5) (by omega) (by omega);by_cases c8:(a1.val.getD n5 0)=0
  ·rw[if_pos c8]at ho
   cases ho;simp only[simprocAttr, -Int.reduceNatCast',R0,b210_1, *];refine ai rfl (ei _ (ai rfl ?_));simp only[simprocAttr, -Int.reduceNatCast',R0, *]
  ·rw[if_neg c8]at ho
   have w9:qf none (List.drop n5 (List.drop 2 (qb a0)))=some (V.int .i64 (a0.Degrees.val.getD n5 0)):=by simp only[wH]; exact qm (i:=n5) (by omega) (by omega)
   by_cases c10:(a0.Degrees.val.getD n5 0)=a2
   ·rw[if_pos c10]at ho
    have w11:qf none (List.drop n5 (List.drop 10 (qb a0)))=some (V.int .i64 (a0.Levels.val.getD n5 0)):=by simp only[wH]; exact qv (i:=n5) (by omega) (by omega)
    by_cases c12:a3 < (a0.Levels.val.getD n5 0)
    ·rw[if_pos c12]at ho
     cases ho;simp only[simprocAttr, -Int.reduceNatCast',R0,b210_1, *];intro ht; subst ht;simp only[simprocAttr, -Int.reduceNatCast',RR,RB];exact ai rfl (qd (by simp only[simprocAttr, -Int.reduceNatCast',R0,qe,p210,Rs.ev,qa, *]))
    ·rw[if_neg c12]at ho
     cases ho;simp only[simprocAttr, -Int.reduceNatCast',R0,b210_1, *];refine ai rfl (ei _ (ai rfl ?_));simp only[simprocAttr, -Int.reduceNatCast',R0, *]
   ·rw[if_neg c10]at ho
    cases ho;simp only[simprocAttr, -Int.reduceNatCast',R0,b210_1, *];intro ht; subst ht;simp only[simprocAttr, -Int.reduceNatCast',RR,RB];exact ai rfl (qd (by simp only[simprocAttr, -Int.reduceNatCast',R0,qe,p210,Rs.ev,qa, *]))
 ·rintro v9_1 _ e h ⟨k2,rfl,h_1⟩ hge t1 ho
  unfold F210_1_D at ho;have w13:qf none (List.drop 1 (qb a0))=some (V.int .i64 a0.Size):=qk rfl;cases ho;simp only[simprocAttr, -Int.reduceNatCast',R0,b210_1, *];intro ht; subst ht;refine ai rfl (ei _ (ai rfl ?_));simp only[simprocAttr, -Int.reduceNatCast',R0, *]
theorem s210(a0:GDga)(a1:Ar .u8 8)(a2:Int)(a3:Int){r:Bool}(hF:F210 a0 a1 a2 a3=some r):ans A 210 [V.agg (qb a0),V.agg (arc .u8 8 a1.val),V.int .i64 a2,V.int .i64 a3]=some (Enc.enc r):=by
 refine qu (f:=p210) rfl rfl rfl fun e hl he=>?_;have h0_0:e.at 0=V.agg (qb a0):=he 0 _ rfl;have h1_0:e.at 1=V.agg (arc .u8 8 a1.val):=he 1 _ rfl;have h2_0:e.at 2=V.int .i64 a2:=he 2 _ rfl;have h3_0:e.at 3=V.int .i64 a3:=he 3 _ rfl;have hl_0:e.length=36:=hl;clear he hl;have h_0:=ai hl_0 (ai h0_0 (ai h1_0 (ai h2_0 h3_0)));show W A b210 e ⟨[],0⟩ _;unfold F210 at hF;obtain⟨t14,gt14,hF⟩:=bS hF;rcases t14 with _|r15
 ·dsimp only at hF
  simp only[simprocAttr,R0,b210, *];refine W.mono (l210_1 a0 a1 a2 a3 gt14 (ei _ (ai rfl ?_))) ?_
  ·simp only[simprocAttr,R0, *]
  rintro _ e _ ⟨rfl,k2,rfl,hl_3⟩;cases hF;simp only[simprocAttr,R0, *];exact qd (by simp only[simprocAttr,R0,qe,p210,Rs.ev,qa, *])
 ·dsimp only at hF
  cases hF;simp only[simprocAttr,R0,b210, *];refine W.mono (l210_1 a0 a1 a2 a3 gt14 (ei _ (ai rfl ?_))) ?_
  ·simp only[simprocAttr,R0, *]
  rintro _ e h ⟨rfl,hq⟩;simp only[simprocAttr,RR,RB];exact hq
def jB(a0:GDga)(v3_1:Int)(v4_2:Int)(s:Unit):Option ((Unit)⊕((Unit)⊕Bool)):=
 (ixI 8 v3_1).bind fun n40=>
(ixI 8 v4_2).bind fun n42=>
(F181 a0.Prime a0.Size ⟨(arP a0.Table.val (n40*64+n42*8) 8)⟩).bind fun x45=>
if x45=true then
 if a0.Size≤v3_1 then
  (arE .u8 8 (arP a0.Table.val (n40*64+n42*8) 8) []).bind fun x48=>
  if x48=true then
   some (.inl ())
  else
   some (.inr (.inr false))
 else
  if a0.Size≤v4_2 then
   (arE .u8 8 (arP a0.Table.val (n40*64+n42*8) 8) []).bind fun x51=>
   if x51=true then
    some (.inl ())
   else
    some (.inr (.inr false))
  else
   some (.inl ())
else
 some (.inr (.inr false))
def jP(a0:GDga)(v3_1:Int)(v4_2:Int)(s:Unit):Option ((Unit)⊕Bool):=
 some (.inl ())
def F197_1_B(a0:GDga)(v3_1:Int)(s:Unit):Option ((Unit)⊕((Unit)⊕Bool)):=
 if a0.Size≤v3_1 then
 (ixI 8 v3_1).bind fun n12=>
 if(a0.Degrees.val.getD n12 0)=0 then
  if(a0.Levels.val.getD n12 0)=0 then
   (arE .u8 8 (arP a0.Diff.val (n12*8) 8) []).bind fun x19=>
   if x19=true then
    (F181 a0.Prime a0.Size ⟨(arP a0.Diff.val (n12*8) 8)⟩).bind fun x22=>
    if x22=true then
     (F54 (a0.Degrees.val.getD n12 0) 0 5).bind fun x24=>
     if x24=true then
      (F54 (a0.Levels.val.getD n12 0) 0 5).bind fun x26=>
      if x26=true then
       if 0 < v3_1 then
        if v3_1 < a0.Size then
         (chk (v3_1 - 1)).bind fun x30=>
         (ixI 8 x30).bind fun n31=>
         if(a0.Degrees.val.getD n12 0) < (a0.Degrees.val.getD n31 0)then
          some (.inr (.inr false))
         else
          (forR 0 8 (jB a0 v3_1) (jP a0 v3_1) ()).bind fun t53=> match t53 with
           | .inl _=>
            some (.inl ())
           | .inr r54=> some (.inr (.inr r54))
        else
         (forR 0 8 (jB a0 v3_1) (jP a0 v3_1) ()).bind fun t73=> match t73 with
          | .inl _=>
           some (.inl ())
          | .inr r74=> some (.inr (.inr r74))
       else
        (forR 0 8 (jB a0 v3_1) (jP a0 v3_1) ()).bind fun t93=> match t93 with
         | .inl _=>
          some (.inl ())
         | .inr r94=> some (.inr (.inr r94))
      else
       some (.inr (.inr false))
     else
      some (.inr (.inr false))
    else
     some (.inr (.inr false))
   else
    some (.inr (.inr false))
  else
   some (.inr (.inr false))
 else
  some (.inr (.inr false))
else
 (ixI 8 v3_1).bind fun n96=>
 (F181 a0.Prime a0.Size ⟨(arP a0.Diff.val (n96*8) 8)⟩).bind fun x99=>
 if x99=true then
  (F54 (a0.Degrees.val.getD n96 0) 0 5).bind fun x102=>
  if x102=true then
   (F54 (a0.Levels.val.getD n96 0) 0 5).bind fun x105=>
   if x105=true then
    if 0 < v3_1 then
     if v3_1 < a0.Size then
      (chk (v3_1 - 1)).bind fun x109=>
      (ixI 8 x109).bind fun n110=>
      if(a0.Degrees.val.getD n96 0) < (a0.Degrees.val.getD n110 0)then
       some (.inr (.inr false))
      else
       (forR 0 8 (jB a0 v3_1) (jP a0 v3_1) ()).bind fun t132=> match t132 with
        | .inl _=>
         some (.inl ())
        | .inr r133=> some (.inr (.inr r133))
     else
      (forR 0 8 (jB a0 v3_1) (jP a0 v3_1) ()).bind fun t152=> match t152 with
       | .inl _=>
        some (.inl ())
       | .inr r153=> some (.inr (.inr r153))
    else
     (forR 0 8 (jB a0 v3_1) (jP a0 v3_1) ()).bind fun t172=> match t172 with
      | .inl _=>
       some (.inl ())
      | .inr r173=> some (.inr (.inr r173))
   else
    some (.inr (.inr false))
  else
   some (.inr (.inr false))
 else
  some (.inr (.inr false))
def F197_1_D(a0:GDga)(v3_1:Int)(s:Unit):Option ((Unit)⊕Bool):=
 some (.inl ())
def F197_4_B(a0:GDga)(v5_3:Int)(v6_4:Int)(s:Unit):Option ((Unit)⊕((Unit)⊕Bool)):=
 (ixI 8 v5_3).bind fun n191=>
(ixI 8 v6_4).bind fun n193=>
(chk ((a0.Degrees.val.getD n191 0)+(a0.Degrees.val.getD n193 0))).bind fun x198=>
(chk ((a0.Levels.val.getD n191 0)+(a0.Levels.val.getD n193 0))).bind fun x201=>
(F210 a0 ⟨(arP a0.Table.val (n191*64+n193*8) 8)⟩ x198 x201).bind fun x202=>
if x202=true then
 some (.inl ())
else
 some (.inr (.inr false))
def F197_4_D(a0:GDga)(v5_3:Int)(v6_4:Int)(s:Unit):Option ((Unit)⊕Bool):=
 some (.inl ())
def F197_3_B(a0:GDga)(v5_3:Int)(s:Unit):Option ((Unit)⊕((Unit)⊕Bool)):=
 (ixI 8 v5_3).bind fun n179=>
(chk ((a0.Degrees.val.getD n179 0) - 1)).bind fun x183=>
(F210 a0 ⟨(arP a0.Diff.val (n179*8) 8)⟩ x183 (a0.Levels.val.getD n179 0)).bind fun x185=>
if x185=true then
 (forR 0 a0.Size (F197_4_B a0 v5_3) (F197_4_D a0 v5_3) ()).bind fun t205=> match t205 with
  | .inl _=>
   some (.inl ())
  | .inr r206=> some (.inr (.inr r206))
else
 some (.inr (.inr false))
def F197_3_D(a0:GDga)(v5_3:Int)(s:Unit):Option ((Unit)⊕Bool):=
 some (.inl ())
def F197(a0:GDga):Option Bool:=
 (F78 a0.Prime).bind fun x2=>
 if x2=true then
  (F54 a0.Size 1 8).bind fun x5=>
  if x5=true then
   (forR 0 8 (F197_1_B a0) (F197_1_D a0) ()).bind fun t174=> match t174 with
    | .inl _=>
     (forR 0 a0.Size (F197_3_B a0) (F197_3_D a0) ()).bind fun t208=> match t208 with
      | .inl _=>
       if(a0.Degrees.val.getD 0 0)=0 then
        some (decide ((a0.Levels.val.getD 0 0)=0))
       else
        some false
      | .inr r212=> some r212
    | .inr r213=> some r213
  else
   some false
 else
  some false
def I197_2(a0:GDga)(v3_1:Int)(v4_2:Int)(s:Unit)(e:Env)(h:Heap):Prop:=
 ∃k36:Nat,h=⟨[(0,none)],k36⟩∧e.length=198∧e.at 1=V.iptr (qb a0)∧e.at 3=V.int .i64 v3_1∧e.at 4=V.int .i64 v4_2
def P197_2(a0:GDga)(v3_1:Int)(t:(Unit)⊕Bool)(x:Ex)(e:Env)(h:Heap):Prop:=
 match t with
 | .inl _=> x= .normal∧∃k36:Nat,h=⟨[(0,none)],k36⟩∧e.length=198∧e.at 1=V.iptr (qb a0)∧e.at 3=V.int .i64 v3_1
 | .inr r=> x= .ret∧Fin p197 (Enc.enc r) .ret e h
set_option maxHeartbeats 8000000 in
theorem l197_2(a0:GDga)(v3_1:Int){lo:Int}{s:Unit}{t:(Unit)⊕Bool}(hF:forR lo 8 (jB a0 v3_1) (jP a0 v3_1) s=some t){e:Env}{h:Heap}(hI:I197_2 a0 v3_1 lo s e h):W A c197_2 e h (P197_2 a0 v3_1 t):=by
 show W A (.block 2 (.loop false b197_2)) e h _;rw[qi];refine qr hF 1 (by obtain⟨_,rfl,_⟩:=hI; rfl) (I197_2 a0 v3_1) hI ?_ ?_
 ·rintro v4_2 _ e h ⟨k36,rfl,h_35⟩ hlt hw o ho
  unfold jB at ho;have w38:qf none (qb a0)=some (V.int .i64 a0.Prime):=qA (a:=0) rfl;have w39:qf none (List.drop 1 (qb a0))=some (V.int .i64 a0.Size):=qk rfl;obtain⟨n40,gn40,ho⟩:=bS ho;obtain⟨w41a,w41b,w41c,w41d⟩:=qU gn40;obtain⟨n42,gn42,ho⟩:=bS ho;obtain⟨w43a,w43b,w43c,w43d⟩:=qU gn42;have w44:List.take 8 (List.drop (n42*8) (List.drop (n40*64) (List.drop 82 (qb a0))))=arc .u8 8 (arP a0.Table.val (n40*64+n42*8) 8):=by simp only[wH]; exact qG (i:=n40*64+n42*8) (m:=8) (by omega) (by omega)
  have w44l:8≤List.length (List.drop (n42*8) (List.drop (n40*64) (List.drop 82 (qb a0)))):=by simp only[wQ,qj,qy]; omega
  obtain⟨x45,gx45,ho⟩:=bS ho;have w46:ans A 181 [V.int .i64 a0.Prime,V.int .i64 a0.Size,V.agg (arc .u8 8 (arP a0.Table.val (n40*64+n42*8) 8))]=some (V.bool x45):=s181 a0.Prime a0.Size ⟨(arP a0.Table.val (n40*64+n42*8) 8)⟩ gx45;cases x45 with
  |true=>
   rw[if_pos rfl]at ho;by_cases c47:a0.Size≤v3_1
   ·rw[if_pos c47]at ho
    obtain⟨x48,gx48,ho⟩:=bS ho;have w49:eqSV true 12 (Lay.arr 8 8 1 (Lay.int Go.IntKind.u8)) (V.agg (arc .u8 8 (arP a0.Table.val (n40*64+n42*8) 8))) (V.agg (arc .u8 8 []))=some (V.bool (!x48)):=zE gx48;cases x48 with
    |true=>
     rw[if_pos rfl]at ho;cases ho;simp only[simprocAttr, -Int.reduceNatCast',R0,b197_2, *];refine ai rfl (ei _ (ai rfl ?_));simp only[simprocAttr, -Int.reduceNatCast',R0, *]
    |false=>
     rw[if_neg wC]at ho;cases ho;simp only[simprocAttr, -Int.reduceNatCast',R0,b197_2, *];intro ht; subst ht;simp only[simprocAttr, -Int.reduceNatCast',RR,RB];exact ai rfl (qd (by simp only[simprocAttr, -Int.reduceNatCast',R0,qe,p197,Rs.ev,qa, *]))
   ·rw[if_neg c47]at ho
    by_cases c50:a0.Size≤v4_2
    ·rw[if_pos c50]at ho
     obtain⟨x51,gx51,ho⟩:=bS ho;have w52:eqSV true 12 (Lay.arr 8 8 1 (Lay.int Go.IntKind.u8)) (V.agg (arc .u8 8 (arP a0.Table.val (n40*64+n42*8) 8))) (V.agg (arc .u8 8 []))=some (V.bool (!x51)):=zE gx51;cases x51 with
     |true=>
      rw[if_pos rfl]at ho;cases ho;simp only[simprocAttr, -Int.reduceNatCast',R0,b197_2, *];refine ai rfl (ei _ (ai rfl ?_));simp only[simprocAttr, -Int.reduceNatCast',R0, *]
     |false=>
      rw[if_neg wC]at ho;cases ho;simp only[simprocAttr, -Int.reduceNatCast',R0,b197_2, *];intro ht; subst ht;simp only[simprocAttr, -Int.reduceNatCast',RR,RB];exact ai rfl (qd (by simp only[simprocAttr, -Int.reduceNatCast',R0,qe,p197,Rs.ev,qa, *]))
    ·rw[if_neg c50]at ho
     cases ho;simp only[simprocAttr, -Int.reduceNatCast',R0,b197_2, *];refine ai rfl (ei _ (ai rfl ?_));simp only[simprocAttr, -Int.reduceNatCast',R0, *]
  |false=>
   rw[if_neg wC]at ho;cases ho;simp only[simprocAttr, -Int.reduceNatCast',R0,b197_2, *];intro ht; subst ht;simp only[simprocAttr, -Int.reduceNatCast',RR,RB];exact ai rfl (qd (by simp only[simprocAttr, -Int.reduceNatCast',R0,qe,p197,Rs.ev,qa, *]))
 ·rintro v4_2 _ e h ⟨k36,rfl,h_35⟩ hge t1 ho
  unfold jP at ho;cases ho;simp only[simprocAttr, -Int.reduceNatCast',R0,b197_2, *];intro ht; subst ht;refine ai rfl (ei _ (ai rfl ?_));simp only[simprocAttr, -Int.reduceNatCast',R0, *]
def I197_1(a0:GDga)(v3_1:Int)(s:Unit)(e:Env)(h:Heap):Prop:=
 ∃k8:Nat,h=⟨[(0,none)],k8⟩∧e.length=198∧e.at 1=V.iptr (qb a0)∧e.at 3=V.int .i64 v3_1
def P197_1(a0:GDga)(t:(Unit)⊕Bool)(x:Ex)(e:Env)(h:Heap):Prop:=
 match t with
 | .inl _=> x= .normal∧∃k8:Nat,h=⟨[(0,none)],k8⟩∧e.length=198∧e.at 1=V.iptr (qb a0)
 | .inr r=> x= .ret∧Fin p197 (Enc.enc r) .ret e h
set_option maxHeartbeats 8000000 in
theorem l197_1(a0:GDga){lo:Int}{s:Unit}{t:(Unit)⊕Bool}(hF:forR lo 8 (F197_1_B a0) (F197_1_D a0) s=some t){e:Env}{h:Heap}(hI:I197_1 a0 lo s e h):W A c197_1 e h (P197_1 a0 t):=by
 show W A (.block 0 (.loop false zH)) e h _;rw[qi];refine qr hF 1 (by obtain⟨_,rfl,_⟩:=hI; rfl) (I197_1 a0) hI ?_ ?_
 ·rintro v3_1 _ e h ⟨k8,rfl,h_7⟩ hlt hw o ho
  unfold F197_1_B at ho;have w10:qf none (List.drop 1 (qb a0))=some (V.int .i64 a0.Size):=qk rfl;by_cases c11:a0.Size≤v3_1
  ·rw[if_pos c11]at ho
   obtain⟨n12,gn12,ho⟩:=bS ho;obtain⟨w13a,w13b,w13c,w13d⟩:=qU gn12;have w14:qf none (List.drop n12 (List.drop 2 (qb a0)))=some (V.int .i64 (a0.Degrees.val.getD n12 0)):=by simp only[wH]; exact qm (i:=n12) (by omega) (by omega)
   by_cases c15:(a0.Degrees.val.getD n12 0)=0
   ·rw[if_pos c15]at ho
    have w16:qf none (List.drop n12 (List.drop 10 (qb a0)))=some (V.int .i64 (a0.Levels.val.getD n12 0)):=by simp only[wH]; exact qv (i:=n12) (by omega) (by omega)
    by_cases c17:(a0.Levels.val.getD n12 0)=0
    ·rw[if_pos c17]at ho
     have w18:List.take 8 (List.drop (n12*8) (List.drop 18 (qb a0)))=arc .u8 8 (arP a0.Diff.val (n12*8) 8):=by simp only[wH]; exact qH (i:=n12*8) (m:=8) (by omega) (by omega)
     have w18l:8≤List.length (List.drop (n12*8) (List.drop 18 (qb a0))):=by simp only[wQ,qj,qy]; omega
     obtain⟨x19,gx19,ho⟩:=bS ho;have w20:eqSV true 12 (Lay.arr 8 8 1 (Lay.int Go.IntKind.u8)) (V.agg (arc .u8 8 (arP a0.Diff.val (n12*8) 8))) (V.agg (arc .u8 8 []))=some (V.bool (!x19)):=zE gx19;cases x19 with
     |true=>
      rw[if_pos rfl]at ho;have w21:qf none (qb a0)=some (V.int .i64 a0.Prime):=qA (a:=0) rfl;obtain⟨x22,gx22,ho⟩:=bS ho;have w23:ans A 181 [V.int .i64 a0.Prime,V.int .i64 a0.Size,V.agg (arc .u8 8 (arP a0.Diff.val (n12*8) 8))]=some (V.bool x22):=s181 a0.Prime a0.Size ⟨(arP a0.Diff.val (n12*8) 8)⟩ gx22;cases x22 with
      |true=>
       rw[if_pos rfl]at ho;obtain⟨x24,gx24,ho⟩:=bS ho;have w25:ans A 54 [V.int .i64 (a0.Degrees.val.getD n12 0),V.int .i64 0,V.int .i64 5]=some (V.bool x24):=s54 (a0.Degrees.val.getD n12 0) 0 5 gx24;cases x24 with
       |true=>
        rw[if_pos rfl]at ho;obtain⟨x26,gx26,ho⟩:=bS ho;have w27:ans A 54 [V.int .i64 (a0.Levels.val.getD n12 0),V.int .i64 0,V.int .i64 5]=some (V.bool x26):=s54 (a0.Levels.val.getD n12 0) 0 5 gx26;cases x26 with
        |true=>
         rw[if_pos rfl]at ho;by_cases c28:0 < v3_1
         ·rw[if_pos c28]at ho
          by_cases c29:v3_1 < a0.Size
          ·rw[if_pos c29]at ho
           obtain⟨x30,gx30,ho⟩:=bS ho;have wx30:=qx gx30;obtain⟨n31,gn31,ho⟩:=bS ho;obtain⟨w32a,w32b,w32c,w32d⟩:=qU gn31;have w33:qf none (List.drop n31 (List.drop 2 (qb a0)))=some (V.int .i64 (a0.Degrees.val.getD n31 0)):=by simp only[wH]; exact qm (i:=n31) (by omega) (by omega)
           by_cases c34:(a0.Degrees.val.getD n12 0) < (a0.Degrees.val.getD n31 0)
           ·rw[if_pos c34]at ho
            cases ho;simp only[simprocAttr, -Int.reduceNatCast',R0,zH,h_7,eq_true hlt,hw,w10,eq_true c11,w13a,w13b,w13c,w14,eq_true c15,w16,eq_true c17,w18,eq_true w18l,w20,w21,w23,w25,w27,eq_true c28,eq_true c29,wx30,w32a,w32b,w32c,w33,eq_true c34];intro ht; subst ht;simp only[simprocAttr, -Int.reduceNatCast',RR,RB];exact ai rfl (qd (by simp only[simprocAttr, -Int.reduceNatCast',R0,qe,p197,Rs.ev,qa,h_7,eq_true hlt,hw,w10,eq_true c11,w13a,w13b,w13c,w14,eq_true c15,w16,eq_true c17,w18,eq_true w18l,w20,w21,w23,w25,w27,eq_true c28,eq_true c29,wx30,w32a,w32b,w32c,w33,eq_true c34]))
           ·rw[if_neg c34]at ho
            obtain⟨t53,gt53,ho⟩:=bS ho;rcases t53 with _|r54
            ·dsimp only at ho
             simp only[simprocAttr, -Int.reduceNatCast',R0,zH,h_7,eq_true hlt,hw,w10,eq_true c11,w13a,w13b,w13c,w14,eq_true c15,w16,eq_true c17,w18,eq_true w18l,w20,w21,w23,w25,w27,eq_true c28,eq_true c29,wx30,w32a,w32b,w32c,w33,eq_false c34];refine W.mono (l197_2 a0 v3_1 gt53 (ei _ (ai rfl ?_))) ?_
             ·simp only[simprocAttr, -Int.reduceNatCast',R0,h_7,eq_true hlt,hw,w10,eq_true c11,w13a,w13b,w13c,w14,eq_true c15,w16,eq_true c17,w18,eq_true w18l,w20,w21,w23,w25,w27,eq_true c28,eq_true c29,wx30,w32a,w32b,w32c,w33,eq_false c34]
             rintro _ e _ ⟨rfl,k36,rfl,h_37⟩;cases ho;simp only[simprocAttr, -Int.reduceNatCast',R0,h_37,eq_true hlt,hw,eq_true c11,eq_true c15,eq_true c17,eq_true w18l,eq_true c28,eq_true c29,eq_false c34];refine ai rfl (ei _ (ai rfl ?_));simp only[simprocAttr, -Int.reduceNatCast',R0,h_37,eq_true hlt,hw,eq_true c11,eq_true c15,eq_true c17,eq_true w18l,eq_true c28,eq_true c29,eq_false c34]
            ·dsimp only at ho
             cases ho;simp only[simprocAttr, -Int.reduceNatCast',R0,zH,h_7,eq_true hlt,hw,w10,eq_true c11,w13a,w13b,w13c,w14,eq_true c15,w16,eq_true c17,w18,eq_true w18l,w20,w21,w23,w25,w27,eq_true c28,eq_true c29,wx30,w32a,w32b,w32c,w33,eq_false c34];refine W.mono (l197_2 a0 v3_1 gt53 (ei _ (ai rfl ?_))) ?_
             ·simp only[simprocAttr, -Int.reduceNatCast',R0,h_7,eq_true hlt,hw,w10,eq_true c11,w13a,w13b,w13c,w14,eq_true c15,w16,eq_true c17,w18,eq_true w18l,w20,w21,w23,w25,w27,eq_true c28,eq_true c29,wx30,w32a,w32b,w32c,w33,eq_false c34]
             rintro _ e h ⟨rfl,hq⟩;simp only[simprocAttr, -Int.reduceNatCast',RR,RB];intro ht; subst ht;simp only[simprocAttr, -Int.reduceNatCast',RR,RB];exact ai rfl hq
          ·rw[if_neg c29]at ho
           obtain⟨t73,gt73,ho⟩:=bS ho;rcases t73 with _|r74
           ·dsimp only at ho
            simp only[simprocAttr, -Int.reduceNatCast',R0,zH,h_7,eq_true hlt,hw,w10,eq_true c11,w13a,w13b,w13c,w14,eq_true c15,w16,eq_true c17,w18,eq_true w18l,w20,w21,w23,w25,w27,eq_true c28,eq_false c29];refine W.mono (l197_2 a0 v3_1 gt73 (ei _ (ai rfl ?_))) ?_
            ·simp only[simprocAttr, -Int.reduceNatCast',R0,h_7,eq_true hlt,hw,w10,eq_true c11,w13a,w13b,w13c,w14,eq_true c15,w16,eq_true c17,w18,eq_true w18l,w20,w21,w23,w25,w27,eq_true c28,eq_false c29]
            rintro _ e _ ⟨rfl,k56,rfl,h_57⟩;cases ho;simp only[simprocAttr, -Int.reduceNatCast',R0,h_57,eq_true hlt,hw,eq_true c11,eq_true c15,eq_true c17,eq_true w18l,eq_true c28,eq_false c29];refine ai rfl (ei _ (ai rfl ?_));simp only[simprocAttr, -Int.reduceNatCast',R0,h_57,eq_true hlt,hw,eq_true c11,eq_true c15,eq_true c17,eq_true w18l,eq_true c28,eq_false c29]
           ·dsimp only at ho
            cases ho;simp only[simprocAttr, -Int.reduceNatCast',R0,zH,h_7,eq_true hlt,hw,w10,eq_true c11,w13a,w13b,w13c,w14,eq_true c15,w16,eq_true c17,w18,eq_true w18l,w20,w21,w23,w25,w27,eq_true c28,eq_false c29];refine W.mono (l197_2 a0 v3_1 gt73 (ei _ (ai rfl ?_))) ?_
            ·simp only[simprocAttr, -Int.reduceNatCast',R0,h_7,eq_true hlt,hw,w10,eq_true c11,w13a,w13b,w13c,w14,eq_true c15,w16,eq_true c17,w18,eq_true w18l,w20,w21,w23,w25,w27,eq_true c28,eq_false c29]
            rintro _ e h ⟨rfl,hq⟩;simp only[simprocAttr, -Int.reduceNatCast',RR,RB];intro ht; subst ht;simp only[simprocAttr, -Int.reduceNatCast',RR,RB];exact ai rfl hq
         ·rw[if_neg c28]at ho
          obtain⟨t93,gt93,ho⟩:=bS ho;rcases t93 with _|r94
          ·dsimp only at ho
           simp only[simprocAttr, -Int.reduceNatCast',R0,zH,h_7,eq_true hlt,hw,w10,eq_true c11,w13a,w13b,w13c,w14,eq_true c15,w16,eq_true c17,w18,eq_true w18l,w20,w21,w23,w25,w27,eq_false c28];refine W.mono (l197_2 a0 v3_1 gt93 (ei _ (ai rfl ?_))) ?_
           ·simp only[simprocAttr, -Int.reduceNatCast',R0,h_7,eq_true hlt,hw,w10,eq_true c11,w13a,w13b,w13c,w14,eq_true c15,w16,eq_true c17,w18,eq_true w18l,w20,w21,w23,w25,w27,eq_false c28]
           rintro _ e _ ⟨rfl,k76,rfl,h_77⟩;cases ho;simp only[simprocAttr, -Int.reduceNatCast',R0,h_77,eq_true hlt,hw,eq_true c11,eq_true c15,eq_true c17,eq_true w18l,eq_false c28];refine ai rfl (ei _ (ai rfl ?_));simp only[simprocAttr, -Int.reduceNatCast',R0,h_77,eq_true hlt,hw,eq_true c11,eq_true c15,eq_true c17,eq_true w18l,eq_false c28]
          ·dsimp only at ho
           cases ho;simp only[simprocAttr, -Int.reduceNatCast',R0,zH,h_7,eq_true hlt,hw,w10,eq_true c11,w13a,w13b,w13c,w14,eq_true c15,w16,eq_true c17,w18,eq_true w18l,w20,w21,w23,w25,w27,eq_false c28];refine W.mono (l197_2 a0 v3_1 gt93 (ei _ (ai rfl ?_))) ?_
           ·simp only[simprocAttr, -Int.reduceNatCast',R0,h_7,eq_true hlt,hw,w10,eq_true c11,w13a,w13b,w13c,w14,eq_true c15,w16,eq_true c17,w18,eq_true w18l,w20,w21,w23,w25,w27,eq_false c28]
           rintro _ e h ⟨rfl,hq⟩;simp only[simprocAttr, -Int.reduceNatCast',RR,RB];intro ht; subst ht;simp only[simprocAttr, -Int.reduceNatCast',RR,RB];exact ai rfl hq
        |false=>
         rw[if_neg wC]at ho;cases ho;simp only[simprocAttr, -Int.reduceNatCast',R0,zH,h_7,eq_true hlt,hw,w10,eq_true c11,w13a,w13b,w13c,w14,eq_true c15,w16,eq_true c17,w18,eq_true w18l,w20,w21,w23,w25,w27];intro ht; subst ht;simp only[simprocAttr, -Int.reduceNatCast',RR,RB];exact ai rfl (qd (by simp only[simprocAttr, -Int.reduceNatCast',R0,qe,p197,Rs.ev,qa,h_7,eq_true hlt,hw,w10,eq_true c11,w13a,w13b,w13c,w14,eq_true c15,w16,eq_true c17,w18,eq_true w18l,w20,w21,w23,w25,w27]))
       |false=>
        rw[if_neg wC]at ho;cases ho;simp only[simprocAttr, -Int.reduceNatCast',R0,zH,h_7,eq_true hlt,hw,w10,eq_true c11,w13a,w13b,w13c,w14,eq_true c15,w16,eq_true c17,w18,eq_true w18l,w20,w21,w23,w25];intro ht; subst ht;simp only[simprocAttr, -Int.reduceNatCast',RR,RB];exact ai rfl (qd (by simp only[simprocAttr, -Int.reduceNatCast',R0,qe,p197,Rs.ev,qa,h_7,eq_true hlt,hw,w10,eq_true c11,w13a,w13b,w13c,w14,eq_true c15,w16,eq_true c17,w18,eq_true w18l,w20,w21,w23,w25]))
      |false=>
       rw[if_neg wC]at ho;cases ho;simp only[simprocAttr, -Int.reduceNatCast',R0,zH,h_7,eq_true hlt,hw,w10,eq_true c11,w13a,w13b,w13c,w14,eq_true c15,w16,eq_true c17,w18,eq_true w18l,w20,w21,w23];intro ht; subst ht;simp only[simprocAttr, -Int.reduceNatCast',RR,RB];exact ai rfl (qd (by simp only[simprocAttr, -Int.reduceNatCast',R0,qe,p197,Rs.ev,qa,h_7,eq_true hlt,hw,w10,eq_true c11,w13a,w13b,w13c,w14,eq_true c15,w16,eq_true c17,w18,eq_true w18l,w20,w21,w23]))
     |false=>
      rw[if_neg wC]at ho;cases ho;simp only[simprocAttr, -Int.reduceNatCast',R0,zH,h_7,eq_true hlt,hw,w10,eq_true c11,w13a,w13b,w13c,w14,eq_true c15,w16,eq_true c17,w18,eq_true w18l,w20];intro ht; subst ht;simp only[simprocAttr, -Int.reduceNatCast',RR,RB];exact ai rfl (qd (by simp only[simprocAttr, -Int.reduceNatCast',R0,qe,p197,Rs.ev,qa,h_7,eq_true hlt,hw,w10,eq_true c11,w13a,w13b,w13c,w14,eq_true c15,w16,eq_true c17,w18,eq_true w18l,w20]))
    ·rw[if_neg c17]at ho
     cases ho;simp only[simprocAttr, -Int.reduceNatCast',R0,zH,h_7,eq_true hlt,hw,w10,eq_true c11,w13a,w13b,w13c,w14,eq_true c15,w16,eq_false c17];intro ht; subst ht;simp only[simprocAttr, -Int.reduceNatCast',RR,RB];exact ai rfl (qd (by simp only[simprocAttr, -Int.reduceNatCast',R0,qe,p197,Rs.ev,qa,h_7,eq_true hlt,hw,w10,eq_true c11,w13a,w13b,w13c,w14,eq_true c15,w16,eq_false c17]))
   ·rw[if_neg c15]at ho
    cases ho;simp only[simprocAttr, -Int.reduceNatCast',R0,zH,h_7,eq_true hlt,hw,w10,eq_true c11,w13a,w13b,w13c,w14,eq_false c15];intro ht; subst ht;simp only[simprocAttr, -Int.reduceNatCast',RR,RB];exact ai rfl (qd (by simp only[simprocAttr, -Int.reduceNatCast',R0,qe,p197,Rs.ev,qa,h_7,eq_true hlt,hw,w10,eq_true c11,w13a,w13b,w13c,w14,eq_false c15]))
  ·rw[if_neg c11]at ho
   have w95:qf none (qb a0)=some (V.int .i64 a0.Prime):=qA (a:=0) rfl;obtain⟨n96,gn96,ho⟩:=bS ho;obtain⟨w97a,w97b,w97c,w97d⟩:=qU gn96;have w98:List.take 8 (List.drop (n96*8) (List.drop 18 (qb a0)))=arc .u8 8 (arP a0.Diff.val (n96*8) 8):=by simp only[wH]; exact qH (i:=n96*8) (m:=8) (by omega) (by omega)
   have w98l:8≤List.length (List.drop (n96*8) (List.drop 18 (qb a0))):=by simp only[wQ,qj,qy]; omega
   obtain⟨x99,gx99,ho⟩:=bS ho;have w100:ans A 181 [V.int .i64 a0.Prime,V.int .i64 a0.Size,V.agg (arc .u8 8 (arP a0.Diff.val (n96*8) 8))]=some (V.bool x99):=s181 a0.Prime a0.Size ⟨(arP a0.Diff.val (n96*8) 8)⟩ gx99;cases x99 with
   |true=>
    rw[if_pos rfl]at ho;have w101:qf none (List.drop n96 (List.drop 2 (qb a0)))=some (V.int .i64 (a0.Degrees.val.getD n96 0)):=by simp only[wH]; exact qm (i:=n96) (by omega) (by omega)
    obtain⟨x102,gx102,ho⟩:=bS ho;have w103:ans A 54 [V.int .i64 (a0.Degrees.val.getD n96 0),V.int .i64 0,V.int .i64 5]=some (V.bool x102):=s54 (a0.Degrees.val.getD n96 0) 0 5 gx102;cases x102 with
    |true=>
     rw[if_pos rfl]at ho;have w104:qf none (List.drop n96 (List.drop 10 (qb a0)))=some (V.int .i64 (a0.Levels.val.getD n96 0)):=by simp only[wH]; exact qv (i:=n96) (by omega) (by omega)
     obtain⟨x105,gx105,ho⟩:=bS ho;have w106:ans A 54 [V.int .i64 (a0.Levels.val.getD n96 0),V.int .i64 0,V.int .i64 5]=some (V.bool x105):=s54 (a0.Levels.val.getD n96 0) 0 5 gx105;cases x105 with
     |true=>
      rw[if_pos rfl]at ho;by_cases c107:0 < v3_1
      ·rw[if_pos c107]at ho
       by_cases c108:v3_1 < a0.Size
       ·rw[if_pos c108]at ho
        obtain⟨x109,gx109,ho⟩:=bS ho;have wx109:=qx gx109;obtain⟨n110,gn110,ho⟩:=bS ho;obtain⟨w111a,w111b,w111c,w111d⟩:=qU gn110;have w112:qf none (List.drop n110 (List.drop 2 (qb a0)))=some (V.int .i64 (a0.Degrees.val.getD n110 0)):=by simp only[wH]; exact qm (i:=n110) (by omega) (by omega)
        by_cases c113:(a0.Degrees.val.getD n96 0) < (a0.Degrees.val.getD n110 0)
        ·rw[if_pos c113]at ho
         cases ho;simp only[simprocAttr, -Int.reduceNatCast',R0,zH,h_7,eq_true hlt,hw,w10,eq_false c11,w95,w97a,w97b,w97c,w98,eq_true w98l,w100,w101,w103,w104,w106,eq_true c107,eq_true c108,wx109,w111a,w111b,w111c,w112,eq_true c113];intro ht; subst ht;simp only[simprocAttr, -Int.reduceNatCast',RR,RB];exact ai rfl (qd (by simp only[simprocAttr, -Int.reduceNatCast',R0,qe,p197,Rs.ev,qa,h_7,eq_true hlt,hw,w10,eq_false c11,w95,w97a,w97b,w97c,w98,eq_true w98l,w100,w101,w103,w104,w106,eq_true c107,eq_true c108,wx109,w111a,w111b,w111c,w112,eq_true c113]))
        ·rw[if_neg c113]at ho
         obtain⟨t132,gt132,ho⟩:=bS ho;rcases t132 with _|r133
         ·dsimp only at ho
          simp only[simprocAttr, -Int.reduceNatCast',R0,zH,h_7,eq_true hlt,hw,w10,eq_false c11,w95,w97a,w97b,w97c,w98,eq_true w98l,w100,w101,w103,w104,w106,eq_true c107,eq_true c108,wx109,w111a,w111b,w111c,w112,eq_false c113];refine W.mono (l197_2 a0 v3_1 gt132 (ei _ (ai rfl ?_))) ?_
          ·simp only[simprocAttr, -Int.reduceNatCast',R0,h_7,eq_true hlt,hw,w10,eq_false c11,w95,w97a,w97b,w97c,w98,eq_true w98l,w100,w101,w103,w104,w106,eq_true c107,eq_true c108,wx109,w111a,w111b,w111c,w112,eq_false c113]
          rintro _ e _ ⟨rfl,k115,rfl,h_116⟩;cases ho;simp only[simprocAttr, -Int.reduceNatCast',R0,h_116,eq_true hlt,hw,eq_false c11,eq_true w98l,eq_true c107,eq_true c108,eq_false c113];refine ai rfl (ei _ (ai rfl ?_));simp only[simprocAttr, -Int.reduceNatCast',R0,h_116,eq_true hlt,hw,eq_false c11,eq_true w98l,eq_true c107,eq_true c108,eq_false c113]
         ·dsimp only at ho
          cases ho;simp only[simprocAttr, -Int.reduceNatCast',R0,zH,h_7,eq_true hlt,hw,w10,eq_false c11,w95,w97a,w97b,w97c,w98,eq_true w98l,w100,w101,w103,w104,w106,eq_true c107,eq_true c108,wx109,w111a,w111b,w111c,w112,eq_false c113];refine W.mono (l197_2 a0 v3_1 gt132 (ei _ (ai rfl ?_))) ?_
          ·simp only[simprocAttr, -Int.reduceNatCast',R0,h_7,eq_true hlt,hw,w10,eq_false c11,w95,w97a,w97b,w97c,w98,eq_true w98l,w100,w101,w103,w104,w106,eq_true c107,eq_true c108,wx109,w111a,w111b,w111c,w112,eq_false c113]
          rintro _ e h ⟨rfl,hq⟩;simp only[simprocAttr, -Int.reduceNatCast',RR,RB];intro ht; subst ht;simp only[simprocAttr, -Int.reduceNatCast',RR,RB];exact ai rfl hq
       ·rw[if_neg c108]at ho
        obtain⟨t152,gt152,ho⟩:=bS ho;rcases t152 with _|r153
        ·dsimp only at ho
         simp only[simprocAttr, -Int.reduceNatCast',R0,zH,h_7,eq_true hlt,hw,w10,eq_false c11,w95,w97a,w97b,w97c,w98,eq_true w98l,w100,w101,w103,w104,w106,eq_true c107,eq_false c108];refine W.mono (l197_2 a0 v3_1 gt152 (ei _ (ai rfl ?_))) ?_
         ·simp only[simprocAttr, -Int.reduceNatCast',R0,h_7,eq_true hlt,hw,w10,eq_false c11,w95,w97a,w97b,w97c,w98,eq_true w98l,w100,w101,w103,w104,w106,eq_true c107,eq_false c108]
         rintro _ e _ ⟨rfl,k135,rfl,h_136⟩;cases ho;simp only[simprocAttr, -Int.reduceNatCast',R0,h_136,eq_true hlt,hw,eq_false c11,eq_true w98l,eq_true c107,eq_false c108];refine ai rfl (ei _ (ai rfl ?_));simp only[simprocAttr, -Int.reduceNatCast',R0,h_136,eq_true hlt,hw,eq_false c11,eq_true w98l,eq_true c107,eq_false c108]
        ·dsimp only at ho
         cases ho;simp only[simprocAttr, -Int.reduceNatCast',R0,zH,h_7,eq_true hlt,hw,w10,eq_false c11,w95,w97a,w97b,w97c,w98,eq_true w98l,w100,w101,w103,w104,w106,eq_true c107,eq_false c108];refine W.mono (l197_2 a0 v3_1 gt152 (ei _ (ai rfl ?_))) ?_
         ·simp only[simprocAttr, -Int.reduceNatCast',R0,h_7,eq_true hlt,hw,w10,eq_false c11,w95,w97a,w97b,w97c,w98,eq_true w98l,w100,w101,w103,w104,w106,eq_true c107,eq_false c108]
         rintro _ e h ⟨rfl,hq⟩;simp only[simprocAttr, -Int.reduceNatCast',RR,RB];intro ht; subst ht;simp only[simprocAttr, -Int.reduceNatCast',RR,RB];exact ai rfl hq
      ·rw[if_neg c107]at ho
       obtain⟨t172,gt172,ho⟩:=bS ho;rcases t172 with _|r173
       ·dsimp only at ho
        simp only[simprocAttr, -Int.reduceNatCast',R0,zH,h_7,eq_true hlt,hw,w10,eq_false c11,w95,w97a,w97b,w97c,w98,eq_true w98l,w100,w101,w103,w104,w106,eq_false c107];refine W.mono (l197_2 a0 v3_1 gt172 (ei _ (ai rfl ?_))) ?_
        ·simp only[simprocAttr, -Int.reduceNatCast',R0,h_7,eq_true hlt,hw,w10,eq_false c11,w95,w97a,w97b,w97c,w98,eq_true w98l,w100,w101,w103,w104,w106,eq_false c107]
        rintro _ e _ ⟨rfl,k155,rfl,h_156⟩;cases ho;simp only[simprocAttr, -Int.reduceNatCast',R0,h_156,eq_true hlt,hw,eq_false c11,eq_true w98l,eq_false c107];refine ai rfl (ei _ (ai rfl ?_));simp only[simprocAttr, -Int.reduceNatCast',R0,h_156,eq_true hlt,hw,eq_false c11,eq_true w98l,eq_false c107]
       ·dsimp only at ho
        cases ho;simp only[simprocAttr, -Int.reduceNatCast',R0,zH,h_7,eq_true hlt,hw,w10,eq_false c11,w95,w97a,w97b,w97c,w98,eq_true w98l,w100,w101,w103,w104,w106,eq_false c107];refine W.mono (l197_2 a0 v3_1 gt172 (ei _ (ai rfl ?_))) ?_
        ·simp only[simprocAttr, -Int.reduceNatCast',R0,h_7,eq_true hlt,hw,w10,eq_false c11,w95,w97a,w97b,w97c,w98,eq_true w98l,w100,w101,w103,w104,w106,eq_false c107]
        rintro _ e h ⟨rfl,hq⟩;simp only[simprocAttr, -Int.reduceNatCast',RR,RB];intro ht; subst ht;simp only[simprocAttr, -Int.reduceNatCast',RR,RB];exact ai rfl hq
     |false=>
      rw[if_neg wC]at ho;cases ho;simp only[simprocAttr, -Int.reduceNatCast',R0,zH,h_7,eq_true hlt,hw,w10,eq_false c11,w95,w97a,w97b,w97c,w98,eq_true w98l,w100,w101,w103,w104,w106];intro ht; subst ht;simp only[simprocAttr, -Int.reduceNatCast',RR,RB];exact ai rfl (qd (by simp only[simprocAttr, -Int.reduceNatCast',R0,qe,p197,Rs.ev,qa,h_7,eq_true hlt,hw,w10,eq_false c11,w95,w97a,w97b,w97c,w98,eq_true w98l,w100,w101,w103,w104,w106]))
    |false=>
     rw[if_neg wC]at ho;cases ho;simp only[simprocAttr, -Int.reduceNatCast',R0,zH,h_7,eq_true hlt,hw,w10,eq_false c11,w95,w97a,w97b,w97c,w98,eq_true w98l,w100,w101,w103];intro ht; subst ht;simp only[simprocAttr, -Int.reduceNatCast',RR,RB];exact ai rfl (qd (by simp only[simprocAttr, -Int.reduceNatCast',R0,qe,p197,Rs.ev,qa,h_7,eq_true hlt,hw,w10,eq_false c11,w95,w97a,w97b,w97c,w98,eq_true w98l,w100,w101,w103]))
   |false=>
    rw[if_neg wC]at ho;cases ho;simp only[simprocAttr, -Int.reduceNatCast',R0,zH,h_7,eq_true hlt,hw,w10,eq_false c11,w95,w97a,w97b,w97c,w98,eq_true w98l,w100];intro ht; subst ht;simp only[simprocAttr, -Int.reduceNatCast',RR,RB];exact ai rfl (qd (by simp only[simprocAttr, -Int.reduceNatCast',R0,qe,p197,Rs.ev,qa,h_7,eq_true hlt,hw,w10,eq_false c11,w95,w97a,w97b,w97c,w98,eq_true w98l,w100]))
 ·rintro v3_1 _ e h ⟨k8,rfl,h_7⟩ hge t1 ho
  unfold F197_1_D at ho;cases ho;simp only[simprocAttr, -Int.reduceNatCast',R0,zH,h_7,eq_false hge];intro ht; subst ht;refine ai rfl (ei _ (ai rfl ?_));simp only[simprocAttr, -Int.reduceNatCast',R0,h_7,eq_false hge]
def I197_4(a0:GDga)(v5_3:Int)(v6_4:Int)(s:Unit)(e:Env)(h:Heap):Prop:=
 ∃k188:Nat,h=⟨[(0,none)],k188⟩∧e.length=198∧e.at 1=V.iptr (qb a0)∧e.at 5=V.int .i64 v5_3∧e.at 6=V.int .i64 v6_4
def P197_4(a0:GDga)(v5_3:Int)(t:(Unit)⊕Bool)(x:Ex)(e:Env)(h:Heap):Prop:=
 match t with
 | .inl _=> x= .normal∧∃k188:Nat,h=⟨[(0,none)],k188⟩∧e.length=198∧e.at 1=V.iptr (qb a0)∧e.at 5=V.int .i64 v5_3
 | .inr r=> x= .ret∧Fin p197 (Enc.enc r) .ret e h
theorem l197_4(a0:GDga)(v5_3:Int){lo:Int}{s:Unit}{t:(Unit)⊕Bool}(hF:forR lo a0.Size (F197_4_B a0 v5_3) (F197_4_D a0 v5_3) s=some t){e:Env}{h:Heap}(hI:I197_4 a0 v5_3 lo s e h):W A c197_4 e h (P197_4 a0 v5_3 t):=by
 show W A (.block 6 (.loop false b197_4)) e h _;rw[qi];refine qr hF 1 (by obtain⟨_,rfl,_⟩:=hI; rfl) (I197_4 a0 v5_3) hI ?_ ?_
 ·rintro v6_4 _ e h ⟨k188,rfl,h_187⟩ hlt hw o ho
  unfold F197_4_B at ho;have w190:qf none (List.drop 1 (qb a0))=some (V.int .i64 a0.Size):=qk rfl;obtain⟨n191,gn191,ho⟩:=bS ho;obtain⟨w192a,w192b,w192c,w192d⟩:=qU gn191;obtain⟨n193,gn193,ho⟩:=bS ho;obtain⟨w194a,w194b,w194c,w194d⟩:=qU gn193;have w195:List.take 8 (List.drop (n193*8) (List.drop (n191*64) (List.drop 82 (qb a0))))=arc .u8 8 (arP a0.Table.val (n191*64+n193*8) 8):=by simp only[wH]; exact qG (i:=n191*64+n193*8) (m:=8) (by omega) (by omega)
  have w195l:8≤List.length (List.drop (n193*8) (List.drop (n191*64) (List.drop 82 (qb a0)))):=by simp only[wQ,qj,qy]; omega
  have w196:qf none (List.drop n191 (List.drop 2 (qb a0)))=some (V.int .i64 (a0.Degrees.val.getD n191 0)):=by simp only[wH]; exact qm (i:=n191) (by omega) (by omega)
  have w197:qf none (List.drop n193 (List.drop 2 (qb a0)))=some (V.int .i64 (a0.Degrees.val.getD n193 0)):=by simp only[wH]; exact qm (i:=n193) (by omega) (by omega)
  obtain⟨x198,gx198,ho⟩:=bS ho;have wx198:=qx gx198;have w199:qf none (List.drop n191 (List.drop 10 (qb a0)))=some (V.int .i64 (a0.Levels.val.getD n191 0)):=by simp only[wH]; exact qv (i:=n191) (by omega) (by omega)
  have w200:qf none (List.drop n193 (List.drop 10 (qb a0)))=some (V.int .i64 (a0.Levels.val.getD n193 0)):=by simp only[wH]; exact qv (i:=n193) (by omega) (by omega)
  obtain⟨x201,gx201,ho⟩:=bS ho;have wx201:=qx gx201;obtain⟨x202,gx202,ho⟩:=bS ho;have w203:ans A 210 [V.agg (qb a0),V.agg (arc .u8 8 (arP a0.Table.val (n191*64+n193*8) 8)),V.int .i64 x198,V.int .i64 x201]=some (V.bool x202):=s210 a0 ⟨(arP a0.Table.val (n191*64+n193*8) 8)⟩ x198 x201 gx202;cases x202 with
  |true=>
   rw[if_pos rfl]at ho;cases ho;simp only[simprocAttr, -Int.reduceNatCast',R0,b197_4, *];refine ai rfl (ei _ (ai rfl ?_));simp only[simprocAttr, -Int.reduceNatCast',R0, *]
  |false=>
   rw[if_neg wC]at ho;cases ho;simp only[simprocAttr, -Int.reduceNatCast',R0,b197_4, *];intro ht; subst ht;simp only[simprocAttr, -Int.reduceNatCast',RR,RB];exact ai rfl (qd (by simp only[simprocAttr, -Int.reduceNatCast',R0,qe,p197,Rs.ev,qa, *]))
 ·rintro v6_4 _ e h ⟨k188,rfl,h_187⟩ hge t1 ho
  unfold F197_4_D at ho;have w204:qf none (List.drop 1 (qb a0))=some (V.int .i64 a0.Size):=qk rfl;cases ho;simp only[simprocAttr, -Int.reduceNatCast',R0,b197_4, *];intro ht; subst ht;refine ai rfl (ei _ (ai rfl ?_));simp only[simprocAttr, -Int.reduceNatCast',R0, *]
def I197_3(a0:GDga)(v5_3:Int)(s:Unit)(e:Env)(h:Heap):Prop:=
 ∃k176:Nat,h=⟨[(0,none)],k176⟩∧e.length=198∧e.at 1=V.iptr (qb a0)∧e.at 5=V.int .i64 v5_3
def P197_3(a0:GDga)(t:(Unit)⊕Bool)(x:Ex)(e:Env)(h:Heap):Prop:=
 match t with
 | .inl _=> x= .normal∧∃k176:Nat,h=⟨[(0,none)],k176⟩∧e.length=198∧e.at 1=V.iptr (qb a0)
 | .inr r=> x= .ret∧Fin p197 (Enc.enc r) .ret e h
theorem l197_3(a0:GDga){lo:Int}{s:Unit}{t:(Unit)⊕Bool}(hF:forR lo a0.Size (F197_3_B a0) (F197_3_D a0) s=some t){e:Env}{h:Heap}(hI:I197_3 a0 lo s e h):W A c197_3 e h (P197_3 a0 t):=by
 show W A (.block 4 (.loop false b197_3)) e h _;rw[qi];refine qr hF 1 (by obtain⟨_,rfl,_⟩:=hI; rfl) (I197_3 a0) hI ?_ ?_
 ·rintro v5_3 _ e h ⟨k176,rfl,h_175⟩ hlt hw o ho
  unfold F197_3_B at ho;have w178:qf none (List.drop 1 (qb a0))=some (V.int .i64 a0.Size):=qk rfl;obtain⟨n179,gn179,ho⟩:=bS ho;obtain⟨w180a,w180b,w180c,w180d⟩:=qU gn179;have w181:List.take 8 (List.drop (n179*8) (List.drop 18 (qb a0)))=arc .u8 8 (arP a0.Diff.val (n179*8) 8):=by simp only[wH]; exact qH (i:=n179*8) (m:=8) (by omega) (by omega)
  have w181l:8≤List.length (List.drop (n179*8) (List.drop 18 (qb a0))):=by simp only[wQ,qj,qy]; omega
  have w182:qf none (List.drop n179 (List.drop 2 (qb a0)))=some (V.int .i64 (a0.Degrees.val.getD n179 0)):=by simp only[wH]; exact qm (i:=n179) (by omega) (by omega)
  obtain⟨x183,gx183,ho⟩:=bS ho;have wx183:=qx gx183;have w184:qf none (List.drop n179 (List.drop 10 (qb a0)))=some (V.int .i64 (a0.Levels.val.getD n179 0)):=by simp only[wH]; exact qv (i:=n179) (by omega) (by omega)
  obtain⟨x185,gx185,ho⟩:=bS ho;have w186:ans A 210 [V.agg (qb a0),V.agg (arc .u8 8 (arP a0.Diff.val (n179*8) 8)),V.int .i64 x183,V.int .i64 (a0.Levels.val.getD n179 0)]=some (V.bool x185):=s210 a0 ⟨(arP a0.Diff.val (n179*8) 8)⟩ x183 (a0.Levels.val.getD n179 0) gx185;cases x185 with
  |true=>
   rw[if_pos rfl]at ho;obtain⟨t205,gt205,ho⟩:=bS ho;rcases t205 with _|r206
   ·dsimp only at ho
    simp only[simprocAttr, -Int.reduceNatCast',R0,b197_3, *];refine W.mono (l197_4 a0 v5_3 gt205 (ei _ (ai rfl ?_))) ?_
    ·simp only[simprocAttr, -Int.reduceNatCast',R0, *]
    rintro _ e _ ⟨rfl,k188,rfl,h_189⟩;cases ho;simp only[simprocAttr, -Int.reduceNatCast',R0, *];refine ai rfl (ei _ (ai rfl ?_));simp only[simprocAttr, -Int.reduceNatCast',R0, *]
   ·dsimp only at ho
    cases ho;simp only[simprocAttr, -Int.reduceNatCast',R0,b197_3, *];refine W.mono (l197_4 a0 v5_3 gt205 (ei _ (ai rfl ?_))) ?_
    ·simp only[simprocAttr, -Int.reduceNatCast',R0, *]
    rintro _ e h ⟨rfl,hq⟩;simp only[simprocAttr, -Int.reduceNatCast',RR,RB];intro ht; subst ht;simp only[simprocAttr, -Int.reduceNatCast',RR,RB];exact ai rfl hq
  |false=>
   rw[if_neg wC]at ho;cases ho;simp only[simprocAttr, -Int.reduceNatCast',R0,b197_3, *];intro ht; subst ht;simp only[simprocAttr, -Int.reduceNatCast',RR,RB];exact ai rfl (qd (by simp only[simprocAttr, -Int.reduceNatCast',R0,qe,p197,Rs.ev,qa, *]))
 ·rintro v5_3 _ e h ⟨k176,rfl,h_175⟩ hge t1 ho
  unfold F197_3_D at ho;have w207:qf none (List.drop 1 (qb a0))=some (V.int .i64 a0.Size):=qk rfl;cases ho;simp only[simprocAttr, -Int.reduceNatCast',R0,b197_3, *];intro ht; subst ht;refine ai rfl (ei _ (ai rfl ?_));simp only[simprocAttr, -Int.reduceNatCast',R0, *]
theorem s197(a0:GDga){r:Bool}(hF:F197 a0=some r):ans A 197 [V.agg (qb a0)]=some (Enc.enc r):=by
 refine qu (f:=p197) rfl rfl rfl fun e hl he=>?_;have h0_0:e.at 0=V.agg (qb a0):=he 0 _ rfl;have hl_0:e.length=198:=hl;clear he hl;have h_0:=ai hl_0 h0_0;show W A b197 e ⟨[],0⟩ _;unfold F197 at hF;have w1:qf none (qb a0)=some (V.int .i64 a0.Prime):=qA (a:=0) rfl;obtain⟨x2,gx2,hF⟩:=bS hF;have w3:=s78 a0.Prime gx2;cases x2 with
 |true=>
  rw[if_pos rfl]at hF;have w4:qf none (List.drop 1 (qb a0))=some (V.int .i64 a0.Size):=qk rfl;obtain⟨x5,gx5,hF⟩:=bS hF;have w6:=s54 a0.Size 1 8 gx5;cases x5 with
  |true=>
   rw[if_pos rfl]at hF;obtain⟨t174,gt174,hF⟩:=bS hF;rcases t174 with _|r213
   ·dsimp only at hF
    simp only[simprocAttr,R0,b197, *];refine W.mono (l197_1 a0 gt174 (ei _ (ai rfl ?_))) ?_
    ·simp only[simprocAttr,R0, *]
    rintro _ e _ ⟨rfl,k8,rfl,h_9⟩;obtain⟨t208,gt208,hF⟩:=bS hF;rcases t208 with _|r212
    ·dsimp only at hF
     simp only[simprocAttr,R0, *];refine W.mono (l197_3 a0 gt208 (ei _ (ai rfl ?_))) ?_
     ·simp only[simprocAttr,R0, *]
     rintro _ e _ ⟨rfl,k176,rfl,h_177⟩;have w209:qf none (List.drop 2 (qb a0))=some (V.int .i64 (a0.Degrees.val.getD 0 0)):=qm (i:=0) (by omega) (by omega);by_cases c210:(a0.Degrees.val.getD 0 0)=0
     ·rw[if_pos c210]at hF
      have w211:qf none (List.drop 10 (qb a0))=some (V.int .i64 (a0.Levels.val.getD 0 0)):=qv (i:=0) (by omega) (by omega);cases hF;simp only[simprocAttr,R0,(eq_true (show(0:Int) < ((8:Nat):Int) from by decide)), *];exact qd (by simp only[simprocAttr,R0,qe,p197,Rs.ev,qa,(eq_true (show(0:Int) < ((8:Nat):Int) from by decide)), *])
     ·rw[if_neg c210]at hF
      cases hF;simp only[simprocAttr,R0,(eq_true (show(0:Int) < ((8:Nat):Int) from by decide)), *];exact qd (by simp only[simprocAttr,R0,qe,p197,Rs.ev,qa,(eq_true (show(0:Int) < ((8:Nat):Int) from by decide)), *])
    ·dsimp only at hF
     cases hF;simp only[simprocAttr,R0, *];refine W.mono (l197_3 a0 gt208 (ei _ (ai rfl ?_))) ?_
     ·simp only[simprocAttr,R0, *]
     rintro _ e h ⟨rfl,hq⟩;simp only[simprocAttr,RR,RB];exact hq
   ·dsimp only at hF
    cases hF;simp only[simprocAttr,R0,b197, *];refine W.mono (l197_1 a0 gt174 (ei _ (ai rfl ?_))) ?_
    ·simp only[simprocAttr,R0, *]
    rintro _ e h ⟨rfl,hq⟩;simp only[simprocAttr,RR,RB];exact hq
  |false=>
   rw[if_neg wC]at hF;cases hF;simp only[simprocAttr,R0,b197, *];exact qd (by simp only[simprocAttr,R0,qe,p197,Rs.ev,qa, *])
 |false=>
  rw[if_neg wC]at hF;cases hF;simp only[simprocAttr,R0,b197, *];exact qd (by simp only[simprocAttr,R0,qe,p197,Rs.ev,qa, *])
def F198_1_B(a0:GDga)(a1:Ar .u8 8)(v6_1:Int)(o3_1:(List Int)):Option (((List Int))⊕((List Int))):=
 (ixI 8 v6_1).bind fun n9=>
(chk (a1.val.getD n9 0)).bind fun x13=>
(F105 a0.Prime ⟨o3_1⟩ ⟨(arP a0.Diff.val (n9*8) 8)⟩ x13).bind fun x14=>
some (.inl x14.val)
def F198_1_D(a0:GDga)(a1:Ar .u8 8)(v6_1:Int)(o3_1:(List Int)):Option ((List Int)):=
 some o3_1
def F198(a0:GDga)(a1:Ar .u8 8):Option (Ar .u8 8):=
 (forR 0 a0.Size (F198_1_B a0 a1) (F198_1_D a0 a1) ([]:(List Int))).bind fun zo3_1=>
 some ⟨zo3_1⟩
def I198_1(a0:GDga)(a1:Ar .u8 8)(v6_1:Int)(o3_1:(List Int))(e:Env)(h:Heap):Prop:=
 ∃k4:Nat,h=⟨[(0,none),(0,none),(2,some (arc .u8 8 [])),(3,some (arc .u8 8 o3_1))],k4⟩∧e.length=27∧e.at 2=V.iptr (qb a0)∧e.at 3=V.iptr (arc .u8 8 a1.val)∧e.at 4=V.ptr 2 2 0∧e.at 5=V.ptr 3 3 0∧e.at 6=V.int .i64 v6_1
def P198_1(a0:GDga)(a1:Ar .u8 8)(zo3_1:(List Int))(x:Ex)(e:Env)(h:Heap):Prop:=
 x= .normal∧∃k4:Nat,h=⟨[(0,none),(0,none),(2,some (arc .u8 8 [])),(3,some (arc .u8 8 zo3_1))],k4⟩∧e.length=27∧e.at 4=V.ptr 2 2 0∧e.at 5=V.ptr 3 3 0
theorem l198_1(a0:GDga)(a1:Ar .u8 8){lo:Int}{s:(List Int)}{t:(List Int)}(hF:forR lo a0.Size (F198_1_B a0 a1) (F198_1_D a0 a1) s=some t){e:Env}{h:Heap}(hI:I198_1 a0 a1 lo s e h):W A c198_1 e h (P198_1 a0 a1 t):=by
 show W A (.block 0 (.loop false b198_1)) e h _;rw[qi];refine qr hF 4 (by obtain⟨_,rfl,_⟩:=hI; rfl) (I198_1 a0 a1) hI ?_ ?_
 ·rintro v6_1 o3_1 e h ⟨k4,rfl,h_3⟩ hlt hw o ho
  unfold F198_1_B at ho;have w6:qf none (List.drop 1 (qb a0))=some (V.int .i64 a0.Size):=qk rfl;have w7:qf none (qb a0)=some (V.int .i64 a0.Prime):=qA (a:=0) rfl;obtain⟨n9,gn9,ho⟩:=bS ho;obtain⟨w10a,w10b,w10c,w10d⟩:=qU gn9;have w11:List.take 8 (List.drop (n9*8) (List.drop 18 (qb a0)))=arc .u8 8 (arP a0.Diff.val (n9*8) 8):=by simp only[wH]; exact qH (i:=n9*8) (m:=8) (by omega) (by omega)
  have w11l:8≤List.length (List.drop (n9*8) (List.drop 18 (qb a0))):=by simp only[wQ,qj,qy]; omega
  have w12:qf none (List.drop n9 (arc .u8 8 a1.val))=some (V.int .u8 (a1.val.getD n9 0)):=zo (i:=n9) (by omega) (by omega);obtain⟨x13,gx13,ho⟩:=bS ho;have wx13:=qx gx13;obtain⟨x14,gx14,ho⟩:=bS ho;have w15:ans A 105 [V.int .i64 a0.Prime,V.agg (arc .u8 8 o3_1),V.agg (arc .u8 8 (arP a0.Diff.val (n9*8) 8)),V.int .i64 x13]=some (V.agg (arc .u8 8 x14.val)):=s105 a0.Prime ⟨o3_1⟩ ⟨(arP a0.Diff.val (n9*8) 8)⟩ x13 gx14;have w17:List.drop 8 (arc .u8 8 o3_1)=[]:=wI (by rw[qj]; exact wG _);cases ho;simp only[simprocAttr, -Int.reduceNatCast',R0,b198_1,wB, *];refine ai rfl (ei _ (ai rfl ?_));simp only[simprocAttr, -Int.reduceNatCast',R0,wB, *]
 ·rintro v6_1 o3_1 e h ⟨k4,rfl,h_3⟩ hge t1 ho
  unfold F198_1_D at ho;have w18:qf none (List.drop 1 (qb a0))=some (V.int .i64 a0.Size):=qk rfl;cases ho;simp only[simprocAttr, -Int.reduceNatCast',R0,b198_1, *];intro ht; subst ht;refine ai rfl (ei _ (ai rfl ?_));simp only[simprocAttr, -Int.reduceNatCast',R0, *]
theorem s198(a0:GDga)(a1:Ar .u8 8){r:Ar .u8 8}(hF:F198 a0 a1=some r):ans A 198 [V.agg (qb a0),V.agg (arc .u8 8 a1.val)]=some (Enc.enc r):=by
 refine qu (f:=p198) rfl rfl rfl fun e hl he=>?_;have h0_0:e.at 0=V.agg (qb a0):=he 0 _ rfl;have h1_0:e.at 1=V.agg (arc .u8 8 a1.val):=he 1 _ rfl;have hl_0:e.length=27:=hl;clear he hl;show W A b198 e ⟨[],0⟩ _;unfold F198 at hF;have w2:List.drop 8 (arc .u8 8 [])=[]:=wI (by rw[qj]; exact wG _);obtain⟨zo3_1,gt19,hF⟩:=bS hF;simp only[simprocAttr,R0,b198,wB, *];refine W.mono (l198_1 a0 a1 gt19 (ei _ (ai rfl ?_))) ?_
 ·simp only[simprocAttr,R0,wB, *]
 rintro _ e _ ⟨rfl,k4,rfl,h_5⟩;have w22:List.drop 8 (arc .u8 8 [])=[]:=wI (by rw[qj]; exact wG _);cases hF;simp only[simprocAttr,R0,wB, *];exact qd (by simp only[simprocAttr,R0,qe,p198,Rs.ev,qa,wB, *])
def F199_2_B(a0:GDga)(a1:Ar .u8 8)(a2:Ar .u8 8)(v8_1:Int)(v9_2:Int)(o4_2:(List Int)):Option (((List Int))⊕((List Int))):=
 (ixI 8 v8_1).bind fun n11=>
if(a1.val.getD n11 0)=0 then
 some (.inl o4_2)
else
 (ixI 8 v9_2).bind fun n15=>
 if(a2.val.getD n15 0)=0 then
  some (.inl o4_2)
 else
  (chk (a1.val.getD n11 0)).bind fun x22=>
  (chk (a2.val.getD n15 0)).bind fun x23=>
  (chk (x22*x23)).bind fun x24=>
  (F105 a0.Prime ⟨o4_2⟩ ⟨(arP a0.Table.val (n11*64+n15*8) 8)⟩ x24).bind fun x25=>
  some (.inl x25.val)
def F199_2_D(a0:GDga)(a1:Ar .u8 8)(a2:Ar .u8 8)(v8_1:Int)(v9_2:Int)(o4_2:(List Int)):Option ((List Int)):=
 some o4_2
def F199_1_B(a0:GDga)(a1:Ar .u8 8)(a2:Ar .u8 8)(v8_1:Int)(o4_1:(List Int)):Option (((List Int))⊕((List Int))):=
 (forR 0 a0.Size (F199_2_B a0 a1 a2 v8_1) (F199_2_D a0 a1 a2 v8_1) o4_1).bind fun zo4_2=>
some (.inl zo4_2)
def F199_1_D(a0:GDga)(a1:Ar .u8 8)(a2:Ar .u8 8)(v8_1:Int)(o4_1:(List Int)):Option ((List Int)):=
 some o4_1
def F199(a0:GDga)(a1:Ar .u8 8)(a2:Ar .u8 8):Option (Ar .u8 8):=
 (forR 0 a0.Size (F199_1_B a0 a1 a2) (F199_1_D a0 a1 a2) ([]:(List Int))).bind fun zo4_1=>
 some ⟨zo4_1⟩
def I199_2(a0:GDga)(a1:Ar .u8 8)(a2:Ar .u8 8)(v8_1:Int)(v9_2:Int)(o4_2:(List Int))(e:Env)(h:Heap):Prop:=
 ∃k8:Nat,h=⟨[(0,none),(0,none),(0,none),(3,some (arc .u8 8 [])),(4,some (arc .u8 8 o4_2))],k8⟩∧e.length=53∧e.at 3=V.iptr (qb a0)∧e.at 4=V.iptr (arc .u8 8 a1.val)∧e.at 5=V.iptr (arc .u8 8 a2.val)∧e.at 6=V.ptr 3 3 0∧e.at 7=V.ptr 4 4 0∧e.at 8=V.int .i64 v8_1∧e.at 9=V.int .i64 v9_2
def P199_2(a0:GDga)(a1:Ar .u8 8)(a2:Ar .u8 8)(v8_1:Int)(zo4_2:(List Int))(x:Ex)(e:Env)(h:Heap):Prop:=
 x= .normal∧∃k8:Nat,h=⟨[(0,none),(0,none),(0,none),(3,some (arc .u8 8 [])),(4,some (arc .u8 8 zo4_2))],k8⟩∧e.length=53∧e.at 3=V.iptr (qb a0)∧e.at 4=V.iptr (arc .u8 8 a1.val)∧e.at 5=V.iptr (arc .u8 8 a2.val)∧e.at 6=V.ptr 3 3 0∧e.at 7=V.ptr 4 4 0∧e.at 8=V.int .i64 v8_1
theorem l199_2(a0:GDga)(a1:Ar .u8 8)(a2:Ar .u8 8)(v8_1:Int){lo:Int}{s:(List Int)}{t:(List Int)}(hF:forR lo a0.Size (F199_2_B a0 a1 a2 v8_1) (F199_2_D a0 a1 a2 v8_1) s=some t){e:Env}{h:Heap}(hI:I199_2 a0 a1 a2 v8_1 lo s e h):W A c199_2 e h (P199_2 a0 a1 a2 v8_1 t):=by
 show W A (.block 2 (.loop false b199_2)) e h _;rw[qi];refine qr hF 5 (by obtain⟨_,rfl,_⟩:=hI; rfl) (I199_2 a0 a1 a2 v8_1) hI ?_ ?_
 ·rintro v9_2 o4_2 e h ⟨k8,rfl,h_7⟩ hlt hw o ho
  unfold F199_2_B at ho;have w10:qf none (List.drop 1 (qb a0))=some (V.int .i64 a0.Size):=qk rfl;obtain⟨n11,gn11,ho⟩:=bS ho;obtain⟨w12a,w12b,w12c,w12d⟩:=qU gn11;have w13:qf none (List.drop n11 (arc .u8 8 a1.val))=some (V.int .u8 (a1.val.getD n11 0)):=zo (i:=n11) (by omega) (by omega);by_cases c14:(a1.val.getD n11 0)=0
  ·rw[if_pos c14]at ho
   cases ho;simp only[simprocAttr, -Int.reduceNatCast',R0,b199_2, *];refine ai rfl (ei _ (ai rfl ?_));simp only[simprocAttr, -Int.reduceNatCast',R0, *]
  ·rw[if_neg c14]at ho
   obtain⟨n15,gn15,ho⟩:=bS ho;obtain⟨w16a,w16b,w16c,w16d⟩:=qU gn15;have w17:qf none (List.drop n15 (arc .u8 8 a2.val))=some (V.int .u8 (a2.val.getD n15 0)):=zo (i:=n15) (by omega) (by omega);by_cases c18:(a2.val.getD n15 0)=0
   ·rw[if_pos c18]at ho
    cases ho;simp only[simprocAttr, -Int.reduceNatCast',R0,b199_2, *];refine ai rfl (ei _ (ai rfl ?_));simp only[simprocAttr, -Int.reduceNatCast',R0, *]
   ·rw[if_neg c18]at ho
    have w19:qf none (qb a0)=some (V.int .i64 a0.Prime):=qA (a:=0) rfl;have w21:List.take 8 (List.drop (n15*8) (List.drop (n11*64) (List.drop 82 (qb a0))))=arc .u8 8 (arP a0.Table.val (n11*64+n15*8) 8):=by simp only[wH]; exact qG (i:=n11*64+n15*8) (m:=8) (by omega) (by omega)
    have w21l:8≤List.length (List.drop (n15*8) (List.drop (n11*64) (List.drop 82 (qb a0)))):=by simp only[wQ,qj,qy]; omega
    obtain⟨x22,gx22,ho⟩:=bS ho;have wx22:=qx gx22;obtain⟨x23,gx23,ho⟩:=bS ho;have wx23:=qx gx23;obtain⟨x24,gx24,ho⟩:=bS ho;have wx24:=qx gx24;obtain⟨x25,gx25,ho⟩:=bS ho;have w26:ans A 105 [V.int .i64 a0.Prime,V.agg (arc .u8 8 o4_2),V.agg (arc .u8 8 (arP a0.Table.val (n11*64+n15*8) 8)),V.int .i64 x24]=some (V.agg (arc .u8 8 x25.val)):=s105 a0.Prime ⟨o4_2⟩ ⟨(arP a0.Table.val (n11*64+n15*8) 8)⟩ x24 gx25;have w28:List.drop 8 (arc .u8 8 o4_2)=[]:=wI (by rw[qj]; exact wG _);cases ho;simp only[simprocAttr, -Int.reduceNatCast',R0,b199_2,wB, *];refine ai rfl (ei _ (ai rfl ?_));simp only[simprocAttr, -Int.reduceNatCast',R0,wB, *]
 ·rintro v9_2 o4_2 e h ⟨k8,rfl,h_7⟩ hge t1 ho
  unfold F199_2_D at ho;have w29:qf none (List.drop 1 (qb a0))=some (V.int .i64 a0.Size):=qk rfl;cases ho;simp only[simprocAttr, -Int.reduceNatCast',R0,b199_2, *];intro ht; subst ht;refine ai rfl (ei _ (ai rfl ?_));simp only[simprocAttr, -Int.reduceNatCast',R0, *]
def I199_1(a0:GDga)(a1:Ar .u8 8)(a2:Ar .u8 8)(v8_1:Int)(o4_1:(List Int))(e:Env)(h:Heap):Prop:=
 ∃k4:Nat,h=⟨[(0,none),(0,none),(0,none),(3,some (arc .u8 8 [])),(4,some (arc .u8 8 o4_1))],k4⟩∧e.length=53∧e.at 3=V.iptr (qb a0)∧e.at 4=V.iptr (arc .u8 8 a1.val)∧e.at 5=V.iptr (arc .u8 8 a2.val)∧e.at 6=V.ptr 3 3 0∧e.at 7=V.ptr 4 4 0∧e.at 8=V.int .i64 v8_1
def P199_1(a0:GDga)(a1:Ar .u8 8)(a2:Ar .u8 8)(zo4_1:(List Int))(x:Ex)(e:Env)(h:Heap):Prop:=
 x= .normal∧∃k4:Nat,h=⟨[(0,none),(0,none),(0,none),(3,some (arc .u8 8 [])),(4,some (arc .u8 8 zo4_1))],k4⟩∧e.length=53∧e.at 6=V.ptr 3 3 0∧e.at 7=V.ptr 4 4 0
theorem l199_1(a0:GDga)(a1:Ar .u8 8)(a2:Ar .u8 8){lo:Int}{s:(List Int)}{t:(List Int)}(hF:forR lo a0.Size (F199_1_B a0 a1 a2) (F199_1_D a0 a1 a2) s=some t){e:Env}{h:Heap}(hI:I199_1 a0 a1 a2 lo s e h):W A c199_1 e h (P199_1 a0 a1 a2 t):=by
 show W A (.block 0 (.loop false b199_1)) e h _;rw[qi];refine qr hF 5 (by obtain⟨_,rfl,_⟩:=hI; rfl) (I199_1 a0 a1 a2) hI ?_ ?_
 ·rintro v8_1 o4_1 e h ⟨k4,rfl,h_3⟩ hlt hw o ho
  unfold F199_1_B at ho;have w6:qf none (List.drop 1 (qb a0))=some (V.int .i64 a0.Size):=qk rfl;obtain⟨zo4_2,gt30,ho⟩:=bS ho;simp only[simprocAttr,R0,b199_1, *];refine W.mono (l199_2 a0 a1 a2 v8_1 gt30 (ei _ (ai rfl ?_))) ?_
  ·simp only[simprocAttr,R0, *]
  rintro _ e _ ⟨rfl,k8,rfl,h_9⟩;cases ho;simp only[simprocAttr,R0, *];refine ai rfl (ei _ (ai rfl ?_));simp only[simprocAttr,R0, *]
 ·rintro v8_1 o4_1 e h ⟨k4,rfl,h_3⟩ hge t1 ho
  unfold F199_1_D at ho;have w31:qf none (List.drop 1 (qb a0))=some (V.int .i64 a0.Size):=qk rfl;cases ho;simp only[simprocAttr,R0,b199_1, *];intro ht; subst ht;refine ai rfl (ei _ (ai rfl ?_));simp only[simprocAttr,R0, *]
theorem s199(a0:GDga)(a1:Ar .u8 8)(a2:Ar .u8 8){r:Ar .u8 8}(hF:F199 a0 a1 a2=some r):ans A 199 [V.agg (qb a0),V.agg (arc .u8 8 a1.val),V.agg (arc .u8 8 a2.val)]=some (Enc.enc r):=by
 refine qu (f:=p199) rfl rfl rfl fun e hl he=>?_;have h0_0:e.at 0=V.agg (qb a0):=he 0 _ rfl;have h1_0:e.at 1=V.agg (arc .u8 8 a1.val):=he 1 _ rfl;have h2_0:e.at 2=V.agg (arc .u8 8 a2.val):=he 2 _ rfl;have hl_0:e.length=53:=hl;clear he hl;show W A b199 e ⟨[],0⟩ _;unfold F199 at hF;have w2:List.drop 8 (arc .u8 8 [])=[]:=wI (by rw[qj]; exact wG _);obtain⟨zo4_1,gt32,hF⟩:=bS hF;simp only[simprocAttr,R0,b199,wB, *];refine W.mono (l199_1 a0 a1 a2 gt32 (ei _ (ai rfl ?_))) ?_
 ·simp only[simprocAttr,R0,wB, *]
 rintro _ e _ ⟨rfl,k4,rfl,h_5⟩;have w35:List.drop 8 (arc .u8 8 [])=[]:=wI (by rw[qj]; exact wG _);cases hF;simp only[simprocAttr,R0,wB, *];exact qd (by simp only[simprocAttr,R0,qe,p199,Rs.ev,qa,wB, *])
def F180_3_B(a0:GDga)(v3_1:Int)(x7:Ar .u8 8)(x15:Int)(v6_2:Int)(x40:Ar .u8 8)(v8_3:Int)(s:Unit):Option ((Unit)⊕((Unit)⊕Bool)):=
 (ixI 8 v3_1).bind fun n63=>
(ixI 8 v6_2).bind fun n65=>
(F104 v8_3).bind fun x68=>
(F199 a0 ⟨(arP a0.Table.val (n63*64+n65*8) 8)⟩ x68).bind fun x70=>
(ixI 8 v8_3).bind fun n73=>
(F199 a0 x7 ⟨(arP a0.Table.val (n65*64+n73*8) 8)⟩).bind fun x76=>
(arE .u8 8 x70.val x76.val).bind fun x78=>
if x78=true then
 some (.inl ())
else
 some (.inr (.inr false))
def F180_3_D(a0:GDga)(v3_1:Int)(x7:Ar .u8 8)(x15:Int)(v6_2:Int)(x40:Ar .u8 8)(v8_3:Int)(s:Unit):Option ((Unit)⊕Bool):=
 some (.inl ())
def F180_2_B(a0:GDga)(v3_1:Int)(x7:Ar .u8 8)(x15:Int)(v6_2:Int)(s:Unit):Option ((Unit)⊕((Unit)⊕Bool)):=
 (ixI 8 v3_1).bind fun n35=>
(F104 v6_2).bind fun x38=>
(F199 a0 ⟨(arP a0.Diff.val (n35*8) 8)⟩ x38).bind fun x40=>
(ixI 8 v6_2).bind fun n44=>
(F198 a0 ⟨(arP a0.Table.val (n35*64+n44*8) 8)⟩).bind fun x47=>
(F199 a0 x7 ⟨(arP a0.Diff.val (n44*8) 8)⟩).bind fun x53=>
(F105 a0.Prime x40 x53 x15).bind fun x55=>
(arE .u8 8 x47.val x55.val).bind fun x57=>
if x57=true then
 (forR 0 a0.Size (F180_3_B a0 v3_1 x7 x15 v6_2 x40) (F180_3_D a0 v3_1 x7 x15 v6_2 x40) ()).bind fun t81=> match t81 with
  | .inl _=>
   some (.inl ())
  | .inr r82=> some (.inr (.inr r82))
else
 some (.inr (.inr false))
def F180_2_D(a0:GDga)(v3_1:Int)(x7:Ar .u8 8)(x15:Int)(v6_2:Int)(s:Unit):Option ((Unit)⊕Bool):=
 some (.inl ())
def F180_1_B(a0:GDga)(v3_1:Int)(s:Unit):Option ((Unit)⊕((Unit)⊕Bool)):=
 (F104 v3_1).bind fun x7=>
(ixI 8 v3_1).bind fun n9=>
(remI (a0.Degrees.val.getD n9 0) 2).bind fun x12=>
(chk (2*x12)).bind fun x14=>
(chk (1 - x14)).bind fun x15=>
(arE .u8 8 (arP a0.Table.val (n9*8) 8) x7.val).bind fun x20=>
if x20=true then
 (arE .u8 8 (arP a0.Table.val (n9*64) 8) x7.val).bind fun x24=>
 if x24=true then
  (F198 a0 ⟨(arP a0.Diff.val (n9*8) 8)⟩).bind fun x27=>
  (arE .u8 8 x27.val []).bind fun x29=>
  if x29=true then
   (forR 0 a0.Size (F180_2_B a0 v3_1 x7 x15) (F180_2_D a0 v3_1 x7 x15) ()).bind fun t84=> match t84 with
    | .inl _=>
     some (.inl ())
    | .inr r85=> some (.inr (.inr r85))
  else
   some (.inr (.inr false))
 else
  some (.inr (.inr false))
else
 some (.inr (.inr false))
def F180_1_D(a0:GDga)(v3_1:Int)(s:Unit):Option ((Unit)⊕Bool):=
 some (.inl ())
def F180(a0:GDga):Option Bool:=
 (F197 a0).bind fun x1=>
 if x1=true then
  (forR 0 a0.Size (F180_1_B a0) (F180_1_D a0) ()).bind fun t87=> match t87 with
   | .inl _=>
    some true
   | .inr r88=> some r88
 else
  some false
def I180_3(a0:GDga)(v3_1:Int)(x7:Ar .u8 8)(x15:Int)(v6_2:Int)(x40:Ar .u8 8)(k4 k32:Nat)(v8_3:Int)(s:Unit)(e:Env)(h:Heap):Prop:=
 ∃k60:Nat,h=⟨[(0,none),(k4,some (arc .u8 8 x7.val)),(k32,some (arc .u8 8 x40.val))],k60⟩∧e.length=114∧e.at 1=V.iptr (qb a0)∧e.at 3=V.int .i64 v3_1∧e.at 4=V.ptr 1 k4 0∧e.at 5=V.int .i64 x15∧e.at 6=V.int .i64 v6_2∧e.at 8=V.int .i64 v8_3
def P180_3(a0:GDga)(v3_1:Int)(x7:Ar .u8 8)(x15:Int)(v6_2:Int)(x40:Ar .u8 8)(k4 k32:Nat)(t:(Unit)⊕Bool)(x:Ex)(e:Env)(h:Heap):Prop:=
 match t with
 | .inl _=> x= .normal∧∃k60:Nat,h=⟨[(0,none),(k4,some (arc .u8 8 x7.val)),(k32,some (arc .u8 8 x40.val))],k60⟩∧e.length=114∧e.at 1=V.iptr (qb a0)∧e.at 3=V.int .i64 v3_1∧e.at 4=V.ptr 1 k4 0∧e.at 5=V.int .i64 x15∧e.at 6=V.int .i64 v6_2
 | .inr r=> x= .ret∧Fin p180 (Enc.enc r) .ret e h
theorem l180_3(a0:GDga)(v3_1:Int)(x7:Ar .u8 8)(x15:Int)(v6_2:Int)(x40:Ar .u8 8)(k4 k32:Nat){lo:Int}{s:Unit}{t:(Unit)⊕Bool}(hF:forR lo a0.Size (F180_3_B a0 v3_1 x7 x15 v6_2 x40) (F180_3_D a0 v3_1 x7 x15 v6_2 x40) s=some t){e:Env}{h:Heap}(hI:I180_3 a0 v3_1 x7 x15 v6_2 x40 k4 k32 lo s e h):W A c180_3 e h (P180_3 a0 v3_1 x7 x15 v6_2 x40 k4 k32 t):=by
 show W A (.block 4 (.loop false b180_3)) e h _;rw[qi];refine qr hF 3 (by obtain⟨_,rfl,_⟩:=hI; rfl) (I180_3 a0 v3_1 x7 x15 v6_2 x40 k4 k32) hI ?_ ?_
 ·rintro v8_3 _ e h ⟨k60,rfl,h_59⟩ hlt hw o ho
  unfold F180_3_B at ho;have w62:qf none (List.drop 1 (qb a0))=some (V.int .i64 a0.Size):=qk rfl;obtain⟨n63,gn63,ho⟩:=bS ho;obtain⟨w64a,w64b,w64c,w64d⟩:=qU gn63;obtain⟨n65,gn65,ho⟩:=bS ho;obtain⟨w66a,w66b,w66c,w66d⟩:=qU gn65;have w67:List.take 8 (List.drop (n65*8) (List.drop (n63*64) (List.drop 82 (qb a0))))=arc .u8 8 (arP a0.Table.val (n63*64+n65*8) 8):=by simp only[wH]; exact qG (i:=n63*64+n65*8) (m:=8) (by omega) (by omega)
  have w67l:8≤List.length (List.drop (n65*8) (List.drop (n63*64) (List.drop 82 (qb a0)))):=by simp only[wQ,qj,qy]; omega
  obtain⟨x68,gx68,ho⟩:=bS ho;have w69:=s104 v8_3 gx68;obtain⟨x70,gx70,ho⟩:=bS ho;have w71:ans A 199 [V.agg (qb a0),V.agg (arc .u8 8 (arP a0.Table.val (n63*64+n65*8) 8)),V.agg (arc .u8 8 x68.val)]=some (V.agg (arc .u8 8 x70.val)):=s199 a0 ⟨(arP a0.Table.val (n63*64+n65*8) 8)⟩ x68 gx70;obtain⟨n73,gn73,ho⟩:=bS ho;obtain⟨w74a,w74b,w74c,w74d⟩:=qU gn73;have w75:List.take 8 (List.drop (n73*8) (List.drop (n65*64) (List.drop 82 (qb a0))))=arc .u8 8 (arP a0.Table.val (n65*64+n73*8) 8):=by simp only[wH]; exact qG (i:=n65*64+n73*8) (m:=8) (by omega) (by omega)
  have w75l:8≤List.length (List.drop (n73*8) (List.drop (n65*64) (List.drop 82 (qb a0)))):=by simp only[wQ,qj,qy]; omega
  obtain⟨x76,gx76,ho⟩:=bS ho;have w77:ans A 199 [V.agg (qb a0),V.agg (arc .u8 8 x7.val),V.agg (arc .u8 8 (arP a0.Table.val (n65*64+n73*8) 8))]=some (V.agg (arc .u8 8 x76.val)):=s199 a0 x7 ⟨(arP a0.Table.val (n65*64+n73*8) 8)⟩ gx76;obtain⟨x78,gx78,ho⟩:=bS ho;have w79:eqSV true 12 (Lay.arr 8 8 1 (Lay.int Go.IntKind.u8)) (V.agg (arc .u8 8 x70.val)) (V.agg (arc .u8 8 x76.val))=some (V.bool (!x78)):=zE gx78;cases x78 with
  |true=>
   rw[if_pos rfl]at ho;cases ho;simp only[simprocAttr, -Int.reduceNatCast',R0,b180_3, *];refine ai rfl (ei _ (ai rfl ?_));simp only[simprocAttr, -Int.reduceNatCast',R0, *]
  |false=>
   rw[if_neg wC]at ho;cases ho;simp only[simprocAttr, -Int.reduceNatCast',R0,b180_3, *];intro ht; subst ht;simp only[simprocAttr, -Int.reduceNatCast',RR,RB];exact ai rfl (qd (by simp only[simprocAttr, -Int.reduceNatCast',R0,qe,p180,Rs.ev,qa, *]))
 ·rintro v8_3 _ e h ⟨k60,rfl,h_59⟩ hge t1 ho
  unfold F180_3_D at ho;have w80:qf none (List.drop 1 (qb a0))=some (V.int .i64 a0.Size):=qk rfl;cases ho;simp only[simprocAttr, -Int.reduceNatCast',R0,b180_3, *];intro ht; subst ht;refine ai rfl (ei _ (ai rfl ?_));simp only[simprocAttr, -Int.reduceNatCast',R0, *]
def I180_2(a0:GDga)(v3_1:Int)(x7:Ar .u8 8)(x15:Int)(k4:Nat)(v6_2:Int)(s:Unit)(e:Env)(h:Heap):Prop:=
 ∃k32:Nat,h=⟨[(0,none),(k4,some (arc .u8 8 x7.val))],k32⟩∧e.length=114∧e.at 1=V.iptr (qb a0)∧e.at 3=V.int .i64 v3_1∧e.at 4=V.ptr 1 k4 0∧e.at 5=V.int .i64 x15∧e.at 6=V.int .i64 v6_2
def P180_2(a0:GDga)(v3_1:Int)(x7:Ar .u8 8)(x15:Int)(k4:Nat)(t:(Unit)⊕Bool)(x:Ex)(e:Env)(h:Heap):Prop:=
 match t with
 | .inl _=> x= .normal∧∃k32:Nat,h=⟨[(0,none),(k4,some (arc .u8 8 x7.val))],k32⟩∧e.length=114∧e.at 1=V.iptr (qb a0)∧e.at 3=V.int .i64 v3_1
 | .inr r=> x= .ret∧Fin p180 (Enc.enc r) .ret e h
theorem l180_2(a0:GDga)(v3_1:Int)(x7:Ar .u8 8)(x15:Int)(k4:Nat){lo:Int}{s:Unit}{t:(Unit)⊕Bool}(hF:forR lo a0.Size (F180_2_B a0 v3_1 x7 x15) (F180_2_D a0 v3_1 x7 x15) s=some t){e:Env}{h:Heap}(hI:I180_2 a0 v3_1 x7 x15 k4 lo s e h):W A c180_2 e h (P180_2 a0 v3_1 x7 x15 k4 t):=by
 show W A (.block 2 (.loop false b180_2)) e h _;rw[qi];refine qr hF 2 (by obtain⟨_,rfl,_⟩:=hI; rfl) (I180_2 a0 v3_1 x7 x15 k4) hI ?_ ?_
 ·rintro v6_2 _ e h ⟨k32,rfl,h_31⟩ hlt hw o ho
  unfold F180_2_B at ho;have w34:qf none (List.drop 1 (qb a0))=some (V.int .i64 a0.Size):=qk rfl;obtain⟨n35,gn35,ho⟩:=bS ho;obtain⟨w36a,w36b,w36c,w36d⟩:=qU gn35;have w37:List.take 8 (List.drop (n35*8) (List.drop 18 (qb a0)))=arc .u8 8 (arP a0.Diff.val (n35*8) 8):=by simp only[wH]; exact qH (i:=n35*8) (m:=8) (by omega) (by omega)
  have w37l:8≤List.length (List.drop (n35*8) (List.drop 18 (qb a0))):=by simp only[wQ,qj,qy]; omega
  obtain⟨x38,gx38,ho⟩:=bS ho;have w39:=s104 v6_2 gx38;obtain⟨x40,gx40,ho⟩:=bS ho;have w41:ans A 199 [V.agg (qb a0),V.agg (arc .u8 8 (arP a0.Diff.val (n35*8) 8)),V.agg (arc .u8 8 x38.val)]=some (V.agg (arc .u8 8 x40.val)):=s199 a0 ⟨(arP a0.Diff.val (n35*8) 8)⟩ x38 gx40;have w43:List.drop 8 (arc .u8 8 [])=[]:=wI (by rw[qj]; exact wG _);obtain⟨n44,gn44,ho⟩:=bS ho;obtain⟨w45a,w45b,w45c,w45d⟩:=qU gn44;have w46:List.take 8 (List.drop (n44*8) (List.drop (n35*64) (List.drop 82 (qb a0))))=arc .u8 8 (arP a0.Table.val (n35*64+n44*8) 8):=by simp only[wH]; exact qG (i:=n35*64+n44*8) (m:=8) (by omega) (by omega)
  have w46l:8≤List.length (List.drop (n44*8) (List.drop (n35*64) (List.drop 82 (qb a0)))):=by simp only[wQ,qj,qy]; omega
  obtain⟨x47,gx47,ho⟩:=bS ho;have w48:ans A 198 [V.agg (qb a0),V.agg (arc .u8 8 (arP a0.Table.val (n35*64+n44*8) 8))]=some (V.agg (arc .u8 8 x47.val)):=s198 a0 ⟨(arP a0.Table.val (n35*64+n44*8) 8)⟩ gx47;have w49:qf none (qb a0)=some (V.int .i64 a0.Prime):=qA (a:=0) rfl;have w52:List.take 8 (List.drop (n44*8) (List.drop 18 (qb a0)))=arc .u8 8 (arP a0.Diff.val (n44*8) 8):=by simp only[wH]; exact qH (i:=n44*8) (m:=8) (by omega) (by omega)
  have w52l:8≤List.length (List.drop (n44*8) (List.drop 18 (qb a0))):=by simp only[wQ,qj,qy]; omega
  obtain⟨x53,gx53,ho⟩:=bS ho;have w54:ans A 199 [V.agg (qb a0),V.agg (arc .u8 8 x7.val),V.agg (arc .u8 8 (arP a0.Diff.val (n44*8) 8))]=some (V.agg (arc .u8 8 x53.val)):=s199 a0 x7 ⟨(arP a0.Diff.val (n44*8) 8)⟩ gx53;obtain⟨x55,gx55,ho⟩:=bS ho;have w56:=s105 a0.Prime x40 x53 x15 gx55;obtain⟨x57,gx57,ho⟩:=bS ho;have w58:eqSV true 12 (Lay.arr 8 8 1 (Lay.int Go.IntKind.u8)) (V.agg (arc .u8 8 x47.val)) (V.agg (arc .u8 8 x55.val))=some (V.bool (!x57)):=zE gx57;cases x57 with
  |true=>
   rw[if_pos rfl]at ho;obtain⟨t81,gt81,ho⟩:=bS ho;rcases t81 with _|r82
   ·dsimp only at ho
    simp only[simprocAttr, -Int.reduceNatCast',R0,b180_2,wB, *];refine W.mono (l180_3 a0 v3_1 x7 x15 v6_2 x40 k4 k32 gt81 (ei _ (ai rfl ?_))) ?_
    ·simp only[simprocAttr, -Int.reduceNatCast',R0,wB, *]
    rintro _ e _ ⟨rfl,k60,rfl,h_61⟩;cases ho;simp only[simprocAttr, -Int.reduceNatCast',R0, *];refine ai rfl (ei _ (ai rfl ?_));simp only[simprocAttr, -Int.reduceNatCast',R0, *]
   ·dsimp only at ho
    cases ho;simp only[simprocAttr, -Int.reduceNatCast',R0,b180_2,wB, *];refine W.mono (l180_3 a0 v3_1 x7 x15 v6_2 x40 k4 k32 gt81 (ei _ (ai rfl ?_))) ?_
    ·simp only[simprocAttr, -Int.reduceNatCast',R0,wB, *]
    rintro _ e h ⟨rfl,hq⟩;simp only[simprocAttr, -Int.reduceNatCast',RR,RB];intro ht; subst ht;simp only[simprocAttr, -Int.reduceNatCast',RR,RB];exact ai rfl hq
  |false=>
   rw[if_neg wC]at ho;cases ho;simp only[simprocAttr, -Int.reduceNatCast',R0,b180_2,wB, *];intro ht; subst ht;simp only[simprocAttr, -Int.reduceNatCast',RR,RB];exact ai rfl (qd (by simp only[simprocAttr, -Int.reduceNatCast',R0,qe,p180,Rs.ev,qa,wB, *]))
 ·rintro v6_2 _ e h ⟨k32,rfl,h_31⟩ hge t1 ho
  unfold F180_2_D at ho;have w83:qf none (List.drop 1 (qb a0))=some (V.int .i64 a0.Size):=qk rfl;cases ho;simp only[simprocAttr, -Int.reduceNatCast',R0,b180_2, *];intro ht; subst ht;refine ai rfl (ei _ (ai rfl ?_));simp only[simprocAttr, -Int.reduceNatCast',R0, *]
def I180_1(a0:GDga)(v3_1:Int)(s:Unit)(e:Env)(h:Heap):Prop:=
 ∃k4:Nat,h=⟨[(0,none)],k4⟩∧e.length=114∧e.at 1=V.iptr (qb a0)∧e.at 3=V.int .i64 v3_1
def P180_1(a0:GDga)(t:(Unit)⊕Bool)(x:Ex)(e:Env)(h:Heap):Prop:=
 match t with
 | .inl _=> x= .normal∧∃k4:Nat,h=⟨[(0,none)],k4⟩∧e.length=114
 | .inr r=> x= .ret∧Fin p180 (Enc.enc r) .ret e h
set_option maxHeartbeats 8000000 in
theorem l180_1(a0:GDga){lo:Int}{s:Unit}{t:(Unit)⊕Bool}(hF:forR lo a0.Size (F180_1_B a0) (F180_1_D a0) s=some t){e:Env}{h:Heap}(hI:I180_1 a0 lo s e h):W A c180_1 e h (P180_1 a0 t):=by
 show W A (.block 0 (.loop false b180_1)) e h _;rw[qi];refine qr hF 1 (by obtain⟨_,rfl,_⟩:=hI; rfl) (I180_1 a0) hI ?_ ?_
 ·rintro v3_1 _ e h ⟨k4,rfl,h_3⟩ hlt hw o ho
  unfold F180_1_B at ho;have w6:qf none (List.drop 1 (qb a0))=some (V.int .i64 a0.Size):=qk rfl;obtain⟨x7,gx7,ho⟩:=bS ho;have w8:=s104 v3_1 gx7;obtain⟨n9,gn9,ho⟩:=bS ho;obtain⟨w10a,w10b,w10c,w10d⟩:=qU gn9;have w11:qf none (List.drop n9 (List.drop 2 (qb a0)))=some (V.int .i64 (a0.Degrees.val.getD n9 0)):=by simp only[wH]; exact qm (i:=n9) (by omega) (by omega)
  obtain⟨x12,gx12,ho⟩:=bS ho;obtain⟨w13a,w13b⟩:=rem_w gx12;obtain⟨x14,gx14,ho⟩:=bS ho;have wx14:=qx gx14;obtain⟨x15,gx15,ho⟩:=bS ho;have wx15:=qx gx15;have w17:List.drop 8 (arc .u8 8 [])=[]:=wI (by rw[qj]; exact wG _);have w18:List.take 8 (List.drop (n9*8) (List.drop 82 (qb a0)))=arc .u8 8 (arP a0.Table.val (n9*8) 8):=by simp only[wH]; exact qG (i:=n9*8) (m:=8) (by omega) (by omega)
  have w18l:8≤List.length (List.drop (n9*8) (List.drop 82 (qb a0))):=by simp only[wQ,qj,qy]; omega
  obtain⟨x20,gx20,ho⟩:=bS ho;have w21:eqSV true 12 (Lay.arr 8 8 1 (Lay.int Go.IntKind.u8)) (V.agg (arc .u8 8 (arP a0.Table.val (n9*8) 8))) (V.agg (arc .u8 8 x7.val))=some (V.bool (!x20)):=zE gx20;cases x20 with
  |true=>
   rw[if_pos rfl]at ho;have w22:List.take 8 (List.drop (n9*64) (List.drop 82 (qb a0)))=arc .u8 8 (arP a0.Table.val (n9*64) 8):=by simp only[wH]; exact qG (i:=n9*64) (m:=8) (by omega) (by omega)
   have w22l:8≤List.length (List.drop (n9*64) (List.drop 82 (qb a0))):=by simp only[wQ,qj,qy]; omega
   obtain⟨x24,gx24,ho⟩:=bS ho;have w25:eqSV true 12 (Lay.arr 8 8 1 (Lay.int Go.IntKind.u8)) (V.agg (arc .u8 8 (arP a0.Table.val (n9*64) 8))) (V.agg (arc .u8 8 x7.val))=some (V.bool (!x24)):=zE gx24;cases x24 with
   |true=>
    rw[if_pos rfl]at ho;have w26:List.take 8 (List.drop (n9*8) (List.drop 18 (qb a0)))=arc .u8 8 (arP a0.Diff.val (n9*8) 8):=by simp only[wH]; exact qH (i:=n9*8) (m:=8) (by omega) (by omega)
    have w26l:8≤List.length (List.drop (n9*8) (List.drop 18 (qb a0))):=by simp only[wQ,qj,qy]; omega
    obtain⟨x27,gx27,ho⟩:=bS ho;have w28:ans A 198 [V.agg (qb a0),V.agg (arc .u8 8 (arP a0.Diff.val (n9*8) 8))]=some (V.agg (arc .u8 8 x27.val)):=s198 a0 ⟨(arP a0.Diff.val (n9*8) 8)⟩ gx27;obtain⟨x29,gx29,ho⟩:=bS ho;have w30:eqSV true 12 (Lay.arr 8 8 1 (Lay.int Go.IntKind.u8)) (V.agg (arc .u8 8 x27.val)) (V.agg (arc .u8 8 []))=some (V.bool (!x29)):=zE gx29;cases x29 with
    |true=>
     rw[if_pos rfl]at ho;obtain⟨t84,gt84,ho⟩:=bS ho;rcases t84 with _|r85
     ·dsimp only at ho
      simp only[simprocAttr, -Int.reduceNatCast',R0,b180_1,wB,(eq_true (show(0:Int) < ((8:Nat):Int) from by decide)), *];refine W.mono (l180_2 a0 v3_1 x7 x15 k4 gt84 (ei _ (ai rfl ?_))) ?_
      ·simp only[simprocAttr, -Int.reduceNatCast',R0,wB,(eq_true (show(0:Int) < ((8:Nat):Int) from by decide)), *]
      rintro _ e _ ⟨rfl,k32,rfl,h_33⟩;cases ho;simp only[simprocAttr, -Int.reduceNatCast',R0, *];refine ai rfl (ei _ (ai rfl ?_));simp only[simprocAttr, -Int.reduceNatCast',R0, *]
     ·dsimp only at ho
      cases ho;simp only[simprocAttr, -Int.reduceNatCast',R0,b180_1,wB,(eq_true (show(0:Int) < ((8:Nat):Int) from by decide)), *];refine W.mono (l180_2 a0 v3_1 x7 x15 k4 gt84 (ei _ (ai rfl ?_))) ?_
      ·simp only[simprocAttr, -Int.reduceNatCast',R0,wB,(eq_true (show(0:Int) < ((8:Nat):Int) from by decide)), *]
      rintro _ e h ⟨rfl,hq⟩;simp only[simprocAttr, -Int.reduceNatCast',RR,RB];intro ht; subst ht;simp only[simprocAttr, -Int.reduceNatCast',RR,RB];exact ai rfl hq
    |false=>
     rw[if_neg wC]at ho;cases ho;simp only[simprocAttr, -Int.reduceNatCast',R0,b180_1,wB,(eq_true (show(0:Int) < ((8:Nat):Int) from by decide)), *];intro ht; subst ht;simp only[simprocAttr, -Int.reduceNatCast',RR,RB];exact ai rfl (qd (by simp only[simprocAttr, -Int.reduceNatCast',R0,qe,p180,Rs.ev,qa,wB,(eq_true (show(0:Int) < ((8:Nat):Int) from by decide)), *]))
   |false=>
    rw[if_neg wC]at ho;cases ho;simp only[simprocAttr, -Int.reduceNatCast',R0,b180_1,wB,(eq_true (show(0:Int) < ((8:Nat):Int) from by decide)), *];intro ht; subst ht;simp only[simprocAttr, -Int.reduceNatCast',RR,RB];exact ai rfl (qd (by simp only[simprocAttr, -Int.reduceNatCast',R0,qe,p180,Rs.ev,qa,wB,(eq_true (show(0:Int) < ((8:Nat):Int) from by decide)), *]))
  |false=>
   rw[if_neg wC]at ho;cases ho;simp only[simprocAttr, -Int.reduceNatCast',R0,b180_1,wB,(eq_true (show(0:Int) < ((8:Nat):Int) from by decide)), *];intro ht; subst ht;simp only[simprocAttr, -Int.reduceNatCast',RR,RB];exact ai rfl (qd (by simp only[simprocAttr, -Int.reduceNatCast',R0,qe,p180,Rs.ev,qa,wB,(eq_true (show(0:Int) < ((8:Nat):Int) from by decide)), *]))
 ·rintro v3_1 _ e h ⟨k4,rfl,h_3⟩ hge t1 ho
  unfold F180_1_D at ho;have w86:qf none (List.drop 1 (qb a0))=some (V.int .i64 a0.Size):=qk rfl;cases ho;simp only[simprocAttr, -Int.reduceNatCast',R0,b180_1, *];intro ht; subst ht;refine ai rfl (ei _ (ai rfl ?_));simp only[simprocAttr, -Int.reduceNatCast',R0, *]
theorem s180(a0:GDga){r:Bool}(hF:F180 a0=some r):ans A 180 [V.agg (qb a0)]=some (Enc.enc r):=by
 refine qu (f:=p180) rfl rfl rfl fun e hl he=>?_;have h0_0:e.at 0=V.agg (qb a0):=he 0 _ rfl;have hl_0:e.length=114:=hl;clear he hl;have h_0:=ai hl_0 h0_0;show W A b180 e ⟨[],0⟩ _;unfold F180 at hF;obtain⟨x1,gx1,hF⟩:=bS hF;have w2:=s197 a0 gx1;cases x1 with
 |true=>
  rw[if_pos rfl]at hF;obtain⟨t87,gt87,hF⟩:=bS hF;rcases t87 with _|r88
  ·dsimp only at hF
   simp only[simprocAttr,R0,b180, *];refine W.mono (l180_1 a0 gt87 (ei _ (ai rfl ?_))) ?_
   ·simp only[simprocAttr,R0, *]
   rintro _ e _ ⟨rfl,k4,rfl,hl_5⟩;cases hF;simp only[simprocAttr,R0, *];exact qd (by simp only[simprocAttr,R0,qe,p180,Rs.ev,qa, *])
  ·dsimp only at hF
   cases hF;simp only[simprocAttr,R0,b180, *];refine W.mono (l180_1 a0 gt87 (ei _ (ai rfl ?_))) ?_
   ·simp only[simprocAttr,R0, *]
   rintro _ e h ⟨rfl,hq⟩;simp only[simprocAttr,RR,RB];exact hq
 |false=>
  rw[if_neg wC]at hF;cases hF;simp only[simprocAttr,R0,b180, *];exact qd (by simp only[simprocAttr,R0,qe,p180,Rs.ev,qa, *])
def F158_1_B(a0:GDga)(a1:List (Ar .u8 8))(v5_1:Int)(s:Unit):Option ((Unit)⊕((Unit)⊕Int)):=
 (getI a1 v5_1).bind fun x8=>
(F181 a0.Prime a0.Size x8).bind fun x11=>
if x11=true then
 some (.inl ())
else
 some (.inr (.inr 1))
def F158_1_D(a0:GDga)(a1:List (Ar .u8 8))(v5_1:Int)(s:Unit):Option ((Unit)⊕Int):=
 some (.inl ())
def F158(a0:GDga)(a1:List (Ar .u8 8)):Option Int:=
 (F180 a0).bind fun x1=>
 if x1=true then
  (forR 0 (a1.length:Int) (F158_1_B a0 a1) (F158_1_D a0 a1) ()).bind fun t13=> match t13 with
   | .inl _=>
    some 0
   | .inr r14=> some r14
 else
  some 1
def I158_1(a0:GDga)(a1:List (Ar .u8 8))(v5_1:Int)(s:Unit)(e:Env)(h:Heap):Prop:=
 ∃k4:Nat,h=⟨[(0,none)],k4⟩∧e.length=25∧e.at 1=V.isl (a1.map Enc.enc)∧e.at 2=V.iptr (qb a0)∧e.at 5=V.int .i64 v5_1
def P158_1(a0:GDga)(a1:List (Ar .u8 8))(t:(Unit)⊕Int)(x:Ex)(e:Env)(h:Heap):Prop:=
 match t with
 | .inl _=> x= .normal∧∃k4:Nat,h=⟨[(0,none)],k4⟩∧e.length=25
 | .inr r=> x= .ret∧Fin p158 (Enc.enc r) .ret e h
theorem l158_1(a0:GDga)(a1:List (Ar .u8 8)){lo:Int}{s:Unit}{t:(Unit)⊕Int}(hF:forR lo (a1.length:Int) (F158_1_B a0 a1) (F158_1_D a0 a1) s=some t){e:Env}{h:Heap}(hI:I158_1 a0 a1 lo s e h):W A c158_1 e h (P158_1 a0 a1 t):=by
 show W A (.block 0 (.loop false b158_1)) e h _;rw[qi];refine qr hF 1 (by obtain⟨_,rfl,_⟩:=hI; rfl) (I158_1 a0 a1) hI ?_ ?_
 ·rintro v5_1 _ e h ⟨k4,rfl,h_3⟩ hlt hw o ho
  unfold F158_1_B at ho;have w6:qf none (qb a0)=some (V.int .i64 a0.Prime):=qA (a:=0) rfl;have w7:qf none (List.drop 1 (qb a0))=some (V.int .i64 a0.Size):=qk rfl;obtain⟨x8,gx8,ho⟩:=bS ho;obtain⟨w9a,w9b⟩:=ql gx8;obtain⟨x11,gx11,ho⟩:=bS ho;have w12:=s181 a0.Prime a0.Size x8 gx11;cases x11 with
  |true=>
   rw[if_pos rfl]at ho;cases ho;simp only[simprocAttr,R0,b158_1, *];refine ai rfl (ei _ (ai rfl ?_));simp only[simprocAttr,R0, *]
  |false=>
   rw[if_neg wC]at ho;cases ho;simp only[simprocAttr,R0,b158_1, *];intro ht; subst ht;simp only[simprocAttr,RR,RB];exact ai rfl (qd (by simp only[simprocAttr,R0,qe,p158,Rs.ev,qa, *]))
 ·rintro v5_1 _ e h ⟨k4,rfl,h_3⟩ hge t1 ho
  unfold F158_1_D at ho;cases ho;simp only[simprocAttr,R0,b158_1, *];intro ht; subst ht;refine ai rfl (ei _ (ai rfl ?_));simp only[simprocAttr,R0, *]
theorem s158(a0:GDga)(a1:List (Ar .u8 8)){r:Int}(hF:F158 a0 a1=some r):ans A 158 [V.agg (qb a0),V.isl (a1.map Enc.enc)]=some (Enc.enc r):=by
 refine qu (f:=p158) rfl rfl rfl fun e hl he=>?_;have h0_0:e.at 0=V.agg (qb a0):=he 0 _ rfl;have h1_0:e.at 1=V.isl (a1.map Enc.enc):=he 1 _ rfl;have hl_0:e.length=25:=hl;clear he hl;have h_0:=ai hl_0 (ai h0_0 h1_0);show W A b158 e ⟨[],0⟩ _;unfold F158 at hF;obtain⟨x1,gx1,hF⟩:=bS hF;have w2:=s180 a0 gx1;cases x1 with
 |true=>
  rw[if_pos rfl]at hF;obtain⟨t13,gt13,hF⟩:=bS hF;rcases t13 with _|r14
  ·dsimp only at hF
   simp only[simprocAttr,R0,b158, *];refine W.mono (l158_1 a0 a1 gt13 (ei _ (ai rfl ?_))) ?_
   ·simp only[simprocAttr,R0, *]
   rintro _ e _ ⟨rfl,k4,rfl,hl_5⟩;cases hF;simp only[simprocAttr,R0, *];exact qd (by simp only[simprocAttr,R0,qe,p158,Rs.ev,qa, *])
  ·dsimp only at hF
   cases hF;simp only[simprocAttr,R0,b158, *];refine W.mono (l158_1 a0 a1 gt13 (ei _ (ai rfl ?_))) ?_
   ·simp only[simprocAttr,R0, *]
   rintro _ e h ⟨rfl,hq⟩;simp only[simprocAttr,RR,RB];exact hq
 |false=>
  rw[if_neg wC]at hF;cases hF;simp only[simprocAttr,R0,b158, *];exact qd (by simp only[simprocAttr,R0,qe,p158,Rs.ev,qa, *])
def F79_2_S(a0:Int)(a1:List (List Int))(a3:Int)(v9_1:Int)(v10_2:Int):Option ((Int)⊕((Unit)⊕Bool)):=
 (getI a1 v9_1).bind fun x11=>
if v10_2 < (x11.length:Int)then
 (getI x11 v10_2).bind fun x14=>
 (chk (a0 - 1)).bind fun x16=>
 (F54 x14 0 x16).bind fun x17=>
 if x17=true then
  (chk (v10_2+1)).bind fun x19=>
  some (.inl x19)
 else
  some (.inr (.inr false))
else
 some (.inr (.inl ()))
def F79_1_B(a0:Int)(a1:List (List Int))(a3:Int)(v9_1:Int)(s:Unit):Option ((Unit)⊕((Unit)⊕Bool)):=
 (getI a1 v9_1).bind fun x5=>
if(x5.length:Int)=a3 then
 (zD (F79_2_S a0 a1 a3 v9_1) 0).bind fun t20=> match t20 with
  | .inl _=>
   some (.inl ())
  | .inr r21=> some (.inr (.inr r21))
else
 some (.inr (.inr false))
def F79_1_D(a0:Int)(a1:List (List Int))(a3:Int)(v9_1:Int)(s:Unit):Option ((Unit)⊕Bool):=
 some (.inl ())
def F79(a0:Int)(a1:List (List Int))(a2:Int)(a3:Int):Option Bool:=
 if(a1.length:Int)=a2 then
  (forR 0 (a1.length:Int) (F79_1_B a0 a1 a3) (F79_1_D a0 a1 a3) ()).bind fun t22=> match t22 with
   | .inl _=>
    some true
   | .inr r23=> some r23
 else
  some false
def I79_2(a0:Int)(a1:List (List Int))(a3:Int)(v9_1:Int)(v10_2:Int)(e:Env)(h:Heap):Prop:=
 ∃k9:Nat,h=⟨[],k9⟩∧e.length=48∧e.at 0=V.int .i64 a0∧e.at 1=V.isl (a1.map Enc.enc)∧e.at 3=V.int .i64 a3∧e.at 9=V.int .i64 v9_1∧e.at 10=V.int .i64 v10_2
def P79_2(a0:Int)(a1:List (List Int))(a3:Int)(v9_1:Int)(t:(Unit)⊕Bool)(x:Ex)(e:Env)(h:Heap):Prop:=
 match t with
 | .inl _=> x= .normal∧∃k9:Nat,h=⟨[],k9⟩∧e.length=48∧e.at 0=V.int .i64 a0∧e.at 1=V.isl (a1.map Enc.enc)∧e.at 3=V.int .i64 a3∧e.at 9=V.int .i64 v9_1
 | .inr r=> x= .ret∧Fin p79 (Enc.enc r) .ret e h
theorem l79_2(a0:Int)(a1:List (List Int))(a3:Int)(v9_1:Int){s:Int}{t:(Unit)⊕Bool}(hF:zD (F79_2_S a0 a1 a3 v9_1) s=some t){e:Env}{h:Heap}(hI:I79_2 a0 a1 a3 v9_1 s e h):W A c79_2 e h (P79_2 a0 a1 a3 v9_1 t):=by
 show W A (.block 2 (.loop false b79_2)) e h _;rw[qi];refine W_loop hF 0 (by obtain⟨_,rfl,_⟩:=hI; rfl) (I79_2 a0 a1 a3 v9_1) hI ?_
 ·rintro v10_2 e h ⟨k9,rfl,h_8⟩ o ho
  unfold F79_2_S at ho;obtain⟨x11,gx11,ho⟩:=bS ho;obtain⟨w12a,w12b⟩:=ql gx11;by_cases c13:v10_2 < (x11.length:Int)
  ·rw[if_pos c13]at ho
   obtain⟨x14,gx14,ho⟩:=bS ho;obtain⟨w15a,w15b⟩:=ql gx14;obtain⟨x16,gx16,ho⟩:=bS ho;have wx16:=qx gx16;obtain⟨x17,gx17,ho⟩:=bS ho;have w18:=s54 x14 0 x16 gx17;cases x17 with
   |true=>
    rw[if_pos rfl]at ho;obtain⟨x19,gx19,ho⟩:=bS ho;have wx19:=qx gx19;cases ho;simp only[simprocAttr,R0,b79_2, *];refine ai rfl (ei _ (ai rfl ?_));simp only[simprocAttr,R0, *]
   |false=>
    rw[if_neg wC]at ho;cases ho;simp only[simprocAttr,R0,b79_2, *];intro ht; subst ht;simp only[simprocAttr,RR,RB];exact ai rfl (qd (by simp only[simprocAttr,R0,qe,p79,Rs.ev,qa, *]))
  ·rw[if_neg c13]at ho
   cases ho;simp only[simprocAttr,R0,b79_2, *];intro ht; subst ht;simp only[simprocAttr,RR,RB];refine ai rfl (ei _ (ai rfl ?_));simp only[simprocAttr,R0, *]
def I79_1(a0:Int)(a1:List (List Int))(a3:Int)(v9_1:Int)(s:Unit)(e:Env)(h:Heap):Prop:=
 ∃k3:Nat,h=⟨[],k3⟩∧e.length=48∧e.at 0=V.int .i64 a0∧e.at 1=V.isl (a1.map Enc.enc)∧e.at 3=V.int .i64 a3∧e.at 9=V.int .i64 v9_1
def P79_1(a0:Int)(a1:List (List Int))(a3:Int)(t:(Unit)⊕Bool)(x:Ex)(e:Env)(h:Heap):Prop:=
 match t with
 | .inl _=> x= .normal∧∃k3:Nat,h=⟨[],k3⟩∧e.length=48
 | .inr r=> x= .ret∧Fin p79 (Enc.enc r) .ret e h
theorem l79_1(a0:Int)(a1:List (List Int))(a3:Int){lo:Int}{s:Unit}{t:(Unit)⊕Bool}(hF:forR lo (a1.length:Int) (F79_1_B a0 a1 a3) (F79_1_D a0 a1 a3) s=some t){e:Env}{h:Heap}(hI:I79_1 a0 a1 a3 lo s e h):W A c79_1 e h (P79_1 a0 a1 a3 t):=by
 show W A (.block 0 (.loop false b79_1)) e h _;rw[qi];refine qr hF 0 (by obtain⟨_,rfl,_⟩:=hI; rfl) (I79_1 a0 a1 a3) hI ?_ ?_
 ·rintro v9_1 _ e h ⟨k3,rfl,h_2⟩ hlt hw o ho
  unfold F79_1_B at ho;obtain⟨x5,gx5,ho⟩:=bS ho;obtain⟨w6a,w6b⟩:=ql gx5;by_cases c7:(x5.length:Int)=a3
  ·rw[if_pos c7]at ho
   obtain⟨t20,gt20,ho⟩:=bS ho;rcases t20 with _|r21
   ·dsimp only at ho
    simp only[simprocAttr,R0,b79_1, *];refine W.mono (l79_2 a0 a1 a3 v9_1 gt20 (ei _ (ai rfl ?_))) ?_
    ·simp only[simprocAttr,R0, *]
    rintro _ e _ ⟨rfl,k9,rfl,h_10⟩;cases ho;simp only[simprocAttr,R0, *];refine ai rfl (ei _ (ai rfl ?_));simp only[simprocAttr,R0, *]
   ·dsimp only at ho
    cases ho;simp only[simprocAttr,R0,b79_1, *];refine W.mono (l79_2 a0 a1 a3 v9_1 gt20 (ei _ (ai rfl ?_))) ?_
    ·simp only[simprocAttr,R0, *]
    rintro _ e h ⟨rfl,hq⟩;simp only[simprocAttr,RR,RB];intro ht; subst ht;simp only[simprocAttr,RR,RB];exact ai rfl hq
  ·rw[if_neg c7]at ho
   cases ho;simp only[simprocAttr,R0,b79_1, *];intro ht; subst ht;simp only[simprocAttr,RR,RB];exact ai rfl (qd (by simp only[simprocAttr,R0,qe,p79,Rs.ev,qa, *]))
 ·rintro v9_1 _ e h ⟨k3,rfl,h_2⟩ hge t1 ho
  unfold F79_1_D at ho;cases ho;simp only[simprocAttr,R0,b79_1, *];intro ht; subst ht;refine ai rfl (ei _ (ai rfl ?_));simp only[simprocAttr,R0, *]
theorem s79(a0:Int)(a1:List (List Int))(a2:Int)(a3:Int){r:Bool}(hF:F79 a0 a1 a2 a3=some r):ans A 79 [V.int .i64 a0,V.isl (a1.map Enc.enc),V.int .i64 a2,V.int .i64 a3]=some (Enc.enc r):=by
 refine qu (f:=p79) rfl rfl rfl fun e hl he=>?_;have h0_0:e.at 0=V.int .i64 a0:=he 0 _ rfl;have h1_0:e.at 1=V.isl (a1.map Enc.enc):=he 1 _ rfl;have h2_0:e.at 2=V.int .i64 a2:=he 2 _ rfl;have h3_0:e.at 3=V.int .i64 a3:=he 3 _ rfl;have hl_0:e.length=48:=hl;clear he hl;have h_0:=ai hl_0 (ai h0_0 (ai h1_0 (ai h2_0 h3_0)));show W A b79 e ⟨[],0⟩ _;unfold F79 at hF;by_cases c1:(a1.length:Int)=a2
 ·rw[if_pos c1]at hF
  obtain⟨t22,gt22,hF⟩:=bS hF;rcases t22 with _|r23
  ·dsimp only at hF
   simp only[simprocAttr,R0,b79, *];refine W.mono (l79_1 a0 a1 a3 gt22 (ei _ (ai rfl ?_))) ?_
   ·simp only[simprocAttr,R0, *]
   rintro _ e _ ⟨rfl,k3,rfl,hl_4⟩;cases hF;simp only[simprocAttr,R0, *];exact qd (by simp only[simprocAttr,R0,qe,p79,Rs.ev,qa, *])
  ·dsimp only at hF
   cases hF;simp only[simprocAttr,R0,b79, *];refine W.mono (l79_1 a0 a1 a3 gt22 (ei _ (ai rfl ?_))) ?_
   ·simp only[simprocAttr,R0, *]
   rintro _ e h ⟨rfl,hq⟩;simp only[simprocAttr,RR,RB];exact hq
 ·rw[if_neg c1]at hF
  cases hF;simp only[simprocAttr,R0,b79, *];exact qd (by simp only[simprocAttr,R0,qe,p79,Rs.ev,qa, *])
def F80_2_S(a0:Int)(a1:List (List Int))(a2:List Int)(v10_1:Int)(s:(List Int)×Int):Option (((List Int)×Int)⊕((List Int))):=
 match s with
 |(o0_2,v11_2)=>
  if v11_2 < ((o0_2.length:Nat):Int)then
   (getI o0_2 v11_2).bind fun x12=>
   (getI a2 v10_1).bind fun x14=>
   (getI a1 v10_1).bind fun x16=>
   (getI x16 v11_2).bind fun x18=>
   (chk (x14*x18)).bind fun x20=>
   (chk (x12+x20)).bind fun x21=>
   (remI x21 a0).bind fun x22=>
   (setI o0_2 v11_2 x22).bind fun l24=>
   (chk (v11_2+1)).bind fun x26=>
   some (.inl (l24,x26))
  else
   some (.inr o0_2)
def F80_1_B(a0:Int)(a1:List (List Int))(a2:List Int)(v10_1:Int)(o0_1:(List Int)):Option (((List Int))⊕((List Int))):=
 (zD (F80_2_S a0 a1 a2 v10_1) (o0_1,0)).bind fun zo0_2=>
some (.inl zo0_2)
def F80_1_D(a0:Int)(a1:List (List Int))(a2:List Int)(v10_1:Int)(o0_1:(List Int)):Option ((List Int)):=
 some o0_1
def F80(a0:Int)(a1:List (List Int))(a2:List Int)(a3:Int):Option (List Int):=
 (mkL 8 a3 0).bind fun l1=>
 (forR 0 (a2.length:Int) (F80_1_B a0 a1 a2) (F80_1_D a0 a1 a2) l1).bind fun zo0_1=>
 some zo0_1
def I80_2(a0:Int)(a1:List (List Int))(a2:List Int)(v10_1:Int)(s:(List Int)×Int)(e:Env)(h:Heap):Prop:=
 match s with
 |(o0_2,v11_2)=>
  ∃u8 k9:Nat,h=⟨[(u8,some (o0_2.map Enc.enc))],k9⟩∧e.length=49∧e.at 0=V.int .i64 a0∧e.at 1=V.isl (a1.map Enc.enc)∧e.at 2=V.isl (a2.map Enc.enc)∧e.at 9=V.sl 0 u8 0 o0_2.length 1∧e.at 10=V.int .i64 v10_1∧e.at 11=V.int .i64 v11_2
def P80_2(a0:Int)(a1:List (List Int))(a2:List Int)(v10_1:Int)(zo0_2:(List Int))(x:Ex)(e:Env)(h:Heap):Prop:=
 x= .normal∧∃u8 k9:Nat,h=⟨[(u8,some (zo0_2.map Enc.enc))],k9⟩∧e.length=49∧e.at 0=V.int .i64 a0∧e.at 1=V.isl (a1.map Enc.enc)∧e.at 2=V.isl (a2.map Enc.enc)∧e.at 9=V.sl 0 u8 0 zo0_2.length 1∧e.at 10=V.int .i64 v10_1
theorem l80_2(a0:Int)(a1:List (List Int))(a2:List Int)(v10_1:Int){s:(List Int)×Int}{t:(List Int)}(hF:zD (F80_2_S a0 a1 a2 v10_1) s=some t){e:Env}{h:Heap}(hI:I80_2 a0 a1 a2 v10_1 s e h):W A c80_2 e h (P80_2 a0 a1 a2 v10_1 t):=by
 show W A (.block 2 (.loop false b80_2)) e h _;rw[qi];refine W_loop hF 1 (by rcases s with⟨_,_⟩; obtain⟨_,_,rfl,_⟩:=hI; rfl) (I80_2 a0 a1 a2 v10_1) hI ?_
 ·rintro⟨o0_2,v11_2⟩ e h ⟨u8,k9,rfl,h_7⟩ o ho
  unfold F80_2_S at ho;dsimp only at ho;by_cases c11:v11_2 < ((o0_2.length:Nat):Int)
  ·rw[if_pos c11]at ho
   obtain⟨x12,gx12,ho⟩:=bS ho;obtain⟨w13a,w13b⟩:=ql gx12;have w13c:=qV gx12;have w13d:List.drop (Int.toNat v11_2) (o0_2.map Enc.enc)=(V.int .i64 x12)::List.drop ((Int.toNat v11_2)+1) (o0_2.map Enc.enc):=jO w13b;obtain⟨x14,gx14,ho⟩:=bS ho;obtain⟨w15a,w15b⟩:=ql gx14;obtain⟨x16,gx16,ho⟩:=bS ho;obtain⟨w17a,w17b⟩:=ql gx16;obtain⟨x18,gx18,ho⟩:=bS ho;obtain⟨w19a,w19b⟩:=ql gx18;obtain⟨x20,gx20,ho⟩:=bS ho;have wx20:=qx gx20;obtain⟨x21,gx21,ho⟩:=bS ho;have wx21:=qx gx21;obtain⟨x22,gx22,ho⟩:=bS ho;obtain⟨w23a,w23b⟩:=rem_w gx22;obtain⟨l24,gl24,ho⟩:=bS ho;obtain⟨w25a,w25b,w25c,w25d,w25e⟩:=xr gl24;replace w25e:List.take (Int.toNat v11_2) (o0_2.map Enc.enc)++[V.int .i64 x22]++List.drop (Int.toNat v11_2+1) (o0_2.map Enc.enc)=List.map Enc.enc l24:=w25e;obtain⟨x26,gx26,ho⟩:=bS ho;have wx26:=qx gx26;cases ho;simp only[simprocAttr,R0,b80_2, *];refine ai rfl (ei _ (ei _ (ai rfl ?_)));simp only[simprocAttr,R0, *]
  ·rw[if_neg c11]at ho
   cases ho;simp only[simprocAttr,R0,b80_2, *];intro ht; subst ht;simp only[simprocAttr,RR,RB];refine ai rfl (ei _ (ei _ (ai rfl ?_)));simp only[simprocAttr,R0, *]
def I80_1(a0:Int)(a1:List (List Int))(a2:List Int)(v10_1:Int)(o0_1:(List Int))(e:Env)(h:Heap):Prop:=
 ∃u4 k5:Nat,h=⟨[(u4,some (o0_1.map Enc.enc))],k5⟩∧e.length=49∧e.at 0=V.int .i64 a0∧e.at 1=V.isl (a1.map Enc.enc)∧e.at 2=V.isl (a2.map Enc.enc)∧e.at 9=V.sl 0 u4 0 o0_1.length 1∧e.at 10=V.int .i64 v10_1
def P80_1(a0:Int)(a1:List (List Int))(a2:List Int)(zo0_1:(List Int))(x:Ex)(e:Env)(h:Heap):Prop:=
 x= .normal∧∃u4 k5:Nat,h=⟨[(u4,some (zo0_1.map Enc.enc))],k5⟩∧e.length=49∧e.at 9=V.sl 0 u4 0 zo0_1.length 1
theorem l80_1(a0:Int)(a1:List (List Int))(a2:List Int){lo:Int}{s:(List Int)}{t:(List Int)}(hF:forR lo (a2.length:Int) (F80_1_B a0 a1 a2) (F80_1_D a0 a1 a2) s=some t){e:Env}{h:Heap}(hI:I80_1 a0 a1 a2 lo s e h):W A c80_1 e h (P80_1 a0 a1 a2 t):=by
 show W A (.block 0 (.loop false b80_1)) e h _;rw[qi];refine qr hF 1 (by obtain⟨_,_,rfl,_⟩:=hI; rfl) (I80_1 a0 a1 a2) hI ?_ ?_
 ·rintro v10_1 o0_1 e h ⟨u4,k5,rfl,h_3⟩ hlt hw o ho
  unfold F80_1_B at ho;obtain⟨zo0_2,gt27,ho⟩:=bS ho;simp only[simprocAttr,R0,b80_1, *];refine W.mono (l80_2 a0 a1 a2 v10_1 gt27 (ei _ (ei _ (ai rfl ?_)))) ?_
  ·simp only[simprocAttr,R0, *]
  rintro _ e _ ⟨rfl,u8,k9,rfl,h_10⟩;cases ho;simp only[simprocAttr,R0, *];refine ai rfl (ei _ (ei _ (ai rfl ?_)));simp only[simprocAttr,R0, *]
 ·rintro v10_1 o0_1 e h ⟨u4,k5,rfl,h_3⟩ hge t1 ho
  unfold F80_1_D at ho;cases ho;simp only[simprocAttr,R0,b80_1, *];intro ht; subst ht;refine ai rfl (ei _ (ei _ (ai rfl ?_)));simp only[simprocAttr,R0, *]
theorem s80(a0:Int)(a1:List (List Int))(a2:List Int)(a3:Int){r:List Int}(hF:F80 a0 a1 a2 a3=some r):ans A 80 [V.int .i64 a0,V.isl (a1.map Enc.enc),V.isl (a2.map Enc.enc),V.int .i64 a3]=some (Enc.enc r):=by
 refine qu (f:=p80) rfl rfl rfl fun e hl he=>?_;have h0_0:e.at 0=V.int .i64 a0:=he 0 _ rfl;have h1_0:e.at 1=V.isl (a1.map Enc.enc):=he 1 _ rfl;have h2_0:e.at 2=V.isl (a2.map Enc.enc):=he 2 _ rfl;have h3_0:e.at 3=V.int .i64 a3:=he 3 _ rfl;have hl_0:e.length=49:=hl;clear he hl;show W A b80 e ⟨[],0⟩ _;unfold F80 at hF;obtain⟨l1,gl1,hF⟩:=bS hF;obtain⟨w2a,w2b,w2c,w2d,w2e⟩:=mkL_w gl1;replace w2e:(List.replicate (Int.toNat a3) [V.int .i64 0]).flatten=List.map Enc.enc l1:=w2e;obtain⟨zo0_1,gt28,hF⟩:=bS hF;simp only[simprocAttr, -Int.reduceNatCast',R0,b80, *];refine W.mono (l80_1 a0 a1 a2 gt28 (ei _ (ei _ (ai rfl ?_)))) ?_
 ·simp only[simprocAttr, -Int.reduceNatCast',R0, *]
 rintro _ e _ ⟨rfl,u4,k5,rfl,hl_6,h9_6⟩;have hE:=wA hF; subst hE;simp only[simprocAttr, -Int.reduceNatCast',R0, *];exact qd (by simp only[simprocAttr, -Int.reduceNatCast',R0,qe,p80,Rs.ev,qa,frzs (α:=Int) zo0_1,qO (α:=Int) zo0_1, *])
def F39_1_B(a0:qh)(v3_1:Int)(s:Unit):Option ((Unit)⊕((Unit)⊕Bool)):=
 (getI a0.Dims v3_1).bind fun x10=>
(F54 x10 0 8).bind fun x12=>
if x12=true then
 some (.inl ())
else
 some (.inr (.inr false))
def F39_1_D(a0:qh)(v3_1:Int)(s:Unit):Option ((Unit)⊕Bool):=
 some (.inl ())
def F39_3_S(a0:qh)(v4_2:Int)(v5_3:Int):Option ((Int)⊕((Unit)⊕Bool)):=
 (getI a0.Maps v4_2).bind fun x29=>
if v5_3 < (x29.length:Int)then
 if 0 < v4_2 then
  (chk (v4_2 - 1)).bind fun x33=>
  (getI a0.Maps x33).bind fun x34=>
  (getI x29 v5_3).bind fun x36=>
  (getI a0.Dims x33).bind fun x38=>
  (F80 a0.Prime x34 x36 x38).bind fun x40=>
  (F81 x40).bind fun x42=>
  if 0≤x42 then
   some (.inr (.inr false))
  else
   (chk (v5_3+1)).bind fun x45=>
   some (.inl x45)
 else
  some (.inr (.inl ()))
else
 some (.inr (.inl ()))
def F39_2_B(a0:qh)(v4_2:Int)(s:Unit):Option ((Unit)⊕((Unit)⊕Bool)):=
 (getI a0.Maps v4_2).bind fun x18=>
(getI a0.Dims (v4_2+1)).bind fun x20=>
(getI a0.Dims v4_2).bind fun x22=>
(F79 a0.Prime x18 x20 x22).bind fun x24=>
if x24=true then
 (zD (F39_3_S a0 v4_2) 0).bind fun t46=> match t46 with
  | .inl _=>
   some (.inl ())
  | .inr r47=> some (.inr (.inr r47))
else
 some (.inr (.inr false))
def F39_2_D(a0:qh)(v4_2:Int)(s:Unit):Option ((Unit)⊕Bool):=
 some (.inl ())
def F39(a0:qh):Option Bool:=
 (F78 a0.Prime).bind fun x1=>
 if x1=true then
  if(a0.Dims.length:Int) < 1 then
   some false
  else
   if 6 < (a0.Dims.length:Int)then
    some false
   else
    (chk ((a0.Dims.length:Int) - 1)).bind fun x5=>
    if(a0.Maps.length:Int)=x5 then
     (forR 0 (a0.Dims.length:Int) (F39_1_B a0) (F39_1_D a0) ()).bind fun t14=> match t14 with
      | .inl _=>
       (forR 0 (a0.Maps.length:Int) (F39_2_B a0) (F39_2_D a0) ()).bind fun t48=> match t48 with
        | .inl _=>
         some true
        | .inr r49=> some r49
      | .inr r50=> some r50
    else
     some false
 else
  some false
def I39_1(a0:qh)(v3_1:Int)(s:Unit)(e:Env)(h:Heap):Prop:=
 ∃k8:Nat,h=⟨[(0,none)],k8⟩∧e.length=112∧e.at 1=V.iptr [V.int .i64 a0.Prime,V.isl (a0.Dims.map Enc.enc),V.isl (a0.Maps.map Enc.enc)]∧e.at 3=V.int .i64 v3_1
def P39_1(a0:qh)(t:(Unit)⊕Bool)(x:Ex)(e:Env)(h:Heap):Prop:=
 match t with
 | .inl _=> x= .normal∧∃k8:Nat,h=⟨[(0,none)],k8⟩∧e.length=112∧e.at 1=V.iptr [V.int .i64 a0.Prime,V.isl (a0.Dims.map Enc.enc),V.isl (a0.Maps.map Enc.enc)]
 | .inr r=> x= .ret∧Fin p39 (Enc.enc r) .ret e h
theorem l39_1(a0:qh){lo:Int}{s:Unit}{t:(Unit)⊕Bool}(hF:forR lo (a0.Dims.length:Int) (F39_1_B a0) (F39_1_D a0) s=some t){e:Env}{h:Heap}(hI:I39_1 a0 lo s e h):W A c39_1 e h (P39_1 a0 t):=by
 show W A (.block 0 (.loop false b39_1)) e h _;rw[qi];refine qr hF 1 (by obtain⟨_,rfl,_⟩:=hI; rfl) (I39_1 a0) hI ?_ ?_
 ·rintro v3_1 _ e h ⟨k8,rfl,h_7⟩ hlt hw o ho
  unfold F39_1_B at ho;obtain⟨x10,gx10,ho⟩:=bS ho;obtain⟨w11a,w11b⟩:=ql gx10;obtain⟨x12,gx12,ho⟩:=bS ho;have w13:=s54 x10 0 8 gx12;cases x12 with
  |true=>
   rw[if_pos rfl]at ho;cases ho;simp only[simprocAttr,R0,b39_1, *];refine ai rfl (ei _ (ai rfl ?_));simp only[simprocAttr,R0, *]
  |false=>
   rw[if_neg wC]at ho;cases ho;simp only[simprocAttr,R0,b39_1, *];intro ht; subst ht;simp only[simprocAttr,RR,RB];exact ai rfl (qd (by simp only[simprocAttr,R0,qe,p39,Rs.ev,qa, *]))
 ·rintro v3_1 _ e h ⟨k8,rfl,h_7⟩ hge t1 ho
  unfold F39_1_D at ho;cases ho;simp only[simprocAttr,R0,b39_1, *];intro ht; subst ht;refine ai rfl (ei _ (ai rfl ?_));simp only[simprocAttr,R0, *]
def I39_3(a0:qh)(v4_2:Int)(v5_3:Int)(e:Env)(h:Heap):Prop:=
 ∃k27:Nat,h=⟨[(0,none)],k27⟩∧e.length=112∧e.at 1=V.iptr [V.int .i64 a0.Prime,V.isl (a0.Dims.map Enc.enc),V.isl (a0.Maps.map Enc.enc)]∧e.at 4=V.int .i64 v4_2∧e.at 5=V.int .i64 v5_3
def P39_3(a0:qh)(v4_2:Int)(t:(Unit)⊕Bool)(x:Ex)(e:Env)(h:Heap):Prop:=
 match t with
 | .inl _=> x= .normal∧∃k27:Nat,h=⟨[(0,none)],k27⟩∧e.length=112∧e.at 1=V.iptr [V.int .i64 a0.Prime,V.isl (a0.Dims.map Enc.enc),V.isl (a0.Maps.map Enc.enc)]∧e.at 4=V.int .i64 v4_2
 | .inr r=> x= .ret∧Fin p39 (Enc.enc r) .ret e h
theorem l39_3(a0:qh)(v4_2:Int){s:Int}{t:(Unit)⊕Bool}(hF:zD (F39_3_S a0 v4_2) s=some t){e:Env}{h:Heap}(hI:I39_3 a0 v4_2 s e h):W A c39_3 e h (P39_3 a0 v4_2 t):=by
 show W A (.block 4 (.loop false b39_3)) e h _;rw[qi];refine W_loop hF 1 (by obtain⟨_,rfl,_⟩:=hI; rfl) (I39_3 a0 v4_2) hI ?_
 ·rintro v5_3 e h ⟨k27,rfl,h_26⟩ o ho
  unfold F39_3_S at ho;obtain⟨x29,gx29,ho⟩:=bS ho;obtain⟨w30a,w30b⟩:=ql gx29;by_cases c31:v5_3 < (x29.length:Int)
  ·rw[if_pos c31]at ho
   by_cases c32:0 < v4_2
   ·rw[if_pos c32]at ho
    obtain⟨x33,gx33,ho⟩:=bS ho;have wx33:=qx gx33;obtain⟨x34,gx34,ho⟩:=bS ho;obtain⟨w35a,w35b⟩:=ql gx34;obtain⟨x36,gx36,ho⟩:=bS ho;obtain⟨w37a,w37b⟩:=ql gx36;obtain⟨x38,gx38,ho⟩:=bS ho;obtain⟨w39a,w39b⟩:=ql gx38;obtain⟨x40,gx40,ho⟩:=bS ho;have w41:=s80 a0.Prime x34 x36 x38 gx40;obtain⟨x42,gx42,ho⟩:=bS ho;have w43:=s81 x40 gx42;by_cases c44:0≤x42
    ·rw[if_pos c44]at ho
     cases ho;simp only[simprocAttr,R0,b39_3, *];intro ht; subst ht;simp only[simprocAttr,RR,RB];exact ai rfl (qd (by simp only[simprocAttr,R0,qe,p39,Rs.ev,qa, *]))
    ·rw[if_neg c44]at ho
     obtain⟨x45,gx45,ho⟩:=bS ho;have wx45:=qx gx45;cases ho;simp only[simprocAttr,R0,b39_3, *];refine ai rfl (ei _ (ai rfl ?_));simp only[simprocAttr,R0, *]
   ·rw[if_neg c32]at ho
    cases ho;simp only[simprocAttr,R0,b39_3, *];intro ht; subst ht;simp only[simprocAttr,RR,RB];refine ai rfl (ei _ (ai rfl ?_));simp only[simprocAttr,R0, *]
  ·rw[if_neg c31]at ho
   cases ho;simp only[simprocAttr,R0,b39_3, *];intro ht; subst ht;simp only[simprocAttr,RR,RB];refine ai rfl (ei _ (ai rfl ?_));simp only[simprocAttr,R0, *]
def I39_2(a0:qh)(v4_2:Int)(s:Unit)(e:Env)(h:Heap):Prop:=
 ∃k16:Nat,h=⟨[(0,none)],k16⟩∧e.length=112∧e.at 1=V.iptr [V.int .i64 a0.Prime,V.isl (a0.Dims.map Enc.enc),V.isl (a0.Maps.map Enc.enc)]∧e.at 4=V.int .i64 v4_2
def P39_2(a0:qh)(t:(Unit)⊕Bool)(x:Ex)(e:Env)(h:Heap):Prop:=
 match t with
 | .inl _=> x= .normal∧∃k16:Nat,h=⟨[(0,none)],k16⟩∧e.length=112
 | .inr r=> x= .ret∧Fin p39 (Enc.enc r) .ret e h
theorem l39_2(a0:qh){lo:Int}{s:Unit}{t:(Unit)⊕Bool}(hF:forR lo (a0.Maps.length:Int) (F39_2_B a0) (F39_2_D a0) s=some t){e:Env}{h:Heap}(hI:I39_2 a0 lo s e h):W A c39_2 e h (P39_2 a0 t):=by
 show W A (.block 2 (.loop false b39_2)) e h _;rw[qi];refine qr hF 1 (by obtain⟨_,rfl,_⟩:=hI; rfl) (I39_2 a0) hI ?_ ?_
 ·rintro v4_2 _ e h ⟨k16,rfl,h_15⟩ hlt hw o ho
  unfold F39_2_B at ho;obtain⟨x18,gx18,ho⟩:=bS ho;obtain⟨w19a,w19b⟩:=ql gx18;obtain⟨x20,gx20,ho⟩:=bS ho;obtain⟨w21a,w21b⟩:=ql gx20;obtain⟨x22,gx22,ho⟩:=bS ho;obtain⟨w23a,w23b⟩:=ql gx22;obtain⟨x24,gx24,ho⟩:=bS ho;have w25:=s79 a0.Prime x18 x20 x22 gx24;cases x24 with
  |true=>
   rw[if_pos rfl]at ho;obtain⟨t46,gt46,ho⟩:=bS ho;rcases t46 with _|r47
   ·dsimp only at ho
    simp only[simprocAttr,R0,b39_2, *];refine W.mono (l39_3 a0 v4_2 gt46 (ei _ (ai rfl ?_))) ?_
    ·simp only[simprocAttr,R0, *]
    rintro _ e _ ⟨rfl,k27,rfl,h_28⟩;cases ho;simp only[simprocAttr,R0, *];refine ai rfl (ei _ (ai rfl ?_));simp only[simprocAttr,R0, *]
   ·dsimp only at ho
    cases ho;simp only[simprocAttr,R0,b39_2, *];refine W.mono (l39_3 a0 v4_2 gt46 (ei _ (ai rfl ?_))) ?_
    ·simp only[simprocAttr,R0, *]
    rintro _ e h ⟨rfl,hq⟩;simp only[simprocAttr,RR,RB];intro ht; subst ht;simp only[simprocAttr,RR,RB];exact ai rfl hq
  |false=>
   rw[if_neg wC]at ho;cases ho;simp only[simprocAttr,R0,b39_2, *];intro ht; subst ht;simp only[simprocAttr,RR,RB];exact ai rfl (qd (by simp only[simprocAttr,R0,qe,p39,Rs.ev,qa, *]))
 ·rintro v4_2 _ e h ⟨k16,rfl,h_15⟩ hge t1 ho
  unfold F39_2_D at ho;cases ho;simp only[simprocAttr,R0,b39_2, *];intro ht; subst ht;refine ai rfl (ei _ (ai rfl ?_));simp only[simprocAttr,R0, *]
theorem s39(a0:qh){r:Bool}(hF:F39 a0=some r):ans A 39 [(eC a0)]=some (Enc.enc r):=by
 refine qu (f:=p39) rfl rfl rfl fun e hl he=>?_;have h0_0:e.at 0=(eC a0):=he 0 _ rfl;have hl_0:e.length=112:=hl;clear he hl;have h_0:=ai hl_0 h0_0;show W A b39 e ⟨[],0⟩ _;unfold F39 at hF;obtain⟨x1,gx1,hF⟩:=bS hF;have w2:=s78 a0.Prime gx1;cases x1 with
 |true=>
  rw[if_pos rfl]at hF;by_cases c3:(a0.Dims.length:Int) < 1
  ·rw[if_pos c3]at hF
   cases hF;simp only[simprocAttr,R0,b39, *];exact qd (by simp only[simprocAttr,R0,qe,p39,Rs.ev,qa, *])
  ·rw[if_neg c3]at hF
   by_cases c4:6 < (a0.Dims.length:Int)
   ·rw[if_pos c4]at hF
    cases hF;simp only[simprocAttr,R0,b39, *];exact qd (by simp only[simprocAttr,R0,qe,p39,Rs.ev,qa, *])
   ·rw[if_neg c4]at hF
    obtain⟨x5,gx5,hF⟩:=bS hF;have wx5:=qx gx5;by_cases c6:(a0.Maps.length:Int)=x5
    ·rw[if_pos c6]at hF
     obtain⟨t14,gt14,hF⟩:=bS hF;rcases t14 with _|r50
     ·dsimp only at hF
      simp only[simprocAttr,R0,b39, *];refine W.mono (l39_1 a0 gt14 (ei _ (ai rfl ?_))) ?_
      ·simp only[simprocAttr,R0, *]
      rintro _ e _ ⟨rfl,k8,rfl,h_9⟩;obtain⟨t48,gt48,hF⟩:=bS hF;rcases t48 with _|r49
      ·dsimp only at hF
       simp only[simprocAttr,R0, *];refine W.mono (l39_2 a0 gt48 (ei _ (ai rfl ?_))) ?_
       ·simp only[simprocAttr,R0, *]
       rintro _ e _ ⟨rfl,k16,rfl,hl_17⟩;cases hF;simp only[simprocAttr,R0, *];exact qd (by simp only[simprocAttr,R0,qe,p39,Rs.ev,qa, *])
      ·dsimp only at hF
       cases hF;simp only[simprocAttr,R0, *];refine W.mono (l39_2 a0 gt48 (ei _ (ai rfl ?_))) ?_
       ·simp only[simprocAttr,R0, *]
       rintro _ e h ⟨rfl,hq⟩;simp only[simprocAttr,RR,RB];exact hq
     ·dsimp only at hF
      cases hF;simp only[simprocAttr,R0,b39, *];refine W.mono (l39_1 a0 gt14 (ei _ (ai rfl ?_))) ?_
      ·simp only[simprocAttr,R0, *]
      rintro _ e h ⟨rfl,hq⟩;simp only[simprocAttr,RR,RB];exact hq
    ·rw[if_neg c6]at hF
     cases hF;simp only[simprocAttr,R0,b39, *];exact qd (by simp only[simprocAttr,R0,qe,p39,Rs.ev,qa, *])
 |false=>
  rw[if_neg wC]at hF;cases hF;simp only[simprocAttr,R0,b39, *];exact qd (by simp only[simprocAttr,R0,qe,p39,Rs.ev,qa, *])
def F99(a0:qh)(a1:Int):Option Int:=
 (chk ((a0.Dims.length:Int) - 1)).bind fun x1=>
 (F54 a1 0 x1).bind fun x2=>
 if x2=true then
  (getI a0.Dims a1).bind fun x4=>
  some x4
 else
  some 0
theorem s99(a0:qh)(a1:Int){r:Int}(hF:F99 a0 a1=some r):ans A 99 [(eC a0),V.int .i64 a1]=some (Enc.enc r):=by
 refine qu (f:=p99) rfl rfl rfl fun e hl he=>?_;have h0_0:e.at 0=(eC a0):=he 0 _ rfl;have h1_0:e.at 1=V.int .i64 a1:=he 1 _ rfl;have hl_0:e.length=17:=hl;clear he hl;have h_0:=ai hl_0 (ai h0_0 h1_0);show W A b99 e ⟨[],0⟩ _;unfold F99 at hF;obtain⟨x1,gx1,hF⟩:=bS hF;have wx1:=qx gx1;obtain⟨x2,gx2,hF⟩:=bS hF;have w3:=s54 a1 0 x1 gx2;cases x2 with
 |true=>
  rw[if_pos rfl]at hF;obtain⟨x4,gx4,hF⟩:=bS hF;obtain⟨w5a,w5b⟩:=ql gx4;cases hF;simp only[simprocAttr,R0,b99, *];exact qd (by simp only[simprocAttr,R0,qe,p99,Rs.ev,qa, *])
 |false=>
  rw[if_neg wC]at hF;cases hF;simp only[simprocAttr,R0,b99, *];exact qd (by simp only[simprocAttr,R0,qe,p99,Rs.ev,qa, *])
def F76_1_S(a0:qh)(a1:Int)(s:(List (List Int))×Int):Option (((List (List Int))×Int)⊕((List (List Int)))):=
 match s with
 |(o1_1,v6_1)=>
  (F99 a0 a1).bind fun x11=>
  if v6_1 < x11 then
   (app 24 o1_1 ([([]:List Int)])).bind fun l15=>
   (chk (v6_1+1)).bind fun x16=>
   some (.inl (l15,x16))
  else
   some (.inr o1_1)
def F76(a0:qh)(a1:Int):Option (List (List Int)):=
 (chk ((a0.Dims.length:Int) - 1)).bind fun x1=>
 (F54 a1 1 x1).bind fun x2=>
 if x2=true then
  (chk (a1 - 1)).bind fun x4=>
  (getI a0.Maps x4).bind fun x5=>
  some x5
 else
  (zD (F76_1_S a0 a1) ([],0)).bind fun zo1_1=>
  some zo1_1
def I76_1(a0:qh)(a1:Int)(s:(List (List Int))×Int)(e:Env)(h:Heap):Prop:=
 match s with
 |(o1_1,v6_1)=>
  ∃u8 k9:Nat,h=⟨[(0,none),(u8,some (o1_1.map Enc.enc))],k9⟩∧e.length=32∧e.at 1=V.int .i64 a1∧e.at 2=V.iptr [V.int .i64 a0.Prime,V.isl (a0.Dims.map Enc.enc),V.isl (a0.Maps.map Enc.enc)]∧e.at 5=V.sl 1 u8 0 o1_1.length 1∧e.at 6=V.int .i64 v6_1
def P76_1(a0:qh)(a1:Int)(zo1_1:(List (List Int)))(x:Ex)(e:Env)(h:Heap):Prop:=
 x= .normal∧∃u8 k9:Nat,h=⟨[(0,none),(u8,some (zo1_1.map Enc.enc))],k9⟩∧e.length=32∧e.at 5=V.sl 1 u8 0 zo1_1.length 1
theorem l76_1(a0:qh)(a1:Int){s:(List (List Int))×Int}{t:(List (List Int))}(hF:zD (F76_1_S a0 a1) s=some t){e:Env}{h:Heap}(hI:I76_1 a0 a1 s e h):W A c76_1 e h (P76_1 a0 a1 t):=by
 show W A (.block 0 (.loop false b76_1)) e h _;rw[qi];refine W_loop hF 2 (by rcases s with⟨_,_⟩; obtain⟨_,_,rfl,_⟩:=hI; rfl) (I76_1 a0 a1) hI ?_
 ·rintro⟨o1_1,v6_1⟩ e h ⟨u8,k9,rfl,h_7⟩ o ho
  unfold F76_1_S at ho;dsimp only at ho;obtain⟨x11,gx11,ho⟩:=bS ho;have w12:=s99 a0 a1 gx11;by_cases c13:v6_1 < x11
  ·rw[if_pos c13]at ho
   obtain⟨l15,gl15,ho⟩:=bS ho;have w14:=fun a b c d e=> qC (α:=List Int) (n:=o1_1.length) (m:=1) (ds:=[V.isl []]) gl15 (by first|rfl|simp) (by first|rfl|simp) rfl a b c d e;have w14l:=qM gl15;obtain⟨x16,gx16,ho⟩:=bS ho;have wx16:=qx gx16;cases ho;simp only[simprocAttr,R0,b76_1, *];refine ai rfl (ei _ (ei _ (ai rfl ?_)));simp only[simprocAttr,R0, *]
  ·rw[if_neg c13]at ho
   cases ho;simp only[simprocAttr,R0,b76_1, *];intro ht; subst ht;simp only[simprocAttr,RR,RB];refine ai rfl (ei _ (ei _ (ai rfl ?_)));simp only[simprocAttr,R0, *]
theorem s76(a0:qh)(a1:Int){r:List (List Int)}(hF:F76 a0 a1=some r):ans A 76 [(eC a0),V.int .i64 a1]=some (Enc.enc r):=by
 refine qu (f:=p76) rfl rfl rfl fun e hl he=>?_;have h0_0:e.at 0=(eC a0):=he 0 _ rfl;have h1_0:e.at 1=V.int .i64 a1:=he 1 _ rfl;have hl_0:e.length=32:=hl;clear he hl;show W A b76 e ⟨[],0⟩ _;unfold F76 at hF;obtain⟨x1,gx1,hF⟩:=bS hF;have wx1:=qx gx1;obtain⟨x2,gx2,hF⟩:=bS hF;have w3:=s54 a1 1 x1 gx2;cases x2 with
 |true=>
  rw[if_pos rfl]at hF;obtain⟨x4,gx4,hF⟩:=bS hF;have wx4:=qx gx4;obtain⟨x5,gx5,hF⟩:=bS hF;obtain⟨w6a,w6b⟩:=ql gx5;have hE:=wA hF; subst hE;simp only[simprocAttr, -Int.reduceNatCast',R0,b76, *];exact qd (by simp only[simprocAttr, -Int.reduceNatCast',R0,qe,p76,Rs.ev,qa, *])
 |false=>
  rw[if_neg wC]at hF;obtain⟨zo1_1,gt17,hF⟩:=bS hF;simp only[simprocAttr, -Int.reduceNatCast',R0,b76, *];refine W.mono (l76_1 a0 a1 gt17 (ei _ (ei _ (ai rfl ?_)))) ?_
  ·simp only[simprocAttr, -Int.reduceNatCast',R0, *]
  rintro _ e _ ⟨rfl,u8,k9,rfl,hl_10,h5_10⟩;have hE:=wA hF; subst hE;simp only[simprocAttr, -Int.reduceNatCast',R0, *];exact qd (by simp only[simprocAttr, -Int.reduceNatCast',R0,qe,p76,Rs.ev,qa,frzs (α:=List Int) zo1_1,qO (α:=List Int) zo1_1, *])
def F77(a0:qc)(a1:Int)(a2:Int):Option Int:=
 (getI a0.Levels a1).bind fun x1=>
 (getI x1 a2).bind fun x3=>
 some x3
theorem s77(a0:qc)(a1:Int)(a2:Int){r:Int}(hF:F77 a0 a1 a2=some r):ans A 77 [(eF a0),V.int .i64 a1,V.int .i64 a2]=some (Enc.enc r):=by
 refine qu (f:=p77) rfl rfl rfl fun e hl he=>?_;have h0_0:e.at 0=(eF a0):=he 0 _ rfl;have h1_0:e.at 1=V.int .i64 a1:=he 1 _ rfl;have h2_0:e.at 2=V.int .i64 a2:=he 2 _ rfl;have hl_0:e.length=15:=hl;clear he hl;show W A b77 e ⟨[],0⟩ _;unfold F77 at hF;obtain⟨x1,gx1,hF⟩:=bS hF;obtain⟨w2a,w2b⟩:=ql gx1;obtain⟨x3,gx3,hF⟩:=bS hF;obtain⟨w4a,w4b⟩:=ql gx3;cases hF;simp only[simprocAttr,R0,b77, *];exact qd (by simp only[simprocAttr,R0,qe,p77,Rs.ev,qa, *])
def F38_2_S(a0:qc)(v3_1:Int)(v4_2:Int):Option ((Int)⊕((Unit)⊕Bool)):=
 (getI a0.Levels v3_1).bind fun x15=>
if v4_2 < (x15.length:Int)then
 (getI x15 v4_2).bind fun x18=>
 (F54 x18 0 5).bind fun x20=>
 if x20=true then
  (chk (v4_2+1)).bind fun x22=>
  some (.inl x22)
 else
  some (.inr (.inr false))
else
 some (.inr (.inl ()))
def F38_1_B(a0:qc)(v3_1:Int)(s:Unit):Option ((Unit)⊕((Unit)⊕Bool)):=
 (getI a0.Levels v3_1).bind fun x7=>
(getI a0.Complex.Dims v3_1).bind fun x9=>
if(x7.length:Int)=x9 then
 (zD (F38_2_S a0 v3_1) 0).bind fun t23=> match t23 with
  | .inl _=>
   some (.inl ())
  | .inr r24=> some (.inr (.inr r24))
else
 some (.inr (.inr false))
def F38_1_D(a0:qc)(v3_1:Int)(s:Unit):Option ((Unit)⊕Bool):=
 some (.inl ())
def F38_5_S(a0:qc)(v5_3:Int)(x29:List (List Int))(v7_4:Int)(v8_5:Int):Option ((Int)⊕((Unit)⊕Bool)):=
 (getI x29 v7_4).bind fun x37=>
if v8_5 < (x37.length:Int)then
 (getI x37 v8_5).bind fun x40=>
 if x40=0 then
  (chk (v8_5+1)).bind fun x43=>
  some (.inl x43)
 else
  (chk (v5_3 - 1)).bind fun x44=>
  (F77 a0 x44 v8_5).bind fun x45=>
  (F77 a0 v5_3 v7_4).bind fun x47=>
  if x47 < x45 then
   some (.inr (.inr false))
  else
   (chk (v8_5+1)).bind fun x50=>
   some (.inl x50)
else
 some (.inr (.inl ()))
def F38_4_B(a0:qc)(v5_3:Int)(x29:List (List Int))(v7_4:Int)(s:Unit):Option ((Unit)⊕((Unit)⊕Bool)):=
 (zD (F38_5_S a0 v5_3 x29 v7_4) 0).bind fun t51=> match t51 with
 | .inl _=>
  some (.inl ())
 | .inr r52=> some (.inr (.inr r52))
def F38_4_D(a0:qc)(v5_3:Int)(x29:List (List Int))(v7_4:Int)(s:Unit):Option ((Unit)⊕Bool):=
 some (.inl ())
def F38_3_B(a0:qc)(v5_3:Int)(s:Unit):Option ((Unit)⊕((Unit)⊕Bool)):=
 (F76 a0.Complex v5_3).bind fun x29=>
(forR 0 (x29.length:Int) (F38_4_B a0 v5_3 x29) (F38_4_D a0 v5_3 x29) ()).bind fun t53=> match t53 with
 | .inl _=>
  some (.inl ())
 | .inr r54=> some (.inr (.inr r54))
def F38_3_D(a0:qc)(v5_3:Int)(s:Unit):Option ((Unit)⊕Bool):=
 some (.inl ())
def F38(a0:qc):Option Bool:=
 (F39 a0.Complex).bind fun x1=>
 if x1=true then
  if(a0.Levels.length:Int)=(a0.Complex.Dims.length:Int)then
   (forR 0 (a0.Levels.length:Int) (F38_1_B a0) (F38_1_D a0) ()).bind fun t25=> match t25 with
    | .inl _=>
     (forR 1 (a0.Levels.length:Int) (F38_3_B a0) (F38_3_D a0) ()).bind fun t55=> match t55 with
      | .inl _=>
       some true
      | .inr r56=> some r56
    | .inr r57=> some r57
  else
   some false
 else
  some false
def I38_2(a0:qc)(v3_1:Int)(v4_2:Int)(e:Env)(h:Heap):Prop:=
 ∃k13:Nat,h=⟨[(0,none)],k13⟩∧e.length=109∧e.at 1=V.iptr [V.int .i64 a0.Complex.Prime,V.isl (a0.Complex.Dims.map Enc.enc),V.isl (a0.Complex.Maps.map Enc.enc),V.isl (a0.Levels.map Enc.enc)]∧e.at 3=V.int .i64 v3_1∧e.at 4=V.int .i64 v4_2
def P38_2(a0:qc)(v3_1:Int)(t:(Unit)⊕Bool)(x:Ex)(e:Env)(h:Heap):Prop:=
 match t with
 | .inl _=> x= .normal∧∃k13:Nat,h=⟨[(0,none)],k13⟩∧e.length=109∧e.at 1=V.iptr [V.int .i64 a0.Complex.Prime,V.isl (a0.Complex.Dims.map Enc.enc),V.isl (a0.Complex.Maps.map Enc.enc),V.isl (a0.Levels.map Enc.enc)]∧e.at 3=V.int .i64 v3_1
 | .inr r=> x= .ret∧Fin p38 (Enc.enc r) .ret e h
theorem l38_2(a0:qc)(v3_1:Int){s:Int}{t:(Unit)⊕Bool}(hF:zD (F38_2_S a0 v3_1) s=some t){e:Env}{h:Heap}(hI:I38_2 a0 v3_1 s e h):W A c38_2 e h (P38_2 a0 v3_1 t):=by
 show W A (.block 2 (.loop false b38_2)) e h _;rw[qi];refine W_loop hF 1 (by obtain⟨_,rfl,_⟩:=hI; rfl) (I38_2 a0 v3_1) hI ?_
 ·rintro v4_2 e h ⟨k13,rfl,h_12⟩ o ho
  unfold F38_2_S at ho;obtain⟨x15,gx15,ho⟩:=bS ho;obtain⟨w16a,w16b⟩:=ql gx15;by_cases c17:v4_2 < (x15.length:Int)
  ·rw[if_pos c17]at ho
   obtain⟨x18,gx18,ho⟩:=bS ho;obtain⟨w19a,w19b⟩:=ql gx18;obtain⟨x20,gx20,ho⟩:=bS ho;have w21:=s54 x18 0 5 gx20;cases x20 with
   |true=>
    rw[if_pos rfl]at ho;obtain⟨x22,gx22,ho⟩:=bS ho;have wx22:=qx gx22;cases ho;simp only[simprocAttr,R0,b38_2, *];refine ai rfl (ei _ (ai rfl ?_));simp only[simprocAttr,R0, *]
   |false=>
    rw[if_neg wC]at ho;cases ho;simp only[simprocAttr,R0,b38_2, *];intro ht; subst ht;simp only[simprocAttr,RR,RB];exact ai rfl (qd (by simp only[simprocAttr,R0,qe,p38,Rs.ev,qa, *]))
  ·rw[if_neg c17]at ho
   cases ho;simp only[simprocAttr,R0,b38_2, *];intro ht; subst ht;simp only[simprocAttr,RR,RB];refine ai rfl (ei _ (ai rfl ?_));simp only[simprocAttr,R0, *]
def I38_1(a0:qc)(v3_1:Int)(s:Unit)(e:Env)(h:Heap):Prop:=
 ∃k5:Nat,h=⟨[(0,none)],k5⟩∧e.length=109∧e.at 1=V.iptr [V.int .i64 a0.Complex.Prime,V.isl (a0.Complex.Dims.map Enc.enc),V.isl (a0.Complex.Maps.map Enc.enc),V.isl (a0.Levels.map Enc.enc)]∧e.at 3=V.int .i64 v3_1
def P38_1(a0:qc)(t:(Unit)⊕Bool)(x:Ex)(e:Env)(h:Heap):Prop:=
 match t with
 | .inl _=> x= .normal∧∃k5:Nat,h=⟨[(0,none)],k5⟩∧e.length=109∧e.at 1=V.iptr [V.int .i64 a0.Complex.Prime,V.isl (a0.Complex.Dims.map Enc.enc),V.isl (a0.Complex.Maps.map Enc.enc),V.isl (a0.Levels.map Enc.enc)]
 | .inr r=> x= .ret∧Fin p38 (Enc.enc r) .ret e h
theorem l38_1(a0:qc){lo:Int}{s:Unit}{t:(Unit)⊕Bool}(hF:forR lo (a0.Levels.length:Int) (F38_1_B a0) (F38_1_D a0) s=some t){e:Env}{h:Heap}(hI:I38_1 a0 lo s e h):W A c38_1 e h (P38_1 a0 t):=by
 show W A (.block 0 (.loop false b38_1)) e h _;rw[qi];refine qr hF 1 (by obtain⟨_,rfl,_⟩:=hI; rfl) (I38_1 a0) hI ?_ ?_
 ·rintro v3_1 _ e h ⟨k5,rfl,h_4⟩ hlt hw o ho
  unfold F38_1_B at ho;obtain⟨x7,gx7,ho⟩:=bS ho;obtain⟨w8a,w8b⟩:=ql gx7;obtain⟨x9,gx9,ho⟩:=bS ho;obtain⟨w10a,w10b⟩:=ql gx9;by_cases c11:(x7.length:Int)=x9
  ·rw[if_pos c11]at ho
   obtain⟨t23,gt23,ho⟩:=bS ho;rcases t23 with _|r24
   ·dsimp only at ho
    simp only[simprocAttr,R0,b38_1, *];refine W.mono (l38_2 a0 v3_1 gt23 (ei _ (ai rfl ?_))) ?_
    ·simp only[simprocAttr,R0, *]
    rintro _ e _ ⟨rfl,k13,rfl,h_14⟩;cases ho;simp only[simprocAttr,R0, *];refine ai rfl (ei _ (ai rfl ?_));simp only[simprocAttr,R0, *]
   ·dsimp only at ho
    cases ho;simp only[simprocAttr,R0,b38_1, *];refine W.mono (l38_2 a0 v3_1 gt23 (ei _ (ai rfl ?_))) ?_
    ·simp only[simprocAttr,R0, *]
    rintro _ e h ⟨rfl,hq⟩;simp only[simprocAttr,RR,RB];intro ht; subst ht;simp only[simprocAttr,RR,RB];exact ai rfl hq
  ·rw[if_neg c11]at ho
   cases ho;simp only[simprocAttr,R0,b38_1, *];intro ht; subst ht;simp only[simprocAttr,RR,RB];exact ai rfl (qd (by simp only[simprocAttr,R0,qe,p38,Rs.ev,qa, *]))
 ·rintro v3_1 _ e h ⟨k5,rfl,h_4⟩ hge t1 ho
  unfold F38_1_D at ho;cases ho;simp only[simprocAttr,R0,b38_1, *];intro ht; subst ht;refine ai rfl (ei _ (ai rfl ?_));simp only[simprocAttr,R0, *]
def I38_5(a0:qc)(v5_3:Int)(x29:List (List Int))(v7_4:Int)(v8_5:Int)(e:Env)(h:Heap):Prop:=
 ∃k35:Nat,h=⟨[(0,none)],k35⟩∧e.length=109∧e.at 1=V.iptr [V.int .i64 a0.Complex.Prime,V.isl (a0.Complex.Dims.map Enc.enc),V.isl (a0.Complex.Maps.map Enc.enc),V.isl (a0.Levels.map Enc.enc)]∧e.at 5=V.int .i64 v5_3∧e.at 6=V.isl (x29.map Enc.enc)∧e.at 7=V.int .i64 v7_4∧e.at 8=V.int .i64 v8_5
def P38_5(a0:qc)(v5_3:Int)(x29:List (List Int))(v7_4:Int)(t:(Unit)⊕Bool)(x:Ex)(e:Env)(h:Heap):Prop:=
 match t with
 | .inl _=> x= .normal∧∃k35:Nat,h=⟨[(0,none)],k35⟩∧e.length=109∧e.at 1=V.iptr [V.int .i64 a0.Complex.Prime,V.isl (a0.Complex.Dims.map Enc.enc),V.isl (a0.Complex.Maps.map Enc.enc),V.isl (a0.Levels.map Enc.enc)]∧e.at 5=V.int .i64 v5_3∧e.at 6=V.isl (x29.map Enc.enc)∧e.at 7=V.int .i64 v7_4
 | .inr r=> x= .ret∧Fin p38 (Enc.enc r) .ret e h
theorem l38_5(a0:qc)(v5_3:Int)(x29:List (List Int))(v7_4:Int){s:Int}{t:(Unit)⊕Bool}(hF:zD (F38_5_S a0 v5_3 x29 v7_4) s=some t){e:Env}{h:Heap}(hI:I38_5 a0 v5_3 x29 v7_4 s e h):W A c38_5 e h (P38_5 a0 v5_3 x29 v7_4 t):=by
 show W A (.block 8 (.loop false b38_5)) e h _;rw[qi];refine W_loop hF 1 (by obtain⟨_,rfl,_⟩:=hI; rfl) (I38_5 a0 v5_3 x29 v7_4) hI ?_
 ·rintro v8_5 e h ⟨k35,rfl,h_34⟩ o ho
  unfold F38_5_S at ho;obtain⟨x37,gx37,ho⟩:=bS ho;obtain⟨w38a,w38b⟩:=ql gx37;by_cases c39:v8_5 < (x37.length:Int)
  ·rw[if_pos c39]at ho
   obtain⟨x40,gx40,ho⟩:=bS ho;obtain⟨w41a,w41b⟩:=ql gx40;by_cases c42:x40=0
   ·rw[if_pos c42]at ho
    obtain⟨x43,gx43,ho⟩:=bS ho;have wx43:=qx gx43;cases ho;simp only[simprocAttr,R0,b38_5, *];refine ai rfl (ei _ (ai rfl ?_));simp only[simprocAttr,R0, *]
   ·rw[if_neg c42]at ho
    obtain⟨x44,gx44,ho⟩:=bS ho;have wx44:=qx gx44;obtain⟨x45,gx45,ho⟩:=bS ho;have w46:=s77 a0 x44 v8_5 gx45;obtain⟨x47,gx47,ho⟩:=bS ho;have w48:=s77 a0 v5_3 v7_4 gx47;by_cases c49:x47 < x45
    ·rw[if_pos c49]at ho
     cases ho;simp only[simprocAttr,R0,b38_5, *];intro ht; subst ht;simp only[simprocAttr,RR,RB];exact ai rfl (qd (by simp only[simprocAttr,R0,qe,p38,Rs.ev,qa, *]))
    ·rw[if_neg c49]at ho
     obtain⟨x50,gx50,ho⟩:=bS ho;have wx50:=qx gx50;cases ho;simp only[simprocAttr,R0,b38_5, *];refine ai rfl (ei _ (ai rfl ?_));simp only[simprocAttr,R0, *]
  ·rw[if_neg c39]at ho
   cases ho;simp only[simprocAttr,R0,b38_5, *];intro ht; subst ht;simp only[simprocAttr,RR,RB];refine ai rfl (ei _ (ai rfl ?_));simp only[simprocAttr,R0, *]
def I38_4(a0:qc)(v5_3:Int)(x29:List (List Int))(v7_4:Int)(s:Unit)(e:Env)(h:Heap):Prop:=
 ∃k32:Nat,h=⟨[(0,none)],k32⟩∧e.length=109∧e.at 1=V.iptr [V.int .i64 a0.Complex.Prime,V.isl (a0.Complex.Dims.map Enc.enc),V.isl (a0.Complex.Maps.map Enc.enc),V.isl (a0.Levels.map Enc.enc)]∧e.at 5=V.int .i64 v5_3∧e.at 6=V.isl (x29.map Enc.enc)∧e.at 7=V.int .i64 v7_4
def P38_4(a0:qc)(v5_3:Int)(x29:List (List Int))(t:(Unit)⊕Bool)(x:Ex)(e:Env)(h:Heap):Prop:=
 match t with
 | .inl _=> x= .normal∧∃k32:Nat,h=⟨[(0,none)],k32⟩∧e.length=109∧e.at 1=V.iptr [V.int .i64 a0.Complex.Prime,V.isl (a0.Complex.Dims.map Enc.enc),V.isl (a0.Complex.Maps.map Enc.enc),V.isl (a0.Levels.map Enc.enc)]∧e.at 5=V.int .i64 v5_3
 | .inr r=> x= .ret∧Fin p38 (Enc.enc r) .ret e h
theorem l38_4(a0:qc)(v5_3:Int)(x29:List (List Int)){lo:Int}{s:Unit}{t:(Unit)⊕Bool}(hF:forR lo (x29.length:Int) (F38_4_B a0 v5_3 x29) (F38_4_D a0 v5_3 x29) s=some t){e:Env}{h:Heap}(hI:I38_4 a0 v5_3 x29 lo s e h):W A c38_4 e h (P38_4 a0 v5_3 x29 t):=by
 show W A (.block 6 (.loop false b38_4)) e h _;rw[qi];refine qr hF 1 (by obtain⟨_,rfl,_⟩:=hI; rfl) (I38_4 a0 v5_3 x29) hI ?_ ?_
 ·rintro v7_4 _ e h ⟨k32,rfl,h_31⟩ hlt hw o ho
  unfold F38_4_B at ho;obtain⟨t51,gt51,ho⟩:=bS ho;rcases t51 with _|r52
  ·dsimp only at ho
   simp only[simprocAttr,R0,b38_4, *];refine W.mono (l38_5 a0 v5_3 x29 v7_4 gt51 (ei _ (ai rfl ?_))) ?_
   ·simp only[simprocAttr,R0, *]
   rintro _ e _ ⟨rfl,k35,rfl,h_36⟩;cases ho;simp only[simprocAttr,R0, *];refine ai rfl (ei _ (ai rfl ?_));simp only[simprocAttr,R0, *]
  ·dsimp only at ho
   cases ho;simp only[simprocAttr,R0,b38_4, *];refine W.mono (l38_5 a0 v5_3 x29 v7_4 gt51 (ei _ (ai rfl ?_))) ?_
   ·simp only[simprocAttr,R0, *]
   rintro _ e h ⟨rfl,hq⟩;simp only[simprocAttr,RR,RB];intro ht; subst ht;simp only[simprocAttr,RR,RB];exact ai rfl hq
 ·rintro v7_4 _ e h ⟨k32,rfl,h_31⟩ hge t1 ho
  unfold F38_4_D at ho;cases ho;simp only[simprocAttr,R0,b38_4, *];intro ht; subst ht;refine ai rfl (ei _ (ai rfl ?_));simp only[simprocAttr,R0, *]
def I38_3(a0:qc)(v5_3:Int)(s:Unit)(e:Env)(h:Heap):Prop:=
 ∃k27:Nat,h=⟨[(0,none)],k27⟩∧e.length=109∧e.at 1=V.iptr [V.int .i64 a0.Complex.Prime,V.isl (a0.Complex.Dims.map Enc.enc),V.isl (a0.Complex.Maps.map Enc.enc),V.isl (a0.Levels.map Enc.enc)]∧e.at 5=V.int .i64 v5_3
def P38_3(a0:qc)(t:(Unit)⊕Bool)(x:Ex)(e:Env)(h:Heap):Prop:=
 match t with
 | .inl _=> x= .normal∧∃k27:Nat,h=⟨[(0,none)],k27⟩∧e.length=109
 | .inr r=> x= .ret∧Fin p38 (Enc.enc r) .ret e h
theorem l38_3(a0:qc){lo:Int}{s:Unit}{t:(Unit)⊕Bool}(hF:forR lo (a0.Levels.length:Int) (F38_3_B a0) (F38_3_D a0) s=some t){e:Env}{h:Heap}(hI:I38_3 a0 lo s e h):W A c38_3 e h (P38_3 a0 t):=by
 show W A (.block 4 (.loop false b38_3)) e h _;rw[qi];refine qr hF 1 (by obtain⟨_,rfl,_⟩:=hI; rfl) (I38_3 a0) hI ?_ ?_
 ·rintro v5_3 _ e h ⟨k27,rfl,h_26⟩ hlt hw o ho
  unfold F38_3_B at ho;obtain⟨x29,gx29,ho⟩:=bS ho;have w30:=s76 a0.Complex v5_3 gx29;obtain⟨t53,gt53,ho⟩:=bS ho;rcases t53 with _|r54
  ·dsimp only at ho
   simp only[simprocAttr,R0,b38_3, *];refine W.mono (l38_4 a0 v5_3 x29 gt53 (ei _ (ai rfl ?_))) ?_
   ·simp only[simprocAttr,R0, *]
   rintro _ e _ ⟨rfl,k32,rfl,h_33⟩;cases ho;simp only[simprocAttr,R0, *];refine ai rfl (ei _ (ai rfl ?_));simp only[simprocAttr,R0, *]
  ·dsimp only at ho
   cases ho;simp only[simprocAttr,R0,b38_3, *];refine W.mono (l38_4 a0 v5_3 x29 gt53 (ei _ (ai rfl ?_))) ?_
   ·simp only[simprocAttr,R0, *]
   rintro _ e h ⟨rfl,hq⟩;simp only[simprocAttr,RR,RB];intro ht; subst ht;simp only[simprocAttr,RR,RB];exact ai rfl hq
 ·rintro v5_3 _ e h ⟨k27,rfl,h_26⟩ hge t1 ho
  unfold F38_3_D at ho;cases ho;simp only[simprocAttr,R0,b38_3, *];intro ht; subst ht;refine ai rfl (ei _ (ai rfl ?_));simp only[simprocAttr,R0, *]
theorem s38(a0:qc){r:Bool}(hF:F38 a0=some r):ans A 38 [(eF a0)]=some (Enc.enc r):=by
 refine qu (f:=p38) rfl rfl rfl fun e hl he=>?_;have h0_0:e.at 0=(eF a0):=he 0 _ rfl;have hl_0:e.length=109:=hl;clear he hl;have h_0:=ai hl_0 h0_0;show W A b38 e ⟨[],0⟩ _;unfold F38 at hF;obtain⟨x1,gx1,hF⟩:=bS hF;have w2:=s39 a0.Complex gx1;cases x1 with
 |true=>
  rw[if_pos rfl]at hF;by_cases c3:(a0.Levels.length:Int)=(a0.Complex.Dims.length:Int)
  ·rw[if_pos c3]at hF
   obtain⟨t25,gt25,hF⟩:=bS hF;rcases t25 with _|r57
   ·dsimp only at hF
    simp only[simprocAttr,R0,b38, *];refine W.mono (l38_1 a0 gt25 (ei _ (ai rfl ?_))) ?_
    ·simp only[simprocAttr,R0, *]
    rintro _ e _ ⟨rfl,k5,rfl,h_6⟩;obtain⟨t55,gt55,hF⟩:=bS hF;rcases t55 with _|r56
    ·dsimp only at hF
     simp only[simprocAttr,R0, *];refine W.mono (l38_3 a0 gt55 (ei _ (ai rfl ?_))) ?_
     ·simp only[simprocAttr,R0, *]
     rintro _ e _ ⟨rfl,k27,rfl,hl_28⟩;cases hF;simp only[simprocAttr,R0, *];exact qd (by simp only[simprocAttr,R0,qe,p38,Rs.ev,qa, *])
    ·dsimp only at hF
     cases hF;simp only[simprocAttr,R0, *];refine W.mono (l38_3 a0 gt55 (ei _ (ai rfl ?_))) ?_
     ·simp only[simprocAttr,R0, *]
     rintro _ e h ⟨rfl,hq⟩;simp only[simprocAttr,RR,RB];exact hq
   ·dsimp only at hF
    cases hF;simp only[simprocAttr,R0,b38, *];refine W.mono (l38_1 a0 gt25 (ei _ (ai rfl ?_))) ?_
    ·simp only[simprocAttr,R0, *]
    rintro _ e h ⟨rfl,hq⟩;simp only[simprocAttr,RR,RB];exact hq
  ·rw[if_neg c3]at hF
   cases hF;simp only[simprocAttr,R0,b38, *];exact qd (by simp only[simprocAttr,R0,qe,p38,Rs.ev,qa, *])
 |false=>
  rw[if_neg wC]at hF;cases hF;simp only[simprocAttr,R0,b38, *];exact qd (by simp only[simprocAttr,R0,qe,p38,Rs.ev,qa, *])
def F247(a0:qc)(a1:Int)(a2:Int)(a3:Int):Option Int:=
 (F38 a0).bind fun x1=>
 if x1=true then
  (F54 a1 0 8).bind fun x3=>
  if x3=true then
   (chk ((a0.Levels.length:Int) - 1)).bind fun x5=>
   (F54 a2 0 x5).bind fun x6=>
   if x6=true then
    (F54 a3 0 5).bind fun x8=>
    if x8=true then
     some 0
    else
     some 2
   else
    some 2
  else
   some 2
 else
  some 1
theorem s247(a0:qc)(a1:Int)(a2:Int)(a3:Int){r:Int}(hF:F247 a0 a1 a2 a3=some r):ans A 247 [(eF a0),V.int .i64 a1,V.int .i64 a2,V.int .i64 a3]=some (Enc.enc r):=by
 refine qu (f:=p247) rfl rfl rfl fun e hl he=>?_;have h0_0:e.at 0=(eF a0):=he 0 _ rfl;have h1_0:e.at 1=V.int .i64 a1:=he 1 _ rfl;have h2_0:e.at 2=V.int .i64 a2:=he 2 _ rfl;have h3_0:e.at 3=V.int .i64 a3:=he 3 _ rfl;have hl_0:e.length=31:=hl;clear he hl;have h_0:=ai hl_0 (ai h0_0 (ai h1_0 (ai h2_0 h3_0)));show W A b247 e ⟨[],0⟩ _;unfold F247 at hF;obtain⟨x1,gx1,hF⟩:=bS hF;have w2:=s38 a0 gx1;cases x1 with
 |true=>
  rw[if_pos rfl]at hF;obtain⟨x3,gx3,hF⟩:=bS hF;have w4:=s54 a1 0 8 gx3;cases x3 with
  |true=>
   rw[if_pos rfl]at hF;obtain⟨x5,gx5,hF⟩:=bS hF;have wx5:=qx gx5;obtain⟨x6,gx6,hF⟩:=bS hF;have w7:=s54 a2 0 x5 gx6;cases x6 with
   |true=>
    rw[if_pos rfl]at hF;obtain⟨x8,gx8,hF⟩:=bS hF;have w9:=s54 a3 0 5 gx8;cases x8 with
    |true=>
     rw[if_pos rfl]at hF;cases hF;simp only[simprocAttr,R0,b247, *];exact qd (by simp only[simprocAttr,R0,qe,p247,Rs.ev,qa, *])
    |false=>
     rw[if_neg wC]at hF;cases hF;simp only[simprocAttr,R0,b247, *];exact qd (by simp only[simprocAttr,R0,qe,p247,Rs.ev,qa, *])
   |false=>
    rw[if_neg wC]at hF;cases hF;simp only[simprocAttr,R0,b247, *];exact qd (by simp only[simprocAttr,R0,qe,p247,Rs.ev,qa, *])
  |false=>
   rw[if_neg wC]at hF;cases hF;simp only[simprocAttr,R0,b247, *];exact qd (by simp only[simprocAttr,R0,qe,p247,Rs.ev,qa, *])
 |false=>
  rw[if_neg wC]at hF;cases hF;simp only[simprocAttr,R0,b247, *];exact qd (by simp only[simprocAttr,R0,qe,p247,Rs.ev,qa, *])
def F290_1_B(a2:List Int)(x1:List Int)(v9_1:Int)(o2_1:(List Int)):Option (((List Int))⊕((List Int))):=
 (getI x1 v9_1).bind fun x8=>
(getI a2 v9_1).bind fun x10=>
(ixI 8 x8).bind fun n12=>
(some (arW 8 o2_1 n12 (Go.IntKind.wrap .u8 x10))).bind fun l14=>
some (.inl l14)
def F290_1_D(a2:List Int)(x1:List Int)(v9_1:Int)(o2_1:(List Int)):Option ((List Int)):=
 some o2_1
def F290(a0:GDga)(a1:Int)(a2:List Int):Option (Ar .u8 8):=
 (F106 a0 a1).bind fun x1=>
 (forR 0 (x1.length:Int) (F290_1_B a2 x1) (F290_1_D a2 x1) ([]:(List Int))).bind fun zo2_1=>
 some ⟨zo2_1⟩
def I290_1(a2:List Int)(x1:List Int)(v9_1:Int)(o2_1:(List Int))(e:Env)(h:Heap):Prop:=
 ∃k6:Nat,h=⟨[(0,none),(1,some (arc .u8 8 [])),(2,some (arc .u8 8 o2_1))],k6⟩∧e.length=31∧e.at 2=V.isl (a2.map Enc.enc)∧e.at 6=V.ptr 1 1 0∧e.at 7=V.isl (x1.map Enc.enc)∧e.at 8=V.ptr 2 2 0∧e.at 9=V.int .i64 v9_1
def P290_1(a2:List Int)(x1:List Int)(zo2_1:(List Int))(x:Ex)(e:Env)(h:Heap):Prop:=
 x= .normal∧∃k6:Nat,h=⟨[(0,none),(1,some (arc .u8 8 [])),(2,some (arc .u8 8 zo2_1))],k6⟩∧e.length=31∧e.at 6=V.ptr 1 1 0∧e.at 8=V.ptr 2 2 0
theorem l290_1(a2:List Int)(x1:List Int){lo:Int}{s:(List Int)}{t:(List Int)}(hF:forR lo (x1.length:Int) (F290_1_B a2 x1) (F290_1_D a2 x1) s=some t){e:Env}{h:Heap}(hI:I290_1 a2 x1 lo s e h):W A c290_1 e h (P290_1 a2 x1 t):=by
 show W A (.block 0 (.loop false b290_1)) e h _;rw[qi];refine qr hF 3 (by obtain⟨_,rfl,_⟩:=hI; rfl) (I290_1 a2 x1) hI ?_ ?_
 ·rintro v9_1 o2_1 e h ⟨k6,rfl,h_5⟩ hlt hw o ho
  unfold F290_1_B at ho;obtain⟨x8,gx8,ho⟩:=bS ho;obtain⟨w9a,w9b⟩:=ql gx8;obtain⟨x10,gx10,ho⟩:=bS ho;obtain⟨w11a,w11b⟩:=ql gx10;obtain⟨n12,gn12,ho⟩:=bS ho;obtain⟨w13a,w13b,w13c,w13d⟩:=qU gn12;obtain⟨l14,gl14,ho⟩:=bS ho;have w15:List.take n12 (arc .u8 8 o2_1)++[V.int .u8 (Go.IntKind.wrap .u8 x10)]++List.drop (n12+1) (arc .u8 8 o2_1)=arc .u8 8 l14:=by rw[←wA gl14]; exact arc_set (by omega)
  have w15l:n12+1≤8:=by omega
  cases ho;simp only[simprocAttr, -Int.reduceNatCast',R0,b290_1, *];refine ai rfl (ei _ (ai rfl ?_));simp only[simprocAttr, -Int.reduceNatCast',R0, *]
 ·rintro v9_1 o2_1 e h ⟨k6,rfl,h_5⟩ hge t1 ho
  unfold F290_1_D at ho;cases ho;simp only[simprocAttr, -Int.reduceNatCast',R0,b290_1, *];intro ht; subst ht;refine ai rfl (ei _ (ai rfl ?_));simp only[simprocAttr, -Int.reduceNatCast',R0, *]
theorem s290(a0:GDga)(a1:Int)(a2:List Int){r:Ar .u8 8}(hF:F290 a0 a1 a2=some r):ans A 290 [V.agg (qb a0),V.int .i64 a1,V.isl (a2.map Enc.enc)]=some (Enc.enc r):=by
 refine qu (f:=p290) rfl rfl rfl fun e hl he=>?_;have h0_0:e.at 0=V.agg (qb a0):=he 0 _ rfl;have h1_0:e.at 1=V.int .i64 a1:=he 1 _ rfl;have h2_0:e.at 2=V.isl (a2.map Enc.enc):=he 2 _ rfl;have hl_0:e.length=31:=hl;clear he hl;show W A b290 e ⟨[],0⟩ _;unfold F290 at hF;obtain⟨x1,gx1,hF⟩:=bS hF;have w2:=s106 a0 a1 gx1;have w4:List.drop 8 (arc .u8 8 [])=[]:=wI (by rw[qj]; exact wG _);obtain⟨zo2_1,gt16,hF⟩:=bS hF;simp only[simprocAttr,R0,b290,wB, *];refine W.mono (l290_1 a2 x1 gt16 (ei _ (ai rfl ?_))) ?_
 ·simp only[simprocAttr,R0,wB, *]
 rintro _ e _ ⟨rfl,k6,rfl,h_7⟩;have w19:List.drop 8 (arc .u8 8 [])=[]:=wI (by rw[qj]; exact wG _);cases hF;simp only[simprocAttr,R0,wB, *];exact qd (by simp only[simprocAttr,R0,qe,p290,Rs.ev,qa,wB, *])
def F252(a0:GDga)(a1:Int)(a2:List Int)(a3:Int)(a4:List Int):Option (List Int):=
 (chk (a1+a3)).bind fun x1=>
 (F290 a0 a1 a2).bind fun x2=>
 (F290 a0 a3 a4).bind fun x4=>
 (F199 a0 x2 x4).bind fun x6=>
 (F107 a0 x1 x6).bind fun x8=>
 some x8
theorem s252(a0:GDga)(a1:Int)(a2:List Int)(a3:Int)(a4:List Int){r:List Int}(hF:F252 a0 a1 a2 a3 a4=some r):ans A 252 [V.agg (qb a0),V.int .i64 a1,V.isl (a2.map Enc.enc),V.int .i64 a3,V.isl (a4.map Enc.enc)]=some (Enc.enc r):=by
 refine qu (f:=p252) rfl rfl rfl fun e hl he=>?_;have h0_0:e.at 0=V.agg (qb a0):=he 0 _ rfl;have h1_0:e.at 1=V.int .i64 a1:=he 1 _ rfl;have h2_0:e.at 2=V.isl (a2.map Enc.enc):=he 2 _ rfl;have h3_0:e.at 3=V.int .i64 a3:=he 3 _ rfl;have h4_0:e.at 4=V.isl (a4.map Enc.enc):=he 4 _ rfl;have hl_0:e.length=26:=hl;clear he hl;show W A b252 e ⟨[],0⟩ _;unfold F252 at hF;obtain⟨x1,gx1,hF⟩:=bS hF;have wx1:=qx gx1;obtain⟨x2,gx2,hF⟩:=bS hF;have w3:=s290 a0 a1 a2 gx2;obtain⟨x4,gx4,hF⟩:=bS hF;have w5:=s290 a0 a3 a4 gx4;obtain⟨x6,gx6,hF⟩:=bS hF;have w7:=s199 a0 x2 x4 gx6;obtain⟨x8,gx8,hF⟩:=bS hF;have w9:=s107 a0 x1 x6 gx8;cases hF;simp only[simprocAttr,R0,b252, *];exact qd (by simp only[simprocAttr,R0,qe,p252,Rs.ev,qa, *])
def F94(a0:List Int):Option (List Int):=
 (app 8 ([]:List Int) a0).bind fun l2=>
 some l2
theorem s94(a0:List Int){r:List Int}(hF:F94 a0=some r):ans A 94 [V.isl (a0.map Enc.enc)]=some (Enc.enc r):=by
 refine qu (f:=p94) rfl rfl rfl fun e hl he=>?_;have h0_0:e.at 0=V.isl (a0.map Enc.enc):=he 0 _ rfl;have hl_0:e.length=6:=hl;clear he hl;show W A b94 e ⟨[],0⟩ _;unfold F94 at hF;obtain⟨l2,gl2,hF⟩:=bS hF;have w1:=fun ents key uid clk he=> qC (α:=Int) (n:=0) (m:=a0.length) (ds:=List.map Enc.enc a0) gl2 (by first|rfl|simp only[wU]) (by first|rfl|simp only[wU]) rfl ents key uid clk he;have w1l:=qM gl2;have hE:=wA hF; subst hE;simp only[simprocAttr, -Int.reduceNatCast',R0,b94,hl_0,h0_0,w1];exact qd (by simp only[simprocAttr, -Int.reduceNatCast',R0,qe,p94,Rs.ev,qa,hl_0,h0_0,w1,frzs (α:=Int) l2,qO (α:=Int) l2])
theorem t94(a0:List Int){r:List Int}(hF:F94 a0=some r):tans A 94 [1] [V.isl (a0.map Enc.enc)]=some (Enc.enc r):=by
 refine tans_of (f:=p94) rfl rfl rfl fun e hl he=>?_;have h0_0:e.at 0=V.isl (a0.map Enc.enc):=he 0 _ rfl;have hl_0:e.length=6:=hl;clear he hl;show W A b94 e ⟨[],0⟩ _;unfold F94 at hF;obtain⟨l2,gl2,hF⟩:=bS hF;have w1:=fun ents key uid clk he=> qC (α:=Int) (n:=0) (m:=a0.length) (ds:=List.map Enc.enc a0) gl2 (by first|rfl|simp only[wU]) (by first|rfl|simp only[wU]) rfl ents key uid clk he;have w1l:=qM gl2;have hE:=wA hF; subst hE;simp only[simprocAttr, -Int.reduceNatCast',R0,b94,hl_0,h0_0,w1];exact jd (by simp only[simprocAttr, -Int.reduceNatCast',R0,qe,p94,Rs.ev,qa,hl_0,h0_0,w1,frzs (α:=Int) l2,qO (α:=Int) l2])
def F136_1_B(a0:Int)(a1:List Int)(a2:List Int)(a3:Int)(v10_1:Int)(o0_1:(List Int)):Option (((List Int))⊕((List Int))):=
 (getI a1 v10_1).bind fun x5=>
(getI a2 v10_1).bind fun x7=>
(chk (a3*x7)).bind fun x9=>
(chk (x5 - x9)).bind fun x10=>
(F127 a0 x10).bind fun x11=>
(app 8 o0_1 [x11]).bind fun l14=>
some (.inl l14)
def F136_1_D(a0:Int)(a1:List Int)(a2:List Int)(a3:Int)(v10_1:Int)(o0_1:(List Int)):Option ((List Int)):=
 some o0_1
def F136(a0:Int)(a1:List Int)(a2:List Int)(a3:Int):Option (List Int):=
 (forR 0 (a1.length:Int) (F136_1_B a0 a1 a2 a3) (F136_1_D a0 a1 a2 a3) ([]:(List Int))).bind fun zo0_1=>
 some zo0_1
def I136_1(a0:Int)(a1:List Int)(a2:List Int)(a3:Int)(v10_1:Int)(o0_1:(List Int))(e:Env)(h:Heap):Prop:=
 ∃u2 k3:Nat,h=⟨[(u2,some (o0_1.map Enc.enc))],k3⟩∧e.length=35∧e.at 0=V.int .i64 a0∧e.at 1=V.isl (a1.map Enc.enc)∧e.at 2=V.isl (a2.map Enc.enc)∧e.at 3=V.int .i64 a3∧e.at 9=V.sl 0 u2 0 o0_1.length 1∧e.at 10=V.int .i64 v10_1
def P136_1(a0:Int)(a1:List Int)(a2:List Int)(a3:Int)(zo0_1:(List Int))(x:Ex)(e:Env)(h:Heap):Prop:=
 x= .normal∧∃u2 k3:Nat,h=⟨[(u2,some (zo0_1.map Enc.enc))],k3⟩∧e.length=35∧e.at 9=V.sl 0 u2 0 zo0_1.length 1
theorem l136_1(a0:Int)(a1:List Int)(a2:List Int)(a3:Int){lo:Int}{s:(List Int)}{t:(List Int)}(hF:forR lo (a1.length:Int) (F136_1_B a0 a1 a2 a3) (F136_1_D a0 a1 a2 a3) s=some t){e:Env}{h:Heap}(hI:I136_1 a0 a1 a2 a3 lo s e h):W A c136_1 e h (P136_1 a0 a1 a2 a3 t):=by
 show W A (.block 0 (.loop false b136_1)) e h _;rw[qi];refine qr hF 1 (by obtain⟨_,_,rfl,_⟩:=hI; rfl) (I136_1 a0 a1 a2 a3) hI ?_ ?_
 ·rintro v10_1 o0_1 e h ⟨u2,k3,rfl,h_1⟩ hlt hw o ho
  unfold F136_1_B at ho;obtain⟨x5,gx5,ho⟩:=bS ho;obtain⟨w6a,w6b⟩:=ql gx5;obtain⟨x7,gx7,ho⟩:=bS ho;obtain⟨w8a,w8b⟩:=ql gx7;obtain⟨x9,gx9,ho⟩:=bS ho;have wx9:=qx gx9;obtain⟨x10,gx10,ho⟩:=bS ho;have wx10:=qx gx10;obtain⟨x11,gx11,ho⟩:=bS ho;have w12:=s127 a0 x10 gx11;obtain⟨l14,gl14,ho⟩:=bS ho;have w13:=fun a b c d e=> qC (α:=Int) (n:=o0_1.length) (m:=1) (ds:=[V.int .i64 x11]) gl14 (by first|rfl|simp) (by first|rfl|simp) rfl a b c d e;have w13l:=qM gl14;cases ho;simp only[simprocAttr,R0,b136_1, *];refine ai rfl (ei _ (ei _ (ai rfl ?_)));simp only[simprocAttr,R0, *]
 ·rintro v10_1 o0_1 e h ⟨u2,k3,rfl,h_1⟩ hge t1 ho
  unfold F136_1_D at ho;cases ho;simp only[simprocAttr,R0,b136_1, *];intro ht; subst ht;refine ai rfl (ei _ (ei _ (ai rfl ?_)));simp only[simprocAttr,R0, *]
theorem t136(a0:Int)(a1:List Int)(a2:List Int)(a3:Int){r:List Int}(hF:F136 a0 a1 a2 a3=some r):tans A 136 [1] [V.int .i64 a0,V.isl (a1.map Enc.enc),V.isl (a2.map Enc.enc),V.int .i64 a3]=some (Enc.enc r):=by
 refine tans_of (f:=p136) rfl rfl rfl fun e hl he=>?_;have h0_0:e.at 0=V.int .i64 a0:=he 0 _ rfl;have h1_0:e.at 1=V.isl (a1.map Enc.enc):=he 1 _ rfl;have h2_0:e.at 2=V.isl (a2.map Enc.enc):=he 2 _ rfl;have h3_0:e.at 3=V.int .i64 a3:=he 3 _ rfl;have hl_0:e.length=35:=hl;clear he hl;show W A b136 e ⟨[],0⟩ _;unfold F136 at hF;obtain⟨zo0_1,gt15,hF⟩:=bS hF;simp only[simprocAttr, -Int.reduceNatCast',R0,b136, *];refine W.mono (l136_1 a0 a1 a2 a3 gt15 (ei _ (ei _ (ai rfl ?_)))) ?_
 ·simp only[simprocAttr, -Int.reduceNatCast',R0, *]
 rintro _ e _ ⟨rfl,u2,k3,rfl,hl_4,h9_4⟩;have hE:=wA hF; subst hE;simp only[simprocAttr, -Int.reduceNatCast',R0, *];exact jd (by simp only[simprocAttr, -Int.reduceNatCast',R0,qe,p136,Rs.ev,qa,frzs (α:=Int) zo0_1,qO (α:=Int) zo0_1, *])
def F134_1_B(a0:Int)(a1:List (List Int))(v8_1:Int)(v7_1:(List Int)):Option (((List Int))⊕((List Int))):=
 (getI a1 v8_1).bind fun x6=>
(F81 x6).bind fun x8=>
(getI v7_1 x8).bind fun x10=>
(F136 a0 v7_1 x6 x10).bind fun x12=>
some (.inl x12)
def F134_1_D(a0:Int)(a1:List (List Int))(v8_1:Int)(v7_1:(List Int)):Option ((List Int)):=
 some v7_1
def F134(a0:Int)(a1:List (List Int))(a2:List Int):Option (List Int):=
 (F94 a2).bind fun x1=>
 (forR 0 (a1.length:Int) (F134_1_B a0 a1) (F134_1_D a0 a1) x1).bind fun zv7_1=>
 some zv7_1
theorem d134(a0:Int)(a1:List (List Int))(a2:List Int){r:List Int}(hF:F134 a0 a1 a2=some r):∃v h',res A 134 [V.int .i64 a0,V.isl (a1.map Enc.enc),V.isl (a2.map Enc.enc)] Heap.empty=some (v,h')∧∃K,Deep.rep h' v r K:=by
 refine res_dp (f:=p134) rfl rfl rfl fun e hl he=>?_;have h0_0:e.at 0=V.int .i64 a0:=he 0 _ rfl;have h1_0:e.at 1=V.isl (a1.map Enc.enc):=he 1 _ rfl;have h2_0:e.at 2=V.isl (a2.map Enc.enc):=he 2 _ rfl;have hl_0:e.length=33:=hl;clear he hl;show W A b134 e ⟨[],0⟩ _;unfold F134 at hF;obtain⟨o,go,hF⟩:=bS hF;have wo:tans A 94 [1] [V.isl (a2.map Enc.enc)]=some (V.isl (o.map Enc.enc)):=t94 a2 go;obtain⟨t,gt,hF⟩:=bS hF;cases hF;simp only[simprocAttr,R1,b134,ze,zt, *];show W A (.block 0 (.loop true b134_1)) _ _ _;rw[qi];refine qr gt _ rfl (fun i q e h=>∃k u,h.ents[k]? =some (u,some (q.map Enc.enc))∧e.length=33∧e.at 0=V.int .i64 a0∧e.at 1=V.isl (a1.map Enc.enc)∧e.at 7=V.sl k u 0 q.length 1∧e.at 8=V.int .i64 i) ?_ ?_ ?_
 ·refine⟨0,0,rfl,?_⟩
  simp only[simprocAttr,R1, *]
 ·clear hl_0 h0_0 h1_0 h2_0
  rintro i q e ⟨E,c⟩ ⟨k,u,g1,h_1⟩ hlt hw s' ho;unfold F134_1_B at ho;simp only at g1;obtain⟨x6,gx6,ho⟩:=bS ho;obtain⟨x6a,x6b⟩:=ql gx6;obtain⟨x8,gx8,ho⟩:=bS ho;have w8:=s81 x6 gx8;obtain⟨x10,gx10,ho⟩:=bS ho;obtain⟨x10a,x10b⟩:=ql gx10;have x10c:=qV gx10;obtain⟨x12,gx12,ho⟩:=bS ho;have w12:tans A 136 [1] [V.int .i64 a0,V.isl (q.map Enc.enc),V.isl (x6.map Enc.enc),V.int .i64 x10]=some (V.isl (x12.map Enc.enc)):=t136 a0 q x6 x10 gx12;cases ho;have wfz:frz ⟨E,c⟩ 16 (V.sl k u 0 q.length 1)=some (V.isl (q.map Enc.enc)):=frz_row g1;have wbr:=bare_one (α:=Int) x12;have o10:qf none (List.drop x8.toNat (q.map Enc.enc))=some (V.int .i64 x10):=qE (by rw[List.getElem?_map,x10b]; rfl);simp only[simprocAttr,R1,b134_1,x6a,x6b,x10a,eq_true x10c,o10,ze,zt, *];refine ai rfl ⟨_,_,qR _ _,?_⟩;simp only[simprocAttr,R1, *]
 ·clear hl_0 h0_0 h1_0 h2_0
  rintro i q e ⟨E,c⟩ ⟨k,u,g1,h_1⟩ hge t1 ho;unfold F134_1_D at ho;cases ho;simp only at g1;simp only[simprocAttr,R1,b134_1, *];intro ht; subst ht;refine ai (fun _=> trivial) ⟨_,?_,fun x=> x=k,xl (l:=q) g1 fun x=> yP⟩;simp only[simprocAttr,R1,qe,p134,Rs.ev, *]
theorem t134(a0:Int)(a1:List (List Int))(a2:List Int){r:List Int}(hF:F134 a0 a1 a2=some r):tans A 134 [1] [V.int .i64 a0,V.isl (a1.map Enc.enc),V.isl (a2.map Enc.enc)]=some (Enc.enc r):=tans_of_deep (α:=List Int) (by decide) (d134 a0 a1 a2 hF)
def F135_1_B(a0:Int)(a1:Int)(v5_1:Int)(s:Unit):Option ((Unit)⊕((Unit)⊕Int)):=
 (F127 a0 a1).bind fun x4=>
(chk (v5_1*x4)).bind fun x6=>
(remI x6 a0).bind fun x7=>
if x7=1 then
 some (.inr (.inr v5_1))
else
 some (.inl ())
def F135_1_D(a0:Int)(a1:Int)(v5_1:Int)(s:Unit):Option ((Unit)⊕Int):=
 some (.inl ())
def F135(a0:Int)(a1:Int):Option Int:=
 (forR 1 a0 (F135_1_B a0 a1) (F135_1_D a0 a1) ()).bind fun t10=> match t10 with
  | .inl _=>
   some 0
  | .inr r11=> some r11
def I135_1(a0:Int)(a1:Int)(v5_1:Int)(s:Unit)(e:Env)(h:Heap):Prop:=
 ∃k2:Nat,h=⟨[],k2⟩∧e.length=20∧e.at 0=V.int .i64 a0∧e.at 1=V.int .i64 a1∧e.at 5=V.int .i64 v5_1
def P135_1(a0:Int)(a1:Int)(t:(Unit)⊕Int)(x:Ex)(e:Env)(h:Heap):Prop:=
 match t with
 | .inl _=> x= .normal∧∃k2:Nat,h=⟨[],k2⟩∧e.length=20
 | .inr r=> x= .ret∧Fin p135 (Enc.enc r) .ret e h
theorem l135_1(a0:Int)(a1:Int){lo:Int}{s:Unit}{t:(Unit)⊕Int}(hF:forR lo a0 (F135_1_B a0 a1) (F135_1_D a0 a1) s=some t){e:Env}{h:Heap}(hI:I135_1 a0 a1 lo s e h):W A c135_1 e h (P135_1 a0 a1 t):=by
 show W A (.block 0 (.loop false b135_1)) e h _;rw[qi];refine qr hF 0 (by obtain⟨_,rfl,_⟩:=hI; rfl) (I135_1 a0 a1) hI ?_ ?_
 ·rintro v5_1 _ e h ⟨k2,rfl,h_1⟩ hlt hw o ho
  unfold F135_1_B at ho;obtain⟨x4,gx4,ho⟩:=bS ho;have w5:=s127 a0 a1 gx4;obtain⟨x6,gx6,ho⟩:=bS ho;have wx6:=qx gx6;obtain⟨x7,gx7,ho⟩:=bS ho;obtain⟨w8a,w8b⟩:=rem_w gx7;by_cases c9:x7=1
  ·rw[if_pos c9]at ho
   cases ho;simp only[simprocAttr,R0,b135_1, *];intro ht; subst ht;simp only[simprocAttr,RR,RB];exact ai rfl (qd (by simp only[simprocAttr,R0,qe,p135,Rs.ev,qa, *]))
  ·rw[if_neg c9]at ho
   cases ho;simp only[simprocAttr,R0,b135_1, *];refine ai rfl (ei _ (ai rfl ?_));simp only[simprocAttr,R0, *]
 ·rintro v5_1 _ e h ⟨k2,rfl,h_1⟩ hge t1 ho
  unfold F135_1_D at ho;cases ho;simp only[simprocAttr,R0,b135_1, *];intro ht; subst ht;refine ai rfl (ei _ (ai rfl ?_));simp only[simprocAttr,R0, *]
theorem s135(a0:Int)(a1:Int){r:Int}(hF:F135 a0 a1=some r):ans A 135 [V.int .i64 a0,V.int .i64 a1]=some (Enc.enc r):=by
 refine qu (f:=p135) rfl rfl rfl fun e hl he=>?_;have h0_0:e.at 0=V.int .i64 a0:=he 0 _ rfl;have h1_0:e.at 1=V.int .i64 a1:=he 1 _ rfl;have hl_0:e.length=20:=hl;clear he hl;have h_0:=ai hl_0 (ai h0_0 h1_0);show W A b135 e ⟨[],0⟩ _;unfold F135 at hF;obtain⟨t10,gt10,hF⟩:=bS hF;rcases t10 with _|r11
 ·dsimp only at hF
  simp only[simprocAttr,R0,b135, *];refine W.mono (l135_1 a0 a1 gt10 (ei _ (ai rfl ?_))) ?_
  ·simp only[simprocAttr,R0, *]
  rintro _ e _ ⟨rfl,k2,rfl,hl_3⟩;cases hF;simp only[simprocAttr,R0, *];exact qd (by simp only[simprocAttr,R0,qe,p135,Rs.ev,qa, *])
 ·dsimp only at hF
  cases hF;simp only[simprocAttr,R0,b135, *];refine W.mono (l135_1 a0 a1 gt10 (ei _ (ai rfl ?_))) ?_
  ·simp only[simprocAttr,R0, *]
  rintro _ e h ⟨rfl,hq⟩;simp only[simprocAttr,RR,RB];exact hq
def F131_2_B(p b:Int)(k:Int)(row:List Int):Option (List Int⊕List Int):=(getI row k).bind fun x=>(chk (x*b)).bind fun m=>(remI m p).bind fun z=>(setI row k z).bind fun r=> some (.inl r)
def F131_2_D(k:Int)(row:List Int):Option (List Int):=some row
def F131_3_C(out:List (List Int))(at_:Int)(k:Int)(put:Bool):Option Bool:=if put=true then some false else(getI out k).bind fun o=>(F81 o).bind fun ld=> some (decide (at_ < ld))
def F131_3_B(p:Int)(out:List (List Int))(own:List Int)(at_:Int)(k:Int)(s:List (List Int)×Bool):Option ((List (List Int)×Bool)⊕(List (List Int)×Bool)):=
 (F131_3_C out at_ k s.2).bind fun c=>(if c=true then(app 24 s.1 [own]).bind fun n=> some (n,true)else some s).bind fun s2=>
 (getI out k).bind fun o=>(getI o at_).bind fun y=>(F136 p o own y).bind fun q=>(app 24 s2.1 [q]).bind fun n=> some (.inl (n,s2.2))
def F131_3_D(k:Int)(s:List (List Int)×Bool):Option (List (List Int)×Bool):=some s
def F131_1_B(p:Int)(rows:List (List Int))(i:Int)(out:List (List Int)):Option (List (List Int)⊕List (List Int)):=
 (getI rows i).bind fun row=>(F134 p out row).bind fun own=>(F81 own).bind fun at_=> if at_ < 0 then some (.inl out)else
 (getI own at_).bind fun x=>(F135 p x).bind fun inv=>(forR 0 (own.length:Int) (F131_2_B p inv) F131_2_D own).bind fun own'=>
 (forR 0 (out.length:Int) (F131_3_B p out own' at_) F131_3_D ([],false)).bind fun s=> if s.2=true then some (.inl s.1)else(app 24 s.1 [own']).bind fun n=> some (.inl n)
def F131_1_D(i:Int)(out:List (List Int)):Option (List (List Int)):=some out
def F131(p:Int)(rows:List (List Int)):Option (List (List Int)):=forR 0 (rows.length:Int) (F131_1_B p rows) F131_1_D []
set_option maxHeartbeats 8000000 in
theorem d131(p:Int)(rows:List (List Int)){r:List (List Int)}(hF:F131 p rows=some r):∃v h',res A 131 [V.int .i64 p,V.isl (rows.map Enc.enc)] Heap.empty=some (v,h')∧
  ∃k u vs,v=V.sl k u 0 r.length 1∧h'.ents[k]? =some (u,some vs)∧Rws h'.ents (fun _=> True) vs r:=by
 refine res_dp (f:=p131) rfl rfl rfl fun e hl he=>?_;have h0_0:e.at 0=V.int .i64 p:=he 0 _ rfl;have h1_0:e.at 1=V.isl (rows.map Enc.enc):=he 1 _ rfl;have hl_0:e.length=102:=hl;clear he hl;show W A b131 e ⟨[],0⟩ _;unfold F131 at hF;simp only[simprocAttr, -Int.reduceNatCast',R1,b131,hl_0,h0_0,h1_0];show W A (.block 0 (.loop true b131_1)) _ _ _;rw[qi];refine qr hF _ rfl (fun i out e h=>∃ko uo vs,h.ents[ko]? =some (uo,some vs)∧Rws h.ents (fun _=> True) vs out∧e.length=102∧e.at 0=V.int .i64 p∧e.at 1=V.isl (rows.map Enc.enc)∧e.at 5=V.sl ko uo 0 out.length 1∧e.at 6=V.int .i64 i) ?_ ?_ ?_
 ·refine⟨0,0,[],rfl,.nil,?_⟩
  simp only[simprocAttr, -Int.reduceNatCast',R1,hl_0,h0_0,h1_0]
 ·clear hl_0 h0_0 h1_0
  rintro i out e ⟨E,c⟩ ⟨ko,uo,vs,g1,g2,hl_1,h0_1,h1_1,h5_1,h6_1⟩ hlt hw s' ho;unfold F131_1_B at ho;simp only at g1 g2;have hko:ko < E.length:=(List.getElem?_eq_some_iff.1 g1).1;obtain⟨row,gr,ho⟩:=bS ho;obtain⟨ra,rb⟩:=ql gr;obtain⟨own,gown,ho⟩:=bS ho;have wown:tans A 134 [1] [V.int .i64 p,V.isl (out.map Enc.enc),V.isl (row.map Enc.enc)]=some (V.isl (own.map Enc.enc)):=t134 p out row gown;obtain⟨at_,gat,ho⟩:=bS ho;have wat:ans A 81 [V.isl (own.map Enc.enc)]=some (V.int .i64 at_):=s81 own gat;have wfo:=g2.fz c g1;have wbr:=bare_one (α:=Int) own;have wfr:∀z:List Int,∀c',frz ⟨E++[(c,some (z.map Enc.enc))],c'⟩ 16 (V.sl E.length c 0 z.length 1)=some (V.isl (z.map Enc.enc)):=fun z c'=> frz_row (qR _ _);have wfr0:=wfr own;by_cases hat:at_ < 0
  ·rw[if_pos hat]at ho
   have hE:=wA ho; subst hE;simp only[simprocAttr, -Int.reduceNatCast',R1,b131_1,hl_1,h0_1,h1_1,h5_1,h6_1,eq_true hlt,hw,ra,rb,wfo,wown,wbr,ze,zt,wfr0,wat,eq_true hat];refine ai rfl ⟨ko,uo,vs,(List.getElem?_append_left hko).trans g1,g2.frame fun k hk _=>⟨List.getElem?_append_left hk,trivial⟩,?_⟩;simp only[simprocAttr, -Int.reduceNatCast',R1,hl_1,h0_1,h1_1,h5_1,h6_1,hw]
  ·rw[if_neg hat]at ho
   obtain⟨x,gx,ho⟩:=bS ho;obtain⟨xa,xb⟩:=ql gx;have xc:=qV gx;obtain⟨inv,ginv,ho⟩:=bS ho;have winv:ans A 135 [V.int .i64 p,V.int .i64 x]=some (V.int .i64 inv):=s135 p x ginv;obtain⟨own',gown',ho⟩:=bS ho;obtain⟨s,gs,ho⟩:=bS ho;have ox:qf none (List.drop at_.toNat (own.map Enc.enc))=some (V.int .i64 x):=qE (by rw[List.getElem?_map,xb]; rfl);simp only[simprocAttr, -Int.reduceNatCast',R1,b131_1,hl_1,h0_1,h1_1,h5_1,h6_1,eq_true hlt,hw,ra,rb,wfo,wown,wbr,ze,zt,wfr0,wat,eq_false hat,xa,eq_true xc,qR,ox,winv];show W A (.block 2 (.loop true b131_2)) _ _ _;rw[qi];refine qr gown' _ rfl (fun k q e h=> q.length=own.length∧h=⟨E++[(c,some (q.map Enc.enc))],c+1⟩∧e.length=102∧e.at 0=V.int .i64 p∧e.at 1=V.isl (rows.map Enc.enc)∧e.at 5=V.sl ko uo 0 out.length 1∧e.at 6=V.int .i64 i∧e.at 7=V.sl E.length c 0 own.length 1∧e.at 8=V.int .i64 at_∧e.at 9=V.int .i64 inv∧e.at 10=V.int .i64 k) ?_ ?_ ?_
   ·refine⟨rfl,rfl,?_⟩
    simp only[simprocAttr, -Int.reduceNatCast',R1,hl_1,h0_1,h1_1,h5_1,h6_1]
   ·clear hl_1 h0_1 h1_1 h5_1 h6_1
    rintro k q e h ⟨hq,rfl,hl_1,h0_1,h1_1,h5_1,h6_1,h7_1,h8_1,h9_1,h10_1⟩ hlt2 hw2 s2 ho2;unfold F131_2_B at ho2;obtain⟨x3,gx3,ho2⟩:=bS ho2;obtain⟨x3a,x3b⟩:=ql gx3;obtain⟨m3,gm3,ho2⟩:=bS ho2;have wm3:=qx gm3;obtain⟨z3,gz3,ho2⟩:=bS ho2;obtain⟨wz30,wz3⟩:=rem_w gz3;obtain⟨q2,gq2,ho2⟩:=bS ho2;obtain⟨s31,s32,s33,s34,s35⟩:=xr gq2;have hE:=wA ho2; subst hE;have o3:qf none (List.drop k.toNat (q.map Enc.enc))=some (V.int .i64 x3):=qE (by rw[List.getElem?_map,x3b]; rfl);have hk3:k < (own.length:Int):=hlt2;have s35':List.take k.toNat (q.map Enc.enc)++[V.int .i64 z3]++List.drop (k.toNat+1) (q.map Enc.enc)=List.map Enc.enc q2:=s35;simp only[simprocAttr, -Int.reduceNatCast',R1,b131_2,hl_1,h0_1,h1_1,h5_1,h6_1,h7_1,h8_1,h9_1,h10_1,hw2,eq_true hlt2,qR,set_last,x3a,o3,wm3,wz30,wz3,s33,s35'];refine ai rfl ⟨by omega,rfl,?_⟩;simp only[simprocAttr, -Int.reduceNatCast',R1,hl_1,h0_1,h1_1,h5_1,h6_1,h7_1,h8_1,h9_1,h10_1,hw2]
   ·clear hl_1 h0_1 h1_1 h5_1 h6_1
    rintro k q e h ⟨hq,rfl,hl_1,h0_1,h1_1,h5_1,h6_1,h7_1,h8_1,h9_1,h10_1⟩ hge2 t2 ho2;unfold F131_2_D at ho2;have hE:=wA ho2; subst hE;simp only[simprocAttr, -Int.reduceNatCast',R1,b131_2,hl_1,h0_1,h1_1,h5_1,h6_1,h7_1,h8_1,h9_1,h10_1,eq_false hge2,le1];intro ht; subst ht;show W A (.block 4 (.loop true b131_3)) _ _ _;rw[qi];refine qr gs _ rfl (fun k s e h=>∃un vn,h.ents[E.length+1]? =some (un,some vn)∧Rws h.ents (fun k=> k≠E.length+1) vn s.1∧h.ents[E.length]? =some (c,some (q.map Enc.enc))∧(∀k,k < E.length→h.ents[k]? =E[k]?)∧e.length=102∧e.at 0=V.int .i64 p∧e.at 1=V.isl (rows.map Enc.enc)∧e.at 5=V.sl ko uo 0 out.length 1∧e.at 6=V.int .i64 i∧e.at 7=V.sl E.length c 0 q.length 1∧e.at 8=V.int .i64 at_∧e.at 11=V.sl (E.length+1) un 0 s.1.length 1∧e.at 12=V.bool s.2∧e.at 13=V.int .i64 k) ?_ ?_ ?_
    ·refine⟨c+1,[],ge2b ..,.nil,ge2a ..,fun k hk=> by rw[wY]; exact List.getElem?_append_left hk,?_⟩
     simp only[simprocAttr, -Int.reduceNatCast',R1,hl_1,h0_1,h1_1,h5_1,h6_1,h7_1,h8_1,h9_1,h10_1,hq]
    ·clear hl_1 h0_1 h1_1 h5_1 h6_1 h7_1 h8_1 h9_1 h10_1
     rintro k ⟨nx,put⟩ e ⟨E3,c3⟩ ⟨un,vn,f1,f2,f3,f4,hl_1,h0_1,h1_1,h5_1,h6_1,h7_1,h8_1,h11_1,h12_1,h13_1⟩ hlt3 hw3 s3 ho3;unfold F131_3_B at ho3;simp only at f1 f2 f3 f4 h11_1 h12_1 ho3;obtain⟨cnd,gcnd,ho3⟩:=bS ho3;obtain⟨st,gst,ho3⟩:=bS ho3;obtain⟨o,go,ho3⟩:=bS ho3;obtain⟨oa,ob⟩:=ql go;have oc:=qV go;obtain⟨y,gy,ho3⟩:=bS ho3;obtain⟨ya,yb⟩:=ql gy;have yc:=qV gy;obtain⟨qq,gqq,ho3⟩:=bS ho3;have wqq:tans A 136 [1] [V.int .i64 p,V.isl (o.map Enc.enc),V.isl (q.map Enc.enc),V.int .i64 y]=some (V.isl (qq.map Enc.enc)):=t136 p o q y gqq;have wbq:=bare_one (α:=Int) qq;obtain⟨nn,gnn,ho3⟩:=bS ho3;have hE:=wA ho3; subst hE;have hN1:E.length+1 < E3.length:=(List.getElem?_eq_some_iff.1 f1).1;have k1:E3[ko]? =some (uo,some vs):=(f4 ko hko).trans g1;obtain⟨v,v1,v2⟩:=g2.get ob;have ov:=qE v1;have oy:qf none (List.drop at_.toNat (o.map Enc.enc))=some (V.int .i64 y):=qE (by rw[List.getElem?_map,yb]; rfl);have v3:RRep E3 (fun k=> k < E.length) v o:=v2.frame fun k hk _=>⟨f4 k hk,hk⟩
     -- in any memory that keeps the rows
     have step:∀ (E4:List (Nat×Option (List V))) (c4 un4:Nat) (vn4:List V),E4[E.length+1]? =some (un4,some vn4)→Rws E4 (fun k=> k≠E.length+1) vn4 st.1→E4[E.length]? =some (c,some (q.map Enc.enc))→(∀k,k < E.length→E4[k]? =E[k]?)→
       E4[ko]? =some (uo,some vs)∧frz ⟨E4,c4⟩ 16 v=some (V.isl (o.map Enc.enc))∧frz ⟨E4,c4⟩ 16 (V.sl E.length c 0 q.length 1)=some (V.isl (q.map Enc.enc))∧
       zO 1 24 (.sl (E.length+1) un4 0 st.1.length 1) 1 [V.sl E4.length c4 0 qq.length 1] ⟨E4++[(c4,some (qq.map Enc.enc))]++[(c4+1,some [V.sl E4.length c4 0 qq.length 1])],c4+1+1⟩=some (.sl (E.length+1) (c4+1+1) 0 (st.1.length+1) 1,⟨(E4++[(c4,some (qq.map Enc.enc))]++[(c4+1,some [V.sl E4.length c4 0 qq.length 1])]).set (E.length+1) (c4+1+1,some (vn4++[V.sl E4.length c4 0 qq.length 1])),c4+1+1+1⟩)∧
       RRep E4 (fun k=> k < E.length) v o∧
       (((E4++[(c4,some (qq.map Enc.enc))]++[(c4+1,some [V.sl E4.length c4 0 qq.length 1])]).set (E.length+1) (c4+1+1,some (vn4++[V.sl E4.length c4 0 qq.length 1])))[E.length+1]? =some (c4+1+1,some (vn4++[V.sl E4.length c4 0 qq.length 1]))∧
       Rws ((E4++[(c4,some (qq.map Enc.enc))]++[(c4+1,some [V.sl E4.length c4 0 qq.length 1])]).set (E.length+1) (c4+1+1,some (vn4++[V.sl E4.length c4 0 qq.length 1]))) (fun k=> k≠E.length+1) (vn4++[V.sl E4.length c4 0 qq.length 1]) nn∧
       ((E4++[(c4,some (qq.map Enc.enc))]++[(c4+1,some [V.sl E4.length c4 0 qq.length 1])]).set (E.length+1) (c4+1+1,some (vn4++[V.sl E4.length c4 0 qq.length 1])))[E.length]? =some (c,some (q.map Enc.enc))∧
       (∀k,k < E.length→((E4++[(c4,some (qq.map Enc.enc))]++[(c4+1,some [V.sl E4.length c4 0 qq.length 1])]).set (E.length+1) (c4+1+1,some (vn4++[V.sl E4.length c4 0 qq.length 1])))[k]? =E[k]?)∧nn.length=st.1.length+1):=by
      intro E4 c4 un4 vn4 a1 a2 a3 a4;have hN4:E.length+1 < E4.length:=(List.getElem?_eq_some_iff.1 a1).1;obtain⟨p1,p2,rfl⟩:=app_w gnn;have pre:∀x y (k:Nat),k < E4.length→(E4++[x]++[y])[k]? =E4[k]?:=fun x y k hk=> by rw[wY]; exact List.getElem?_append_left hk
      refine⟨(a4 ko hko).trans g1,(v2.frame (B':=fun _=> True) fun k hk _=>⟨a4 k hk,trivial⟩).fz c4 10,frz_row a3,zz (E:=E4++[(c4,some (qq.map Enc.enc))]++[(c4+1,some [V.sl E4.length c4 0 qq.length 1])]) ((pre _ _ _ hN4).trans a1) a2.len (by simpa using p1) (by simpa using p2),v2.frame fun k hk _=>⟨a4 k hk,hk⟩,qI (by simp; omega),?_,?_,fun k hk=>?_,by simp⟩
      ·exact(a2.frame fun k hk hne=>⟨(qS hne).trans (pre _ _ k hk),hne⟩).snoc ⟨_,_,rfl,(qS (by omega)).trans (ge2a ..),by omega⟩
      ·exact(qS (by omega)).trans ((pre _ _ _ (by omega)).trans a3)
      ·exact(qS (by omega)).trans ((pre _ _ k (by omega)).trans (a4 k hk))
     have hoc:k < (out.length:Int):=oc;cases put with
     |true=>
      unfold F131_3_C at gcnd;rw[if_pos rfl]at gcnd;cases gcnd;rw[if_neg wC]at gst;cases gst;obtain⟨b1,b2,b3,b4,b5,b6,b7,b8,b9,b10⟩:=step E3 c3 un vn f1 f2 f3 f4;simp only at b4 b10;obtain⟨kv,uv,rfl,w2,w3⟩:=b5;simp only[simprocAttr, -Int.reduceNatCast',R1,b131_3,hl_1,h0_1,h1_1,h5_1,h6_1,h7_1,h8_1,h11_1,h12_1,h13_1,hw3,eq_true hlt3,oa,k1,ov,ya,eq_true yc,oy,w2,b2,b3,wqq,wbq,ze,zt,le1,qR,ge2a,ge2b,b4];refine ai rfl ⟨_,_,b6,b7,b8,b9,?_⟩;simp only[simprocAttr, -Int.reduceNatCast',R1,hl_1,h0_1,h1_1,h5_1,h6_1,h7_1,h8_1,h11_1,h12_1,h13_1,hw3,b10]
     |false=>
      unfold F131_3_C at gcnd;rw[if_neg wC,go,Option.bind_some]at gcnd;obtain⟨ld,gld,gcnd⟩:=bS gcnd;have wld:ans A 81 [V.isl (o.map Enc.enc)]=some (V.int .i64 ld):=s81 o gld;have hE:=wA gcnd; subst hE;have wfv:=(v2.frame (E':=E3) (B':=fun _=> True) fun k hk _=>⟨f4 k hk,trivial⟩).fz c3 10;by_cases hld:at_ < ld
      ·rw[if_pos (by simpa using hld)]at gst
       obtain⟨n1,gn1,gst⟩:=bS gst;obtain⟨p1,p2,rfl⟩:=app_w gn1;have hE:=wA gst; subst hE;have wap:zO 1 24 (.sl (E.length+1) un 0 nx.length 1) 1 [V.sl E.length c 0 q.length 1] ⟨E3++[(c3,some [V.sl E.length c 0 q.length 1])],c3+1⟩=_:=zz (E:=E3++[(c3,some [V.sl E.length c 0 q.length 1])]) (by rw[List.getElem?_append_left hN1]; exact f1) f2.len (by simpa using p1) (by simpa using p2);have r1:Rws ((E3++[(c3,some [V.sl E.length c 0 q.length 1])]).set (E.length+1) (c3+1,some (vn++[V.sl E.length c 0 q.length 1]))) (fun k=> k≠E.length+1) (vn++[V.sl E.length c 0 q.length 1]) (nx++[q]):=
        (f2.frame fun k hk hne=>⟨(qS hne).trans (List.getElem?_append_left hk),hne⟩).snoc ⟨_,_,rfl,(qS (by omega)).trans ((List.getElem?_append_left (by omega)).trans f3),by omega⟩
       have hln:(nx++[q]).length=nx.length+1:=by simp
       obtain⟨b1,b2,b3,b4,b5,b6,b7,b8,b9,b10⟩:=step ((E3++[(c3,some [V.sl E.length c 0 q.length 1])]).set (E.length+1) (c3+1,some (vn++[V.sl E.length c 0 q.length 1]))) (c3+1+1) (c3+1) (vn++[V.sl E.length c 0 q.length 1]) (qI (by simp; omega)) r1 ((qS (by omega)).trans ((List.getElem?_append_left (by omega)).trans f3)) (fun k hk=>(qS (by omega)).trans ((List.getElem?_append_left (by omega)).trans (f4 k hk)));have hlb:((E3++[(c3,some [V.sl E.length c 0 q.length 1])]).set (E.length+1) (c3+1,some (vn++[V.sl E.length c 0 q.length 1]))).length=E3.length+1:=by simp
       have hge:=fun y z=> ge2b ((E3++[(c3,some [V.sl E.length c 0 q.length 1])]).set (E.length+1) (c3+1,some (vn++[V.sl E.length c 0 q.length 1]))) y z;simp only[hlb]at hge;simp only[hln,hlb]at b4 b6 b7 b8 b9 b10;obtain⟨kv,uv,rfl,w2,w3⟩:=b5;simp only[simprocAttr, -Int.reduceNatCast',R1,b131_3,hl_1,h0_1,h1_1,h5_1,h6_1,h7_1,h8_1,h11_1,h12_1,h13_1,hw3,eq_true hlt3,oa,k1,ov,wfv,wld,eq_true hld,ya,eq_true yc,oy,w2,b1,b2,b3,wap,wqq,wbq,ze,zt,le1,hlb,hge,qR,ge2a,ge2b,b4];refine ai rfl ⟨_,_,b6,b7,b8,b9,?_⟩;simp only[simprocAttr, -Int.reduceNatCast',R1,hl_1,h0_1,h1_1,h5_1,h6_1,h7_1,h8_1,h11_1,h12_1,h13_1,hw3,b10]
      ·rw[if_neg (by simpa using hld)]at gst
       have hE:=wA gst; subst hE;obtain⟨b1,b2,b3,b4,b5,b6,b7,b8,b9,b10⟩:=step E3 c3 un vn f1 f2 f3 f4;simp only at b4 b10;obtain⟨kv,uv,rfl,w2,w3⟩:=b5;simp only[simprocAttr, -Int.reduceNatCast',R1,b131_3,hl_1,h0_1,h1_1,h5_1,h6_1,h7_1,h8_1,h11_1,h12_1,h13_1,hw3,eq_true hlt3,oa,k1,ov,wfv,wld,eq_false hld,ya,eq_true yc,oy,w2,b2,b3,wqq,wbq,ze,zt,le1,qR,ge2a,ge2b,b4];refine ai rfl ⟨_,_,b6,b7,b8,b9,?_⟩;simp only[simprocAttr, -Int.reduceNatCast',R1,hl_1,h0_1,h1_1,h5_1,h6_1,h7_1,h8_1,h11_1,h12_1,h13_1,hw3,b10]
    ·clear hl_1 h0_1 h1_1 h5_1 h6_1 h7_1 h8_1 h9_1 h10_1
     rintro k ⟨nx,put⟩ e ⟨E3,c3⟩ ⟨un,vn,f1,f2,f3,f4,hl_1,h0_1,h1_1,h5_1,h6_1,h7_1,h8_1,h11_1,h12_1,h13_1⟩ hge3 t3 ho3;unfold F131_3_D at ho3;have hE:=wA ho3; subst hE;simp only at f1 f2 f3 f4 h11_1 h12_1;have hN1:E.length+1 < E3.length:=(List.getElem?_eq_some_iff.1 f1).1;cases put with
     |true=>
      simp only[simprocAttr, -Int.reduceNatCast',R1,b131_3,hl_1,h0_1,h1_1,h5_1,h6_1,h7_1,h8_1,h11_1,h12_1,h13_1,eq_false hge3,hw];intro ht; subst ht;simp only[if_true]at ho;have hE:=wA ho; subst hE;refine ai rfl ⟨E.length+1,un,vn,f1,f2.frame fun k hk _=>⟨rfl,trivial⟩,?_⟩;simp only[simprocAttr, -Int.reduceNatCast',R1,hl_1,h0_1,h1_1,h5_1,h6_1,h7_1,h8_1,h11_1,h12_1,h13_1]
     |false=>
      simp only[simprocAttr, -Int.reduceNatCast',R1,b131_3,hl_1,h0_1,h1_1,h5_1,h6_1,h7_1,h8_1,h11_1,h12_1,h13_1,eq_false hge3,hw,le1,qR];intro ht; subst ht;rw[if_neg wC]at ho;obtain⟨n1,gn1,ho⟩:=bS ho;obtain⟨p1,p2,rfl⟩:=app_w gn1;have hE:=wA ho; subst hE;have wap:zO 1 24 (.sl (E.length+1) un 0 nx.length 1) 1 [V.sl E.length c 0 q.length 1] ⟨E3++[(c3,some [V.sl E.length c 0 q.length 1])],c3+1⟩=_:=zz (E:=E3++[(c3,some [V.sl E.length c 0 q.length 1])]) (by rw[List.getElem?_append_left hN1]; exact f1) f2.len (by simpa using p1) (by simpa using p2);have r1:Rws ((E3++[(c3,some [V.sl E.length c 0 q.length 1])]).set (E.length+1) (c3+1,some (vn++[V.sl E.length c 0 q.length 1]))) (fun k=> k≠E.length+1) (vn++[V.sl E.length c 0 q.length 1]) (nx++[q]):=
       (f2.frame fun k hk hne=>⟨(qS hne).trans (List.getElem?_append_left hk),hne⟩).snoc ⟨_,_,rfl,(qS (by omega)).trans ((List.getElem?_append_left (by omega)).trans f3),by omega⟩
      simp only[simprocAttr, -Int.reduceNatCast',R1,b131_3,hl_1,h0_1,h1_1,h5_1,h6_1,h7_1,h8_1,h11_1,h12_1,h13_1,eq_false hge3,hw,le1,qR,wap];refine ai rfl ⟨E.length+1,c3+1,_,qI (by simp; omega),r1.frame fun k hk _=>⟨rfl,trivial⟩,?_⟩;simp only[simprocAttr, -Int.reduceNatCast',R1,hl_1,h0_1,h1_1,h5_1,h6_1,h7_1,h8_1,h11_1,h12_1,h13_1,wJ]
 ·clear hl_0 h0_0 h1_0
  rintro i out e ⟨E,c⟩ ⟨ko,uo,vs,g1,g2,hl_1,h0_1,h1_1,h5_1,h6_1⟩ hge t1 ho;unfold F131_1_D at ho;have hE:=wA ho; subst hE;simp only at g1 g2;simp only[simprocAttr, -Int.reduceNatCast',R1,b131_1,hl_1,h0_1,h1_1,h5_1,h6_1,eq_false hge];intro ht; subst ht;refine ai (fun _=> trivial) ⟨_,?_,ko,uo,vs,rfl,g1,g2⟩;simp only[simprocAttr, -Int.reduceNatCast',R1,qe,p131,Rs.ev,hl_1,h5_1]
theorem s131(p:Int)(rows:List (List Int)){r:List (List Int)}(hF:F131 p rows=some r):ans A 131 [V.int .i64 p,V.isl (rows.map Enc.enc)]=some (Enc.enc r):=by
 obtain⟨_,h',h1,k,u,vs,rfl,h2,h3⟩:=d131 p rows hF;have:=h3.fz h'.clk h2;unfold ans;rw[h1];exact this
end
end Rv
