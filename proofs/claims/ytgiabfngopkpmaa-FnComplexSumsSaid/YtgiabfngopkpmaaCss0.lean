/- What the abstract code answers: typed functions, part 1. -/
import Derived.Test.YtgiabfngopkpmaaCsp
set_option maxHeartbeats 8000000
namespace Rv
open Enc (enc)
theorem ai{a b:Prop}(x:a)(y:b):a∧b:=⟨x,y⟩
theorem ei.{u}{α:Sort u}{p:α→Prop}(w:α)(h:p w):∃x,p x:=⟨w,h⟩
set_option linter.unusedVariables false
set_option linter.unusedSimpArgs false
set_option maxRecDepth 100000
noncomputable section
abbrev eC(x:qa):V:=V.agg [V.int .i64 x.Prime,V.isl (x.Dims.map enc),V.isl (x.Maps.map enc)]
theorem R1:type_of%(ai RR (ai RB (ai RZ (ai @ii_eq <|ai @nn_eq <|ai @oM_e <|ai @oL_e <|ai @oS_e <|ai @oF_e <|ai @oB_e <|ai @oC_e <|ai @oI_e <|ai @oN_e <|ai @oP_e <|ai @oQ_e <|ai @oR_e <|ai @oU_e <|ai @opEv.eq_1 <|ai @opEv.eq_2 <|ai @opEv.eq_3 <|ai @opEv.eq_4 <|ai @opEv.eq_5 <|ai @opEv.eq_6 <|ai @opEv.eq_7 <|ai @opEv.eq_8 <|ai @opEv.eq_9 <|ai @opEv.eq_10 <|ai @opEv.eq_11 <|ai @opEv.eq_12 <|ai @opEv.eq_13 <|ai @opEv.eq_14 <|ai @opEv.eq_15 <|ai @opEv.eq_16 <|ai @opEv.eq_17 <|ai @opEv.eq_18 <|ai @opEv.eq_19 <|ai @opEv.eq_20 <|ai @opEv.eq_21 <|ai @opEv.eq_22 <|ai @opEv.eq_23 <|ai @opEv.eq_24 <|ai @opEv.eq_25 <|ai @opEv.eq_26 <|ai @opEv.eq_27 <|ai @opEv.eq_28 <|ai @opEv.eq_29 <|ai @opEv.eq_30 <|ai @opEv.eq_31 <|ai @opEv.eq_32 <|ai @opEv.eq_33 <|ai @opEv.eq_34 <|ai @opEv.eq_35 <|ai @opEv.eq_36 <|ai @opEv.eq_37 <|ai @xl.eq_1 <|ai @xl.eq_2 <|ai @mapO.eq_1 <|ai @mapO.eq_2 <|ai @mapS.eq_1 <| @mapS.eq_2)))):=ai RR (ai RB (ai RZ (ai @ii_eq <|ai @nn_eq <|ai @oM_e <|ai @oL_e <|ai @oS_e <|ai @oF_e <|ai @oB_e <|ai @oC_e <|ai @oI_e <|ai @oN_e <|ai @oP_e <|ai @oQ_e <|ai @oR_e <|ai @oU_e <|ai @opEv.eq_1 <|ai @opEv.eq_2 <|ai @opEv.eq_3 <|ai @opEv.eq_4 <|ai @opEv.eq_5 <|ai @opEv.eq_6 <|ai @opEv.eq_7 <|ai @opEv.eq_8 <|ai @opEv.eq_9 <|ai @opEv.eq_10 <|ai @opEv.eq_11 <|ai @opEv.eq_12 <|ai @opEv.eq_13 <|ai @opEv.eq_14 <|ai @opEv.eq_15 <|ai @opEv.eq_16 <|ai @opEv.eq_17 <|ai @opEv.eq_18 <|ai @opEv.eq_19 <|ai @opEv.eq_20 <|ai @opEv.eq_21 <|ai @opEv.eq_22 <|ai @opEv.eq_23 <|ai @opEv.eq_24 <|ai @opEv.eq_25 <|ai @opEv.eq_26 <|ai @opEv.eq_27 <|ai @opEv.eq_28 <|ai @opEv.eq_29 <|ai @opEv.eq_30 <|ai @opEv.eq_31 <|ai @opEv.eq_32 <|ai @opEv.eq_33 <|ai @opEv.eq_34 <|ai @opEv.eq_35 <|ai @opEv.eq_36 <|ai @opEv.eq_37 <|ai @xl.eq_1 <|ai @xl.eq_2 <|ai @mapO.eq_1 <|ai @mapO.eq_2 <|ai @mapS.eq_1 <| @mapS.eq_2)))
theorem R0:type_of%(ai R1 RE):=ai R1 RE
theorem k0(l:List Int):List.drop 8 (arc .u8 8 l)=[]:=List.drop_eq_nil_of_le (by rw[arc_len]; exact wE _)
def F140(a0:List U8):Option Bool:=
 some (decide (4096 < (a0.length:Int)))
theorem s140(a0:List U8){r:Bool}(hF:F140 a0=some r):ans A 140 [V.isl (a0.map enc)]=some (enc r):=by
 refine qA (f:=p140) rfl rfl rfl fun e hl he=>?_;have h0_0:e.at 0=V.isl (a0.map enc):=he 0 _ rfl;have hl_0:e.length=6:=hl;clear he hl;show W A b140 e ⟨[],0⟩ _;unfold F140 at hF;cases hF;simp only[simprocAttr,R0,b140, *];exact qd (by simp only[simprocAttr,R0,qe,p140,Rs.ev,qb, *])
def F56(a0:Int)(a1:Int)(a2:Int):Option Bool:=
 if a1≤a0 then
  some (decide (a0≤a2))
 else
  some false
theorem s56(a0:Int)(a1:Int)(a2:Int){r:Bool}(hF:F56 a0 a1 a2=some r):ans A 56 [V.int .i64 a0,V.int .i64 a1,V.int .i64 a2]=some (enc r):=by
 refine qA (f:=p56) rfl rfl rfl fun e hl he=>?_;have h0_0:e.at 0=V.int .i64 a0:=he 0 _ rfl;have h1_0:e.at 1=V.int .i64 a1:=he 1 _ rfl;have h2_0:e.at 2=V.int .i64 a2:=he 2 _ rfl;have hl_0:e.length=15:=hl;clear he hl;have h_0:=ai hl_0 (ai h0_0 (ai h1_0 h2_0));show W A b56 e ⟨[],0⟩ _;unfold F56 at hF;by_cases c1:a1≤a0
 ·rw[if_pos c1]at hF
  cases hF;simp only[simprocAttr,R0,b56, *];exact qd (by simp only[simprocAttr,R0,qe,p56,Rs.ev,qb, *])
 ·rw[if_neg c1]at hF
  cases hF;simp only[simprocAttr,R0,b56, *];exact qd (by simp only[simprocAttr,R0,qe,p56,Rs.ev,qb, *])
def F67(a0:Int):Option Bool:=
 if a0=2 then
  some true
 else
  if a0=3 then
   some true
  else
   if a0=5 then
    some true
   else
    some (decide (a0=7))
theorem s67(a0:Int){r:Bool}(hF:F67 a0=some r):ans A 67 [V.int .i64 a0]=some (enc r):=by
 refine qA (f:=p67) rfl rfl rfl fun e hl he=>?_;have h0_0:e.at 0=V.int .i64 a0:=he 0 _ rfl;have hl_0:e.length=17:=hl;clear he hl;have h_0:=ai hl_0 h0_0;show W A b67 e ⟨[],0⟩ _;unfold F67 at hF;by_cases c1:a0=2
 ·rw[if_pos c1]at hF
  cases hF;simp only[simprocAttr,R0,b67, *];exact qd (by simp only[simprocAttr,R0,qe,p67,Rs.ev,qb, *])
 ·rw[if_neg c1]at hF
  by_cases c2:a0=3
  ·rw[if_pos c2]at hF
   cases hF;simp only[simprocAttr,R0,b67, *];exact qd (by simp only[simprocAttr,R0,qe,p67,Rs.ev,qb, *])
  ·rw[if_neg c2]at hF
   by_cases c3:a0=5
   ·rw[if_pos c3]at hF
    cases hF;simp only[simprocAttr,R0,b67, *];exact qd (by simp only[simprocAttr,R0,qe,p67,Rs.ev,qb, *])
   ·rw[if_neg c3]at hF
    cases hF;simp only[simprocAttr,R0,b67, *];exact qd (by simp only[simprocAttr,R0,qe,p67,Rs.ev,qb, *])
def kp(a0:List Int)(f1:Int→Option Bool)(v8_1:Int)(s:Unit):Option ((Unit)⊕((Unit)⊕Int)):=
 (getI a0 v8_1).bind fun x4=>
(f1 x4).bind fun x6=>
if x6=true then
 some (.inr (.inr v8_1))
else
 some (.inl ())
def F115_1_D(a0:List Int)(f1:Int→Option Bool)(v8_1:Int)(s:Unit):Option ((Unit)⊕Int):=
 some (.inl ())
def F115(a0:List Int)(f1:Int→Option Bool):Option Int:=
 (forR 0 (a0.length:Int) (kp a0 f1) (F115_1_D a0 f1) ()).bind fun t8=> match t8 with
  | .inl _=>
   some (-1)
  | .inr r9=> some r9
def I115_1(a0:List Int)(f1:Int→Option Bool)(vf1:V)(v8_1:Int)(s:Unit)(e:Env)(h:Heap):Prop:=
 ∃k2:Nat,h=⟨[],k2⟩∧e.length=19∧e.at 0=V.isl (a0.map enc)∧e.at 1=vf1∧e.at 7=V.int .i64 (a0.length:Int)∧e.at 8=V.int .i64 v8_1
def P115_1(a0:List Int)(f1:Int→Option Bool)(vf1:V)(t:(Unit)⊕Int)(x:Ex)(e:Env)(h:Heap):Prop:=
 match t with
 | .inl _=> x= .normal∧∃k2:Nat,h=⟨[],k2⟩∧e.length=19
 | .inr r=> x= .ret∧Fin p115 (enc r) .ret e h
theorem l115_1(a0:List Int)(f1:Int→Option Bool)(vf1:V)(hf1:Clo1 A vf1 f1){lo:Int}{s:Unit}{t:(Unit)⊕Int}(hF:forR lo (a0.length:Int) (kp a0 f1) (F115_1_D a0 f1) s=some t){e:Env}{h:Heap}(hI:I115_1 a0 f1 vf1 lo s e h):W A c115_1 e h (P115_1 a0 f1 vf1 t):=by
 obtain⟨g_f1,fs_f1,cs_f1,hv_f1,hc_f1⟩:=id hf1;show W A (.block 0 (.loop false b115_1)) e h _;rw[qm];refine qJ hF 0 (by obtain⟨_,rfl,_⟩:=hI; rfl) (I115_1 a0 f1 vf1) hI ?_ ?_
 ·rintro v8_1 _ e h ⟨k2,rfl,h_1⟩ hlt hw o ho
  unfold kp at ho;obtain⟨x4,gx4,ho⟩:=bS ho;obtain⟨w5a,w5b⟩:=qh gx4;obtain⟨x6,gx6,ho⟩:=bS ho;have w7a:∀h,mapO (frz h 16) (fs_f1++[V.int .i64 x4]++cs_f1)=some (fs_f1++[V.int .i64 x4]++cs_f1):=fun h=> hc_f1.zf x4 h;have w7b:List.all (fs_f1++[V.int .i64 x4]++cs_f1) (qr 16)=true:=hc_f1.zr x4;have w7c:ans A g_f1 (fs_f1++[V.int .i64 x4]++cs_f1)=some (V.bool x6):=hc_f1.ka x4 _ gx6;cases x6 with
  |true=>
   rw[if_pos rfl]at ho;cases ho;simp only[simprocAttr,R0,b115_1, *];intro ht; subst ht;simp only[simprocAttr,RR,RB];exact ai rfl (qd (by simp only[simprocAttr,R0,qe,p115,Rs.ev,qb, *]))
  |false=>
   rw[if_neg wD]at ho;cases ho;simp only[simprocAttr,R0,b115_1, *];refine ai rfl (ei _ (ai rfl ?_));simp only[simprocAttr,R0, *]
 ·rintro v8_1 _ e h ⟨k2,rfl,h_1⟩ hge t1 ho
  unfold F115_1_D at ho;cases ho;simp only[simprocAttr,R0,b115_1, *];intro ht; subst ht;refine ai rfl (ei _ (ai rfl ?_));simp only[simprocAttr,R0, *]
theorem s115(a0:List Int)(f1:Int→Option Bool){vf1:V}(hf1:Clo1 A vf1 f1){r:Int}(hF:F115 a0 f1=some r):ans A 115 [V.isl (a0.map enc),vf1]=some (enc r):=by
 refine qA (f:=p115) rfl rfl rfl fun e hl he=>?_;have h0_0:e.at 0=V.isl (a0.map enc):=he 0 _ rfl;have h1_0:e.at 1=vf1:=he 1 _ rfl;obtain⟨g_f1,fs_f1,cs_f1,hv_f1,hc_f1⟩:=id hf1;have hl_0:e.length=19:=hl;clear he hl;have h_0:=ai hl_0 (ai h0_0 h1_0);show W A b115 e ⟨[],0⟩ _;unfold F115 at hF;obtain⟨t8,gt8,hF⟩:=bS hF;rcases t8 with _|r9
 ·dsimp only at hF
  simp only[simprocAttr,R0,b115, *];refine W.mono (l115_1 a0 f1 vf1 hf1 gt8 (ei _ (ai rfl ?_))) ?_
  ·simp only[simprocAttr,R0, *]
  rintro _ e _ ⟨rfl,k2,rfl,hl_3⟩;cases hF;simp only[simprocAttr,R0, *];exact qd (by simp only[simprocAttr,R0,qe,p115,Rs.ev,qb, *])
 ·dsimp only at hF
  cases hF;simp only[simprocAttr,R0,b115, *];refine W.mono (l115_1 a0 f1 vf1 hf1 gt8 (ei _ (ai rfl ?_))) ?_
  ·simp only[simprocAttr,R0, *]
  rintro _ e h ⟨rfl,hq⟩;simp only[simprocAttr,RR,RB];exact hq
def F82(a0:List Int)(f1:Int→Option Bool):Option Bool:=
 (F115 a0 f1).bind fun x1=>
 some (decide (0≤x1))
theorem s82(a0:List Int)(f1:Int→Option Bool){vf1:V}(hf1:Clo1 A vf1 f1){r:Bool}(hF:F82 a0 f1=some r):ans A 82 [V.isl (a0.map enc),vf1]=some (enc r):=by
 refine qA (f:=p82) rfl rfl rfl fun e hl he=>?_;have h0_0:e.at 0=V.isl (a0.map enc):=he 0 _ rfl;have h1_0:e.at 1=vf1:=he 1 _ rfl;obtain⟨g_f1,fs_f1,cs_f1,hv_f1,hc_f1⟩:=id hf1;have hl_0:e.length=9:=hl;clear he hl;show W A b82 e ⟨[],0⟩ _;unfold F82 at hF;obtain⟨x1,gx1,hF⟩:=bS hF;have w2:ans A 115 [V.isl (a0.map enc),vf1]=some (V.int .i64 x1):=s115 a0 f1 hf1 gx1;cases hF;simp only[simprocAttr,R0,b82,hl_0,h0_0,h1_0,hf1.fz,hf1.rl,w2];exact qd (by simp only[simprocAttr,R0,qe,p82,Rs.ev,qb,hl_0,h0_0,h1_0,hf1.fz,hf1.rl,w2])
def F73(a0:List Int):Option Int:=
 some (a0.length:Int)
theorem s73(a0:List Int){r:Int}(hF:F73 a0=some r):ans A 73 [V.isl (a0.map enc)]=some (enc r):=by
 refine qA (f:=p73) rfl rfl rfl fun e hl he=>?_;have h0_0:e.at 0=V.isl (a0.map enc):=he 0 _ rfl;have hl_0:e.length=5:=hl;clear he hl;show W A b73 e ⟨[],0⟩ _;unfold F73 at hF;cases hF;simp only[simprocAttr,R0,b73, *];exact qd (by simp only[simprocAttr,R0,qe,p73,Rs.ev,qb, *])
def F86(a0:qa):Option Int:=
 (chk ((a0.Dims.length:Int) - 1)).bind fun x3=>
 some x3
theorem s86(a0:qa){r:Int}(hF:F86 a0=some r):ans A 86 [(eC a0)]=some (enc r):=by
 refine qA (f:=p86) rfl rfl rfl fun e hl he=>?_;have h0_0:e.at 0=(eC a0):=he 0 _ rfl;have hl_0:e.length=7:=hl;clear he hl;show W A b86 e ⟨[],0⟩ _;unfold F86 at hF;have w2:=s73 a0.Dims rfl;obtain⟨x3,gx3,hF⟩:=bS hF;have wx3:=qy gx3;cases hF;simp only[simprocAttr,R0,b86, *];exact qd (by simp only[simprocAttr,R0,qe,p86,Rs.ev,qb, *])
def F87(a0:List (List (List Int))):Option Int:=
 some (a0.length:Int)
theorem s87(a0:List (List (List Int))){r:Int}(hF:F87 a0=some r):ans A 87 [V.isl (a0.map enc)]=some (enc r):=by
 refine qA (f:=p87) rfl rfl rfl fun e hl he=>?_;have h0_0:e.at 0=V.isl (a0.map enc):=he 0 _ rfl;have hl_0:e.length=5:=hl;clear he hl;show W A b87 e ⟨[],0⟩ _;unfold F87 at hF;cases hF;simp only[simprocAttr,R0,b87, *];exact qd (by simp only[simprocAttr,R0,qe,p87,Rs.ev,qb, *])
def F88(a0:Int):Option Bool:=
 (F56 a0 0 8).bind fun x1=>
 some (!x1)
theorem s88(a0:Int){r:Bool}(hF:F88 a0=some r):ans A 88 [V.int .i64 a0]=some (enc r):=by
 refine qA (f:=p88) rfl rfl rfl fun e hl he=>?_;have h0_0:e.at 0=V.int .i64 a0:=he 0 _ rfl;have hl_0:e.length=6:=hl;clear he hl;show W A b88 e ⟨[],0⟩ _;unfold F88 at hF;obtain⟨x1,gx1,hF⟩:=bS hF;have w2:=s56 a0 0 8 gx1;cases hF;simp only[simprocAttr,R0,b88, *];exact qd (by simp only[simprocAttr,R0,qe,p88,Rs.ev,qb, *])
def F89(a0:List (List Int)):Option Int:=
 some (a0.length:Int)
theorem s89(a0:List (List Int)){r:Int}(hF:F89 a0=some r):ans A 89 [V.isl (a0.map enc)]=some (enc r):=by
 refine qA (f:=p89) rfl rfl rfl fun e hl he=>?_;have h0_0:e.at 0=V.isl (a0.map enc):=he 0 _ rfl;have hl_0:e.length=5:=hl;clear he hl;show W A b89 e ⟨[],0⟩ _;unfold F89 at hF;cases hF;simp only[simprocAttr,R0,b89, *];exact qd (by simp only[simprocAttr,R0,qe,p89,Rs.ev,qb, *])
def F130(a0:Int)(d0:Int):Option Bool:=
 (chk (d0 - 1)).bind fun x1=>
 (F56 a0 0 x1).bind fun x2=>
 some (!x2)
theorem s130(a0:Int)(d0:Int){r:Bool}(hF:F130 a0 d0=some r):ans A 130 [V.int .i64 a0,V.iptr [V.int .i64 d0]]=some (enc r):=by
 refine qA (f:=p130) rfl rfl rfl fun e hl he=>?_;have h0_0:e.at 0=V.int .i64 a0:=he 0 _ rfl;have h1_0:e.at 1=V.iptr [V.int .i64 d0]:=he 1 _ rfl;have hl_0:e.length=9:=hl;clear he hl;show W A b130 e ⟨[],0⟩ _;unfold F130 at hF;obtain⟨x1,gx1,hF⟩:=bS hF;have wx1:=qy gx1;obtain⟨x2,gx2,hF⟩:=bS hF;have w3:=s56 a0 0 x1 gx2;cases hF;simp only[simprocAttr,R0,b130, *];exact qd (by simp only[simprocAttr,R0,qe,p130,Rs.ev,qb, *])
def F129(a0:Int)(a1:Int)(a2:List Int):Option Bool:=
 if(a2.length:Int)=a1 then
  (F82 a2 (fun x=> F130 x a0)).bind fun x4=>
  some (!x4)
 else
  some false
theorem s129(a0:Int)(a1:Int)(a2:List Int){r:Bool}(hF:F129 a0 a1 a2=some r):ans A 129 [V.int .i64 a0,V.int .i64 a1,V.isl (a2.map enc)]=some (enc r):=by
 refine qA (f:=p129) rfl rfl rfl fun e hl he=>?_;have h0_0:e.at 0=V.int .i64 a0:=he 0 _ rfl;have h1_0:e.at 1=V.int .i64 a1:=he 1 _ rfl;have h2_0:e.at 2=V.isl (a2.map enc):=he 2 _ rfl;have hl_0:e.length=17:=hl;clear he hl;have h_0:=ai hl_0 (ai h0_0 (ai h1_0 h2_0));show W A b129 e ⟨[],0⟩ _;unfold F129 at hF;have w2:ans A 73 [V.isl (a2.map enc)]=some (V.int .i64 (a2.length:Int)):=s73 a2 rfl;by_cases c3:(a2.length:Int)=a1
 ·rw[if_pos c3]at hF
  obtain⟨x4,gx4,hF⟩:=bS hF;have w5:ans A 82 [V.isl (a2.map enc),V.fn 130 [] [V.iptr [V.int .i64 a0]]]=some (V.bool x4):=s82 a2 (fun x=> F130 x a0) (Clo1.of (by intro h f; simp only[RZ,mapO]) (by intro h f; simp only[RZ,mapO]) (by intro f; simp only[RZ,RB]) (by intro f; simp only[RZ,RB]) (fun x _ hr=> s130 x a0 hr)) gx4;cases hF;simp only[simprocAttr,R0,b129, *];exact qd (by simp only[simprocAttr,R0,qe,p129,Rs.ev,qb, *])
 ·rw[if_neg c3]at hF
  cases hF;simp only[simprocAttr,R0,b129, *];exact qd (by simp only[simprocAttr,R0,qe,p129,Rs.ev,qb, *])
def F116(a0:List Int)(d0:Int)(d1:Int):Option Bool:=
 (F129 d0 d1 a0).bind fun x1=>
 some (!x1)
theorem s116(a0:List Int)(d0:Int)(d1:Int){r:Bool}(hF:F116 a0 d0 d1=some r):ans A 116 [V.isl (a0.map enc),V.iptr [V.int .i64 d0],V.iptr [V.int .i64 d1]]=some (enc r):=by
 refine qA (f:=p116) rfl rfl rfl fun e hl he=>?_;have h0_0:e.at 0=V.isl (a0.map enc):=he 0 _ rfl;have h1_0:e.at 1=V.iptr [V.int .i64 d0]:=he 1 _ rfl;have h2_0:e.at 2=V.iptr [V.int .i64 d1]:=he 2 _ rfl;have hl_0:e.length=10:=hl;clear he hl;show W A b116 e ⟨[],0⟩ _;unfold F116 at hF;obtain⟨x1,gx1,hF⟩:=bS hF;have w2:=s129 d0 d1 a0 gx1;cases hF;simp only[simprocAttr,R0,b116, *];exact qd (by simp only[simprocAttr,R0,qe,p116,Rs.ev,qb, *])
def km(a0:List (List Int))(f1:(List Int)→Option Bool)(v8_1:Int)(s:Unit):Option ((Unit)⊕((Unit)⊕Int)):=
 (getI a0 v8_1).bind fun x4=>
(f1 x4).bind fun x6=>
if x6=true then
 some (.inr (.inr v8_1))
else
 some (.inl ())
def F128_1_D(a0:List (List Int))(f1:(List Int)→Option Bool)(v8_1:Int)(s:Unit):Option ((Unit)⊕Int):=
 some (.inl ())
def F128(a0:List (List Int))(f1:(List Int)→Option Bool):Option Int:=
 (forR 0 (a0.length:Int) (km a0 f1) (F128_1_D a0 f1) ()).bind fun t8=> match t8 with
  | .inl _=>
   some (-1)
  | .inr r9=> some r9
def I128_1(a0:List (List Int))(f1:(List Int)→Option Bool)(vf1:V)(v8_1:Int)(s:Unit)(e:Env)(h:Heap):Prop:=
 ∃k2:Nat,h=⟨[],k2⟩∧e.length=19∧e.at 0=V.isl (a0.map enc)∧e.at 1=vf1∧e.at 7=V.int .i64 (a0.length:Int)∧e.at 8=V.int .i64 v8_1
def P128_1(a0:List (List Int))(f1:(List Int)→Option Bool)(vf1:V)(t:(Unit)⊕Int)(x:Ex)(e:Env)(h:Heap):Prop:=
 match t with
 | .inl _=> x= .normal∧∃k2:Nat,h=⟨[],k2⟩∧e.length=19
 | .inr r=> x= .ret∧Fin p128 (enc r) .ret e h
theorem l128_1(a0:List (List Int))(f1:(List Int)→Option Bool)(vf1:V)(hf1:Clo1 A vf1 f1){lo:Int}{s:Unit}{t:(Unit)⊕Int}(hF:forR lo (a0.length:Int) (km a0 f1) (F128_1_D a0 f1) s=some t){e:Env}{h:Heap}(hI:I128_1 a0 f1 vf1 lo s e h):W A c128_1 e h (P128_1 a0 f1 vf1 t):=by
 obtain⟨g_f1,fs_f1,cs_f1,hv_f1,hc_f1⟩:=id hf1;show W A (.block 0 (.loop false b128_1)) e h _;rw[qm];refine qJ hF 0 (by obtain⟨_,rfl,_⟩:=hI; rfl) (I128_1 a0 f1 vf1) hI ?_ ?_
 ·rintro v8_1 _ e h ⟨k2,rfl,h_1⟩ hlt hw o ho
  unfold km at ho;obtain⟨x4,gx4,ho⟩:=bS ho;obtain⟨w5a,w5b⟩:=qh gx4;obtain⟨x6,gx6,ho⟩:=bS ho;have w7a:∀h,mapO (frz h 16) (fs_f1++[V.isl (x4.map enc)]++cs_f1)=some (fs_f1++[V.isl (x4.map enc)]++cs_f1):=fun h=> hc_f1.zf x4 h;have w7b:List.all (fs_f1++[V.isl (x4.map enc)]++cs_f1) (qr 16)=true:=hc_f1.zr x4;have w7c:ans A g_f1 (fs_f1++[V.isl (x4.map enc)]++cs_f1)=some (V.bool x6):=hc_f1.ka x4 _ gx6;cases x6 with
  |true=>
   rw[if_pos rfl]at ho;cases ho;simp only[simprocAttr,R0,b128_1, *];intro ht; subst ht;simp only[simprocAttr,RR,RB];exact ai rfl (qd (by simp only[simprocAttr,R0,qe,p128,Rs.ev,qb, *]))
  |false=>
   rw[if_neg wD]at ho;cases ho;simp only[simprocAttr,R0,b128_1, *];refine ai rfl (ei _ (ai rfl ?_));simp only[simprocAttr,R0, *]
 ·rintro v8_1 _ e h ⟨k2,rfl,h_1⟩ hge t1 ho
  unfold F128_1_D at ho;cases ho;simp only[simprocAttr,R0,b128_1, *];intro ht; subst ht;refine ai rfl (ei _ (ai rfl ?_));simp only[simprocAttr,R0, *]
theorem s128(a0:List (List Int))(f1:(List Int)→Option Bool){vf1:V}(hf1:Clo1 A vf1 f1){r:Int}(hF:F128 a0 f1=some r):ans A 128 [V.isl (a0.map enc),vf1]=some (enc r):=by
 refine qA (f:=p128) rfl rfl rfl fun e hl he=>?_;have h0_0:e.at 0=V.isl (a0.map enc):=he 0 _ rfl;have h1_0:e.at 1=vf1:=he 1 _ rfl;obtain⟨g_f1,fs_f1,cs_f1,hv_f1,hc_f1⟩:=id hf1;have hl_0:e.length=19:=hl;clear he hl;have h_0:=ai hl_0 (ai h0_0 h1_0);show W A b128 e ⟨[],0⟩ _;unfold F128 at hF;obtain⟨t8,gt8,hF⟩:=bS hF;rcases t8 with _|r9
 ·dsimp only at hF
  simp only[simprocAttr,R0,b128, *];refine W.mono (l128_1 a0 f1 vf1 hf1 gt8 (ei _ (ai rfl ?_))) ?_
  ·simp only[simprocAttr,R0, *]
  rintro _ e _ ⟨rfl,k2,rfl,hl_3⟩;cases hF;simp only[simprocAttr,R0, *];exact qd (by simp only[simprocAttr,R0,qe,p128,Rs.ev,qb, *])
 ·dsimp only at hF
  cases hF;simp only[simprocAttr,R0,b128, *];refine W.mono (l128_1 a0 f1 vf1 hf1 gt8 (ei _ (ai rfl ?_))) ?_
  ·simp only[simprocAttr,R0, *]
  rintro _ e h ⟨rfl,hq⟩;simp only[simprocAttr,RR,RB];exact hq
def F117(a0:List (List Int))(f1:(List Int)→Option Bool):Option Bool:=
 (F128 a0 f1).bind fun x1=>
 some (decide (0≤x1))
theorem s117(a0:List (List Int))(f1:(List Int)→Option Bool){vf1:V}(hf1:Clo1 A vf1 f1){r:Bool}(hF:F117 a0 f1=some r):ans A 117 [V.isl (a0.map enc),vf1]=some (enc r):=by
 refine qA (f:=p117) rfl rfl rfl fun e hl he=>?_;have h0_0:e.at 0=V.isl (a0.map enc):=he 0 _ rfl;have h1_0:e.at 1=vf1:=he 1 _ rfl;obtain⟨g_f1,fs_f1,cs_f1,hv_f1,hc_f1⟩:=id hf1;have hl_0:e.length=9:=hl;clear he hl;show W A b117 e ⟨[],0⟩ _;unfold F117 at hF;obtain⟨x1,gx1,hF⟩:=bS hF;have w2:ans A 128 [V.isl (a0.map enc),vf1]=some (V.int .i64 x1):=s128 a0 f1 hf1 gx1;cases hF;simp only[simprocAttr,R0,b117,hl_0,h0_0,h1_0,hf1.fz,hf1.rl,w2];exact qd (by simp only[simprocAttr,R0,qe,p117,Rs.ev,qb,hl_0,h0_0,h1_0,hf1.fz,hf1.rl,w2])
def F90(a0:Int)(a1:Int)(a2:List (List Int)):Option Bool:=
 (F117 a2 (fun x=> F116 x a0 a1)).bind fun x1=>
 some (!x1)
theorem s90(a0:Int)(a1:Int)(a2:List (List Int)){r:Bool}(hF:F90 a0 a1 a2=some r):ans A 90 [V.int .i64 a0,V.int .i64 a1,V.isl (a2.map enc)]=some (enc r):=by
 refine qA (f:=p90) rfl rfl rfl fun e hl he=>?_;have h0_0:e.at 0=V.int .i64 a0:=he 0 _ rfl;have h1_0:e.at 1=V.int .i64 a1:=he 1 _ rfl;have h2_0:e.at 2=V.isl (a2.map enc):=he 2 _ rfl;have hl_0:e.length=11:=hl;clear he hl;show W A b90 e ⟨[],0⟩ _;unfold F90 at hF;obtain⟨x1,gx1,hF⟩:=bS hF;have w2:ans A 117 [V.isl (a2.map enc),V.fn 116 [] [V.iptr [V.int .i64 a0],V.iptr [V.int .i64 a1]]]=some (V.bool x1):=s117 a2 (fun x=> F116 x a0 a1) (Clo1.of (by intro h f; simp only[RZ,mapO]) (by intro h f; simp only[RZ,mapO]) (by intro f; simp only[RZ,RB]) (by intro f; simp only[RZ,RB]) (fun x _ hr=> s116 x a0 a1 hr)) gx1;cases hF;simp only[simprocAttr,R0,b90, *];exact qd (by simp only[simprocAttr,R0,qe,p90,Rs.ev,qb, *])
def F119_2_B(a0:Int)(a2:List Int)(a3:List (List Int))(v18_1:Int)(x7:Int)(x9:List Int)(v28_2:Int)(o0_2:(List Int)):Option (((List Int))⊕((List Int))):=
 (getI x9 v28_2).bind fun x15=>
(getI o0_2 v28_2).bind fun x17=>
(chk (x7*x15)).bind fun x19=>
(chk (x17+x19)).bind fun x20=>
(remI x20 a0).bind fun x21=>
(setI o0_2 v28_2 x21).bind fun l23=>
some (.inl l23)
def F119_2_D(a0:Int)(a2:List Int)(a3:List (List Int))(v18_1:Int)(x7:Int)(x9:List Int)(v28_2:Int)(o0_2:(List Int)):Option ((List Int)):=
 some o0_2
def F119_1_B(a0:Int)(a2:List Int)(a3:List (List Int))(v18_1:Int)(o0_1:(List Int)):Option (((List Int))⊕((List Int))):=
 (getI a2 v18_1).bind fun x7=>
(getI a3 v18_1).bind fun x9=>
(forR 0 (x9.length:Int) (F119_2_B a0 a2 a3 v18_1 x7 x9) (F119_2_D a0 a2 a3 v18_1 x7 x9) o0_1).bind fun zo0_2=>
some (.inl zo0_2)
def F119_1_D(a0:Int)(a2:List Int)(a3:List (List Int))(v18_1:Int)(o0_1:(List Int)):Option ((List Int)):=
 some o0_1
def F119(a0:Int)(a1:Int)(a2:List Int)(a3:List (List Int)):Option (List Int):=
 (mkL 8 a1 0).bind fun l1=>
 (forR 0 (a2.length:Int) (F119_1_B a0 a2 a3) (F119_1_D a0 a2 a3) l1).bind fun zo0_1=>
 some zo0_1
def I119_2(a0:Int)(a2:List Int)(a3:List (List Int))(v18_1:Int)(x7:Int)(x9:List Int)(v28_2:Int)(o0_2:(List Int))(e:Env)(h:Heap):Prop:=
 ∃u12 k13:Nat,h=⟨[(u12,some (o0_2.map enc))],k13⟩∧e.length=49∧e.at 0=V.int .i64 a0∧e.at 3=V.isl (a3.map enc)∧e.at 9=V.sl 0 u12 0 o0_2.length 1∧e.at 11=V.int .i64 x7∧e.at 16=V.isl (a2.map enc)∧e.at 17=V.int .i64 (a2.length:Int)∧e.at 18=V.int .i64 v18_1∧e.at 26=V.isl (x9.map enc)∧e.at 27=V.int .i64 (x9.length:Int)∧e.at 28=V.int .i64 v28_2
def P119_2(a0:Int)(a2:List Int)(a3:List (List Int))(v18_1:Int)(x7:Int)(x9:List Int)(zo0_2:(List Int))(x:Ex)(e:Env)(h:Heap):Prop:=
 x= .normal∧∃u12 k13:Nat,h=⟨[(u12,some (zo0_2.map enc))],k13⟩∧e.length=49∧e.at 0=V.int .i64 a0∧e.at 3=V.isl (a3.map enc)∧e.at 9=V.sl 0 u12 0 zo0_2.length 1∧e.at 16=V.isl (a2.map enc)∧e.at 17=V.int .i64 (a2.length:Int)∧e.at 18=V.int .i64 v18_1
theorem l119_2(a0:Int)(a2:List Int)(a3:List (List Int))(v18_1:Int)(x7:Int)(x9:List Int){lo:Int}{s:(List Int)}{t:(List Int)}(hF:forR lo (x9.length:Int) (F119_2_B a0 a2 a3 v18_1 x7 x9) (F119_2_D a0 a2 a3 v18_1 x7 x9) s=some t){e:Env}{h:Heap}(hI:I119_2 a0 a2 a3 v18_1 x7 x9 lo s e h):W A c119_2 e h (P119_2 a0 a2 a3 v18_1 x7 x9 t):=by
 show W A (.block 2 (.loop false b119_2)) e h _;rw[qm];refine qJ hF 1 (by obtain⟨_,_,rfl,_⟩:=hI; rfl) (I119_2 a0 a2 a3 v18_1 x7 x9) hI ?_ ?_
 ·rintro v28_2 o0_2 e h ⟨u12,k13,rfl,h_11⟩ hlt hw o ho
  unfold F119_2_B at ho;obtain⟨x15,gx15,ho⟩:=bS ho;obtain⟨w16a,w16b⟩:=qh gx15;obtain⟨x17,gx17,ho⟩:=bS ho;obtain⟨w18a,w18b⟩:=qh gx17;have w18c:=qY gx17;have w18d:List.drop (Int.toNat v28_2) (o0_2.map enc)=(V.int .i64 x17)::List.drop ((Int.toNat v28_2)+1) (o0_2.map enc):=drop_enc w18b;obtain⟨x19,gx19,ho⟩:=bS ho;have wx19:=qy gx19;obtain⟨x20,gx20,ho⟩:=bS ho;have wx20:=qy gx20;obtain⟨x21,gx21,ho⟩:=bS ho;obtain⟨w22a,w22b⟩:=rem_w gx21;obtain⟨l23,gl23,ho⟩:=bS ho;obtain⟨w24a,w24b,w24c,w24d,w24e⟩:=xp gl23;replace w24e:List.take (Int.toNat v28_2) (o0_2.map enc)++[V.int .i64 x21]++List.drop (Int.toNat v28_2+1) (o0_2.map enc)=List.map enc l23:=w24e;cases ho;simp only[simprocAttr,R0,b119_2, *];refine ai rfl (ei _ (ei _ (ai rfl ?_)));simp only[simprocAttr,R0, *]
 ·rintro v28_2 o0_2 e h ⟨u12,k13,rfl,h_11⟩ hge t1 ho
  unfold F119_2_D at ho;cases ho;simp only[simprocAttr,R0,b119_2, *];intro ht; subst ht;refine ai rfl (ei _ (ei _ (ai rfl ?_)));simp only[simprocAttr,R0, *]
def I119_1(a0:Int)(a2:List Int)(a3:List (List Int))(v18_1:Int)(o0_1:(List Int))(e:Env)(h:Heap):Prop:=
 ∃u4 k5:Nat,h=⟨[(u4,some (o0_1.map enc))],k5⟩∧e.length=49∧e.at 0=V.int .i64 a0∧e.at 3=V.isl (a3.map enc)∧e.at 9=V.sl 0 u4 0 o0_1.length 1∧e.at 16=V.isl (a2.map enc)∧e.at 17=V.int .i64 (a2.length:Int)∧e.at 18=V.int .i64 v18_1
def P119_1(a0:Int)(a2:List Int)(a3:List (List Int))(zo0_1:(List Int))(x:Ex)(e:Env)(h:Heap):Prop:=
 x= .normal∧∃u4 k5:Nat,h=⟨[(u4,some (zo0_1.map enc))],k5⟩∧e.length=49∧e.at 9=V.sl 0 u4 0 zo0_1.length 1
theorem l119_1(a0:Int)(a2:List Int)(a3:List (List Int)){lo:Int}{s:(List Int)}{t:(List Int)}(hF:forR lo (a2.length:Int) (F119_1_B a0 a2 a3) (F119_1_D a0 a2 a3) s=some t){e:Env}{h:Heap}(hI:I119_1 a0 a2 a3 lo s e h):W A c119_1 e h (P119_1 a0 a2 a3 t):=by
 show W A (.block 0 (.loop false b119_1)) e h _;rw[qm];refine qJ hF 1 (by obtain⟨_,_,rfl,_⟩:=hI; rfl) (I119_1 a0 a2 a3) hI ?_ ?_
 ·rintro v18_1 o0_1 e h ⟨u4,k5,rfl,h_3⟩ hlt hw o ho
  unfold F119_1_B at ho;obtain⟨x7,gx7,ho⟩:=bS ho;obtain⟨w8a,w8b⟩:=qh gx7;obtain⟨x9,gx9,ho⟩:=bS ho;obtain⟨w10a,w10b⟩:=qh gx9;obtain⟨zo0_2,gt25,ho⟩:=bS ho;simp only[simprocAttr,R0,b119_1, *];refine W.mono (l119_2 a0 a2 a3 v18_1 x7 x9 gt25 (ei _ (ei _ (ai rfl ?_)))) ?_
  ·simp only[simprocAttr,R0, *]
  rintro _ e _ ⟨rfl,u12,k13,rfl,h_14⟩;cases ho;simp only[simprocAttr,R0, *];refine ai rfl (ei _ (ei _ (ai rfl ?_)));simp only[simprocAttr,R0, *]
 ·rintro v18_1 o0_1 e h ⟨u4,k5,rfl,h_3⟩ hge t1 ho
  unfold F119_1_D at ho;cases ho;simp only[simprocAttr,R0,b119_1, *];intro ht; subst ht;refine ai rfl (ei _ (ei _ (ai rfl ?_)));simp only[simprocAttr,R0, *]
theorem s119(a0:Int)(a1:Int)(a2:List Int)(a3:List (List Int)){r:List Int}(hF:F119 a0 a1 a2 a3=some r):ans A 119 [V.int .i64 a0,V.int .i64 a1,V.isl (a2.map enc),V.isl (a3.map enc)]=some (enc r):=by
 refine qA (f:=p119) rfl rfl rfl fun e hl he=>?_;have h0_0:e.at 0=V.int .i64 a0:=he 0 _ rfl;have h1_0:e.at 1=V.int .i64 a1:=he 1 _ rfl;have h2_0:e.at 2=V.isl (a2.map enc):=he 2 _ rfl;have h3_0:e.at 3=V.isl (a3.map enc):=he 3 _ rfl;have hl_0:e.length=49:=hl;clear he hl;show W A b119 e ⟨[],0⟩ _;unfold F119 at hF;obtain⟨l1,gl1,hF⟩:=bS hF;obtain⟨w2a,w2b,w2c,w2d,w2e⟩:=mkL_w gl1;replace w2e:(List.replicate (Int.toNat a1) [V.int .i64 0]).flatten=List.map enc l1:=w2e;obtain⟨zo0_1,gt26,hF⟩:=bS hF;simp only[simprocAttr, -Int.reduceNatCast',R0,b119, *];refine W.mono (l119_1 a0 a2 a3 gt26 (ei _ (ei _ (ai rfl ?_)))) ?_
 ·simp only[simprocAttr, -Int.reduceNatCast',R0, *]
 rintro _ e _ ⟨rfl,u4,k5,rfl,hl_6,h9_6⟩;have hE:=wA hF; subst hE;simp only[simprocAttr, -Int.reduceNatCast',R0, *];exact qd (by simp only[simprocAttr, -Int.reduceNatCast',R0,qe,p119,Rs.ev,qb,frzs (α:=Int) zo0_1,zk (α:=Int) zo0_1, *])
def F91(a0:qa)(a1:Int)(a2:List Int):Option (List Int):=
 if a1≤0 then
  some ([]:List Int)
 else
  (F86 a0).bind fun x2=>
  if x2 < a1 then
   some ([]:List Int)
  else
   (chk (a1 - 1)).bind fun x5=>
   (getI a0.Dims x5).bind fun x6=>
   (getI a0.Maps x5).bind fun x8=>
   (F119 a0.Prime x6 a2 x8).bind fun x10=>
   some x10
theorem s91(a0:qa)(a1:Int)(a2:List Int){r:List Int}(hF:F91 a0 a1 a2=some r):ans A 91 [(eC a0),V.int .i64 a1,V.isl (a2.map enc)]=some (enc r):=by
 refine qA (f:=p91) rfl rfl rfl fun e hl he=>?_;have h0_0:e.at 0=(eC a0):=he 0 _ rfl;have h1_0:e.at 1=V.int .i64 a1:=he 1 _ rfl;have h2_0:e.at 2=V.isl (a2.map enc):=he 2 _ rfl;have hl_0:e.length=31:=hl;clear he hl;have h_0:=ai hl_0 (ai h0_0 (ai h1_0 h2_0));show W A b91 e ⟨[],0⟩ _;unfold F91 at hF;by_cases c1:a1≤0
 ·rw[if_pos c1]at hF
  cases hF;simp only[simprocAttr,R0,b91, *];exact qd (by simp only[simprocAttr,R0,qe,p91,Rs.ev,qb, *])
 ·rw[if_neg c1]at hF
  obtain⟨x2,gx2,hF⟩:=bS hF;have w3:=s86 a0 gx2;by_cases c4:x2 < a1
  ·rw[if_pos c4]at hF
   cases hF;simp only[simprocAttr,R0,b91, *];exact qd (by simp only[simprocAttr,R0,qe,p91,Rs.ev,qb, *])
  ·rw[if_neg c4]at hF
   obtain⟨x5,gx5,hF⟩:=bS hF;have wx5:=qy gx5;obtain⟨x6,gx6,hF⟩:=bS hF;obtain⟨w7a,w7b⟩:=qh gx6;obtain⟨x8,gx8,hF⟩:=bS hF;obtain⟨w9a,w9b⟩:=qh gx8;obtain⟨x10,gx10,hF⟩:=bS hF;have w11:=s119 a0.Prime x6 a2 x8 gx10;cases hF;simp only[simprocAttr,R0,b91, *];exact qd (by simp only[simprocAttr,R0,qe,p91,Rs.ev,qb, *])
def F118(a0:Int):Option Bool:=
 some (!(decide (a0=0)))
theorem s118(a0:Int){r:Bool}(hF:F118 a0=some r):ans A 118 [V.int .i64 a0]=some (enc r):=by
 refine qA (f:=p118) rfl rfl rfl fun e hl he=>?_;have h0_0:e.at 0=V.int .i64 a0:=he 0 _ rfl;have hl_0:e.length=5:=hl;clear he hl;show W A b118 e ⟨[],0⟩ _;unfold F118 at hF;cases hF;simp only[simprocAttr,R0,b118, *];exact qd (by simp only[simprocAttr,R0,qe,p118,Rs.ev,qb, *])
def F92(a0:List Int):Option Bool:=
 (F82 a0 (fun x=> F118 x)).bind fun x1=>
 some (!x1)
theorem s92(a0:List Int){r:Bool}(hF:F92 a0=some r):ans A 92 [V.isl (a0.map enc)]=some (enc r):=by
 refine qA (f:=p92) rfl rfl rfl fun e hl he=>?_;have h0_0:e.at 0=V.isl (a0.map enc):=he 0 _ rfl;have hl_0:e.length=6:=hl;clear he hl;show W A b92 e ⟨[],0⟩ _;unfold F92 at hF;obtain⟨x1,gx1,hF⟩:=bS hF;have w2:ans A 82 [V.isl (a0.map enc),V.fn 118 [] []]=some (V.bool x1):=s82 a0 (fun x=> F118 x) (Clo1.of (by intro h f; simp only[RZ,mapO]) (by intro h f; simp only[RZ,mapO]) (by intro f; simp only[RZ,RB]) (by intro f; simp only[RZ,RB]) (fun x _ hr=> s118 x hr)) gx1;cases hF;simp only[simprocAttr,R0,b92, *];exact qd (by simp only[simprocAttr,R0,qe,p92,Rs.ev,qb, *])
def F42_1_B(a0:qa)(v34_1:Int)(s:Unit):Option ((Unit)⊕((Unit)⊕Bool)):=
 (getI a0.Maps v34_1).bind fun x15=>
(getI a0.Dims (v34_1+1)).bind fun x19=>
if(x15.length:Int)=x19 then
 (getI a0.Dims v34_1).bind fun x22=>
 (F90 a0.Prime x22 x15).bind fun x24=>
 if x24=true then
  some (.inl ())
 else
  some (.inr (.inr false))
else
 some (.inr (.inr false))
def F42_1_D(a0:qa)(v34_1:Int)(s:Unit):Option ((Unit)⊕Bool):=
 some (.inl ())
def F42_3_B(a0:qa)(v5_2:Int)(x34:List (List Int))(v74_3:Int)(s:Unit):Option ((Unit)⊕((Unit)⊕Bool)):=
 (getI x34 v74_3).bind fun x39=>
(chk (v5_2 - 1)).bind fun x41=>
(F91 a0 x41 x39).bind fun x42=>
(F92 x42).bind fun x44=>
if x44=true then
 some (.inl ())
else
 some (.inr (.inr false))
def F42_3_D(a0:qa)(v5_2:Int)(x34:List (List Int))(v74_3:Int)(s:Unit):Option ((Unit)⊕Bool):=
 some (.inl ())
def F42_2_S(a0:qa)(v5_2:Int):Option ((Int)⊕((Unit)⊕Bool)):=
 (F86 a0).bind fun x30=>
if v5_2≤x30 then
 (chk (v5_2 - 1)).bind fun x33=>
 (getI a0.Maps x33).bind fun x34=>
 (forR 0 (x34.length:Int) (F42_3_B a0 v5_2 x34) (F42_3_D a0 v5_2 x34) ()).bind fun t46=> match t46 with
  | .inl _=>
   (chk (v5_2+1)).bind fun x47=>
   some (.inl x47)
  | .inr r48=> some (.inr (.inr r48))
else
 some (.inr (.inl ()))
def F42(a0:qa):Option Bool:=
 (F67 a0.Prime).bind fun x1=>
 if x1=true then
  (F86 a0).bind fun x3=>
  (F56 x3 0 5).bind fun x5=>
  if x5=true then
   if(a0.Maps.length:Int)=x3 then
    (F82 a0.Dims (fun x=> F88 x)).bind fun x10=>
    if x10=true then
     some false
    else
     (forR 0 (a0.Maps.length:Int) (F42_1_B a0) (F42_1_D a0) ()).bind fun t26=> match t26 with
      | .inl _=>
       (ze (F42_2_S a0) 2).bind fun t49=> match t49 with
        | .inl _=>
         some true
        | .inr r50=> some r50
      | .inr r51=> some r51
   else
    some false
  else
   some false
 else
  some false
def I42_1(a0:qa)(v34_1:Int)(s:Unit)(e:Env)(h:Heap):Prop:=
 ∃k13:Nat,h=⟨[(0,none)],k13⟩∧e.length=86∧e.at 1=V.iptr [V.int .i64 a0.Prime,V.isl (a0.Dims.map enc),V.isl (a0.Maps.map enc)]∧e.at 32=V.isl (a0.Maps.map enc)∧e.at 33=V.int .i64 (a0.Maps.length:Int)∧e.at 34=V.int .i64 v34_1
def P42_1(a0:qa)(t:(Unit)⊕Bool)(x:Ex)(e:Env)(h:Heap):Prop:=
 match t with
 | .inl _=> x= .normal∧∃k13:Nat,h=⟨[(0,none)],k13⟩∧e.length=86∧e.at 1=V.iptr [V.int .i64 a0.Prime,V.isl (a0.Dims.map enc),V.isl (a0.Maps.map enc)]
 | .inr r=> x= .ret∧Fin p42 (enc r) .ret e h
theorem l42_1(a0:qa){lo:Int}{s:Unit}{t:(Unit)⊕Bool}(hF:forR lo (a0.Maps.length:Int) (F42_1_B a0) (F42_1_D a0) s=some t){e:Env}{h:Heap}(hI:I42_1 a0 lo s e h):W A c42_1 e h (P42_1 a0 t):=by
 show W A (.block 0 (.loop false b42_1)) e h _;rw[qm];refine qJ hF 1 (by obtain⟨_,rfl,_⟩:=hI; rfl) (I42_1 a0) hI ?_ ?_
 ·rintro v34_1 _ e h ⟨k13,rfl,h_12⟩ hlt hw o ho
  unfold F42_1_B at ho;obtain⟨x15,gx15,ho⟩:=bS ho;obtain⟨w16a,w16b⟩:=qh gx15;have w18:=s89 x15 rfl;obtain⟨x19,gx19,ho⟩:=bS ho;obtain⟨w20a,w20b⟩:=qh gx19;by_cases c21:(x15.length:Int)=x19
  ·rw[if_pos c21]at ho
   obtain⟨x22,gx22,ho⟩:=bS ho;obtain⟨w23a,w23b⟩:=qh gx22;obtain⟨x24,gx24,ho⟩:=bS ho;have w25:=s90 a0.Prime x22 x15 gx24;cases x24 with
   |true=>
    rw[if_pos rfl]at ho;cases ho;simp only[simprocAttr,R0,b42_1, *];refine ai rfl (ei _ (ai rfl ?_));simp only[simprocAttr,R0, *]
   |false=>
    rw[if_neg wD]at ho;cases ho;simp only[simprocAttr,R0,b42_1, *];intro ht; subst ht;simp only[simprocAttr,RR,RB];exact ai rfl (qd (by simp only[simprocAttr,R0,qe,p42,Rs.ev,qb, *]))
  ·rw[if_neg c21]at ho
   cases ho;simp only[simprocAttr,R0,b42_1, *];intro ht; subst ht;simp only[simprocAttr,RR,RB];exact ai rfl (qd (by simp only[simprocAttr,R0,qe,p42,Rs.ev,qb, *]))
 ·rintro v34_1 _ e h ⟨k13,rfl,h_12⟩ hge t1 ho
  unfold F42_1_D at ho;cases ho;simp only[simprocAttr,R0,b42_1, *];intro ht; subst ht;refine ai rfl (ei _ (ai rfl ?_));simp only[simprocAttr,R0, *]
def I42_3(a0:qa)(v5_2:Int)(x34:List (List Int))(v74_3:Int)(s:Unit)(e:Env)(h:Heap):Prop:=
 ∃k37:Nat,h=⟨[(0,none)],k37⟩∧e.length=86∧e.at 1=V.iptr [V.int .i64 a0.Prime,V.isl (a0.Dims.map enc),V.isl (a0.Maps.map enc)]∧e.at 5=V.int .i64 v5_2∧e.at 72=V.isl (x34.map enc)∧e.at 73=V.int .i64 (x34.length:Int)∧e.at 74=V.int .i64 v74_3
def P42_3(a0:qa)(v5_2:Int)(x34:List (List Int))(t:(Unit)⊕Bool)(x:Ex)(e:Env)(h:Heap):Prop:=
 match t with
 | .inl _=> x= .normal∧∃k37:Nat,h=⟨[(0,none)],k37⟩∧e.length=86∧e.at 1=V.iptr [V.int .i64 a0.Prime,V.isl (a0.Dims.map enc),V.isl (a0.Maps.map enc)]∧e.at 5=V.int .i64 v5_2
 | .inr r=> x= .ret∧Fin p42 (enc r) .ret e h
theorem l42_3(a0:qa)(v5_2:Int)(x34:List (List Int)){lo:Int}{s:Unit}{t:(Unit)⊕Bool}(hF:forR lo (x34.length:Int) (F42_3_B a0 v5_2 x34) (F42_3_D a0 v5_2 x34) s=some t){e:Env}{h:Heap}(hI:I42_3 a0 v5_2 x34 lo s e h):W A c42_3 e h (P42_3 a0 v5_2 x34 t):=by
 show W A (.block 4 (.loop false b42_3)) e h _;rw[qm];refine qJ hF 1 (by obtain⟨_,rfl,_⟩:=hI; rfl) (I42_3 a0 v5_2 x34) hI ?_ ?_
 ·rintro v74_3 _ e h ⟨k37,rfl,h_36⟩ hlt hw o ho
  unfold F42_3_B at ho;obtain⟨x39,gx39,ho⟩:=bS ho;obtain⟨w40a,w40b⟩:=qh gx39;obtain⟨x41,gx41,ho⟩:=bS ho;have wx41:=qy gx41;obtain⟨x42,gx42,ho⟩:=bS ho;have w43:=s91 a0 x41 x39 gx42;obtain⟨x44,gx44,ho⟩:=bS ho;have w45:=s92 x42 gx44;cases x44 with
  |true=>
   rw[if_pos rfl]at ho;cases ho;simp only[simprocAttr,R0,b42_3, *];refine ai rfl (ei _ (ai rfl ?_));simp only[simprocAttr,R0, *]
  |false=>
   rw[if_neg wD]at ho;cases ho;simp only[simprocAttr,R0,b42_3, *];intro ht; subst ht;simp only[simprocAttr,RR,RB];exact ai rfl (qd (by simp only[simprocAttr,R0,qe,p42,Rs.ev,qb, *]))
 ·rintro v74_3 _ e h ⟨k37,rfl,h_36⟩ hge t1 ho
  unfold F42_3_D at ho;cases ho;simp only[simprocAttr,R0,b42_3, *];intro ht; subst ht;refine ai rfl (ei _ (ai rfl ?_));simp only[simprocAttr,R0, *]
def I42_2(a0:qa)(v5_2:Int)(e:Env)(h:Heap):Prop:=
 ∃k28:Nat,h=⟨[(0,none)],k28⟩∧e.length=86∧e.at 1=V.iptr [V.int .i64 a0.Prime,V.isl (a0.Dims.map enc),V.isl (a0.Maps.map enc)]∧e.at 5=V.int .i64 v5_2
def P42_2(a0:qa)(t:(Unit)⊕Bool)(x:Ex)(e:Env)(h:Heap):Prop:=
 match t with
 | .inl _=> x= .normal∧∃k28:Nat,h=⟨[(0,none)],k28⟩∧e.length=86
 | .inr r=> x= .ret∧Fin p42 (enc r) .ret e h
theorem l42_2(a0:qa){s:Int}{t:(Unit)⊕Bool}(hF:ze (F42_2_S a0) s=some t){e:Env}{h:Heap}(hI:I42_2 a0 s e h):W A c42_2 e h (P42_2 a0 t):=by
 show W A (.block 2 (.loop false b42_2)) e h _;rw[qm];refine jG hF 1 (by obtain⟨_,rfl,_⟩:=hI; rfl) (I42_2 a0) hI ?_
 ·rintro v5_2 e h ⟨k28,rfl,h_27⟩ o ho
  unfold F42_2_S at ho;obtain⟨x30,gx30,ho⟩:=bS ho;have w31:=s86 a0 gx30;by_cases c32:v5_2≤x30
  ·rw[if_pos c32]at ho
   obtain⟨x33,gx33,ho⟩:=bS ho;have wx33:=qy gx33;obtain⟨x34,gx34,ho⟩:=bS ho;obtain⟨w35a,w35b⟩:=qh gx34;obtain⟨t46,gt46,ho⟩:=bS ho;rcases t46 with _|r48
   ·dsimp only at ho
    simp only[simprocAttr,R0,b42_2, *];refine W.mono (l42_3 a0 v5_2 x34 gt46 (ei _ (ai rfl ?_))) ?_
    ·simp only[simprocAttr,R0, *]
    rintro _ e _ ⟨rfl,k37,rfl,h_38⟩;obtain⟨x47,gx47,ho⟩:=bS ho;have wx47:=qy gx47;cases ho;simp only[simprocAttr,R0, *];refine ai rfl (ei _ (ai rfl ?_));simp only[simprocAttr,R0, *]
   ·dsimp only at ho
    cases ho;simp only[simprocAttr,R0,b42_2, *];refine W.mono (l42_3 a0 v5_2 x34 gt46 (ei _ (ai rfl ?_))) ?_
    ·simp only[simprocAttr,R0, *]
    rintro _ e h ⟨rfl,hq⟩;simp only[simprocAttr,RR,RB];intro ht; subst ht;simp only[simprocAttr,RR,RB];exact ai rfl hq
  ·rw[if_neg c32]at ho
   cases ho;simp only[simprocAttr,R0,b42_2, *];intro ht; subst ht;simp only[simprocAttr,RR,RB];refine ai rfl (ei _ (ai rfl ?_));simp only[simprocAttr,R0, *]
theorem s42(a0:qa){r:Bool}(hF:F42 a0=some r):ans A 42 [(eC a0)]=some (enc r):=by
 refine qA (f:=p42) rfl rfl rfl fun e hl he=>?_;have h0_0:e.at 0=(eC a0):=he 0 _ rfl;have hl_0:e.length=86:=hl;clear he hl;have h_0:=ai hl_0 h0_0;show W A b42 e ⟨[],0⟩ _;unfold F42 at hF;obtain⟨x1,gx1,hF⟩:=bS hF;have w2:ans A 67 [V.int .i64 a0.Prime]=some (V.bool x1):=s67 a0.Prime gx1;cases x1 with
 |true=>
  rw[if_pos rfl]at hF;obtain⟨x3,gx3,hF⟩:=bS hF;have w4:ans A 86 [(eC a0)]=some (V.int .i64 x3):=s86 a0 gx3;obtain⟨x5,gx5,hF⟩:=bS hF;have w6:ans A 56 [V.int .i64 x3,V.int .i64 0,V.int .i64 5]=some (V.bool x5):=s56 x3 0 5 gx5;cases x5 with
  |true=>
   rw[if_pos rfl]at hF;have w8:ans A 87 [V.isl (a0.Maps.map enc)]=some (V.int .i64 (a0.Maps.length:Int)):=s87 a0.Maps rfl;by_cases c9:(a0.Maps.length:Int)=x3
   ·rw[if_pos c9]at hF
    obtain⟨x10,gx10,hF⟩:=bS hF;have w11:ans A 82 [V.isl (a0.Dims.map enc),V.fn 88 [] []]=some (V.bool x10):=s82 a0.Dims (fun x=> F88 x) (Clo1.of (by intro h f; simp only[RZ,mapO]) (by intro h f; simp only[RZ,mapO]) (by intro f; simp only[RZ,RB]) (by intro f; simp only[RZ,RB]) (fun x _ hr=> s88 x hr)) gx10;cases x10 with
    |true=>
     rw[if_pos rfl]at hF;cases hF;simp only[simprocAttr,R0,b42, *];exact qd (by simp only[simprocAttr,R0,qe,p42,Rs.ev,qb, *])
    |false=>
     rw[if_neg wD]at hF;obtain⟨t26,gt26,hF⟩:=bS hF;rcases t26 with _|r51
     ·dsimp only at hF
      simp only[simprocAttr,R0,b42, *];refine W.mono (l42_1 a0 gt26 (ei _ (ai rfl ?_))) ?_
      ·simp only[simprocAttr,R0, *]
      rintro _ e _ ⟨rfl,k13,rfl,h_14⟩;obtain⟨t49,gt49,hF⟩:=bS hF;rcases t49 with _|r50
      ·dsimp only at hF
       simp only[simprocAttr,R0, *];refine W.mono (l42_2 a0 gt49 (ei _ (ai rfl ?_))) ?_
       ·simp only[simprocAttr,R0, *]
       rintro _ e _ ⟨rfl,k28,rfl,hl_29⟩;cases hF;simp only[simprocAttr,R0, *];exact qd (by simp only[simprocAttr,R0,qe,p42,Rs.ev,qb, *])
      ·dsimp only at hF
       cases hF;simp only[simprocAttr,R0, *];refine W.mono (l42_2 a0 gt49 (ei _ (ai rfl ?_))) ?_
       ·simp only[simprocAttr,R0, *]
       rintro _ e h ⟨rfl,hq⟩;simp only[simprocAttr,RR,RB];exact hq
     ·dsimp only at hF
      cases hF;simp only[simprocAttr,R0,b42, *];refine W.mono (l42_1 a0 gt26 (ei _ (ai rfl ?_))) ?_
      ·simp only[simprocAttr,R0, *]
      rintro _ e h ⟨rfl,hq⟩;simp only[simprocAttr,RR,RB];exact hq
   ·rw[if_neg c9]at hF
    cases hF;simp only[simprocAttr,R0,b42, *];exact qd (by simp only[simprocAttr,R0,qe,p42,Rs.ev,qb, *])
  |false=>
   rw[if_neg wD]at hF;cases hF;simp only[simprocAttr,R0,b42, *];exact qd (by simp only[simprocAttr,R0,qe,p42,Rs.ev,qb, *])
 |false=>
  rw[if_neg wD]at hF;cases hF;simp only[simprocAttr,R0,b42, *];exact qd (by simp only[simprocAttr,R0,qe,p42,Rs.ev,qb, *])
def F102(a0:qa)(a1:Int):Option Int:=
 (F86 a0).bind fun x1=>
 (F56 a1 0 x1).bind fun x3=>
 if x3=true then
  (getI a0.Dims a1).bind fun x5=>
  some x5
 else
  some 0
theorem s102(a0:qa)(a1:Int){r:Int}(hF:F102 a0 a1=some r):ans A 102 [(eC a0),V.int .i64 a1]=some (enc r):=by
 refine qA (f:=p102) rfl rfl rfl fun e hl he=>?_;have h0_0:e.at 0=(eC a0):=he 0 _ rfl;have h1_0:e.at 1=V.int .i64 a1:=he 1 _ rfl;have hl_0:e.length=15:=hl;clear he hl;have h_0:=ai hl_0 (ai h0_0 h1_0);show W A b102 e ⟨[],0⟩ _;unfold F102 at hF;obtain⟨x1,gx1,hF⟩:=bS hF;have w2:=s86 a0 gx1;obtain⟨x3,gx3,hF⟩:=bS hF;have w4:=s56 a1 0 x1 gx3;cases x3 with
 |true=>
  rw[if_pos rfl]at hF;obtain⟨x5,gx5,hF⟩:=bS hF;obtain⟨w6a,w6b⟩:=qh gx5;cases hF;simp only[simprocAttr,R0,b102, *];exact qd (by simp only[simprocAttr,R0,qe,p102,Rs.ev,qb, *])
 |false=>
  rw[if_neg wD]at hF;cases hF;simp only[simprocAttr,R0,b102, *];exact qd (by simp only[simprocAttr,R0,qe,p102,Rs.ev,qb, *])
def F132(a0:Int)(a1:Int):Option (List Int):=
 (mkL 8 a0 0).bind fun l1=>
 (getI l1 a1).bind fun x3=>
 (setI l1 a1 1).bind fun l5=>
 some l5
theorem t132(a0:Int)(a1:Int){r:List Int}(hF:F132 a0 a1=some r):tans A 132 [1] [V.int .i64 a0,V.int .i64 a1]=some (enc r):=by
 refine tans_of (f:=p132) rfl rfl rfl fun e hl he=>?_;have h0_0:e.at 0=V.int .i64 a0:=he 0 _ rfl;have h1_0:e.at 1=V.int .i64 a1:=he 1 _ rfl;have hl_0:e.length=12:=hl;clear he hl;show W A b132 e ⟨[],0⟩ _;unfold F132 at hF;obtain⟨l1,gl1,hF⟩:=bS hF;obtain⟨w2a,w2b,w2c,w2d,w2e⟩:=mkL_w gl1;replace w2e:(List.replicate (Int.toNat a0) [V.int .i64 0]).flatten=List.map enc l1:=w2e;obtain⟨x3,gx3,hF⟩:=bS hF;obtain⟨w4a,w4b⟩:=qh gx3;have w4c:=qY gx3;replace w4c:a1 < (((Int.toNat a0):Nat):Int):=by first|exact w4c|(simp only[w2d]at w4c ⊢; exact w4c)
 have w4d:List.drop (Int.toNat a1) (l1.map enc)=(V.int .i64 x3)::List.drop ((Int.toNat a1)+1) (l1.map enc):=drop_enc w4b;obtain⟨l5,gl5,hF⟩:=bS hF;obtain⟨w6a,w6b,w6c,w6d,w6e⟩:=xp gl5;replace w6e:List.take (Int.toNat a1) (l1.map enc)++[V.int .i64 1]++List.drop (Int.toNat a1+1) (l1.map enc)=List.map enc l5:=w6e;have hE:=wA hF; subst hE;simp only[simprocAttr, -Int.reduceNatCast',R0,b132,hl_0,h0_0,h1_0,w2a,w2b,w2c,w2e,w4a,w4b,w4c,w4d,w6a,w6b,w6c,w6e];exact tfin_ret (by simp only[simprocAttr, -Int.reduceNatCast',R0,qe,p132,Rs.ev,qb,hl_0,h0_0,h1_0,w2a,w2b,w2c,w2e,w4a,w4b,w4c,w4d,w6a,w6b,w6c,w6e,frzs (α:=Int) l5,zk (α:=Int) l5,jN (α:=Int) (l:=l5) (n:=(Int.toNat a0)) (by first|rfl|simp only[w2d,w6d]),w2d,w6d])
def F124_1_B(a0:Int)(v7_1:Int)(o0_1:(List (List Int))):Option (((List (List Int)))⊕((List (List Int)))):=
 (F132 a0 v7_1).bind fun x5=>
(app 24 o0_1 [x5]).bind fun l8=>
some (.inl l8)
def F124_1_D(a0:Int)(v7_1:Int)(o0_1:(List (List Int))):Option ((List (List Int))):=
 some o0_1
def F124(a0:Int):Option (List (List Int)):=
 (forR 0 a0 (F124_1_B a0) (F124_1_D a0) ([]:(List (List Int)))).bind fun zo0_1=>
 some zo0_1
theorem d124(a0:Int){r:List (List Int)}(hF:F124 a0=some r):∃v h',res A 124 [V.int .i64 a0] Heap.empty=some (v,h')∧∃K,Deep.rep h' v r K:=by
 refine res_dp (f:=p124) rfl rfl rfl fun e hl he=>?_;have h0_0:e.at 0=V.int .i64 a0:=he 0 _ rfl;have hl_0:e.length=18:=hl;clear he hl;show W A b124 e ⟨[],0⟩ _;unfold F124 at hF;obtain⟨zo0_1,gt9,hF⟩:=bS hF;have hE:=wA hF; subst hE;simp only[simprocAttr, -Int.reduceNatCast',R1,b124, *];show W A (.block 0 (.loop true b124_1)) _ _ _;rw[qm];refine qJ gt9 _ rfl (fun i l e h=>∃u vs K,h.ents[0]? =some (u,some vs)∧reps h vs l K∧¬K 0∧e.length=18∧e.at 0=V.int .i64 a0∧e.at 3=V.sl 0 u 0 l.length 1∧e.at 6=V.int .i64 a0∧e.at 7=V.int .i64 i) ?_ ?_ ?_
 ·refine⟨0,[],fun _=> False,rfl,fun _ x=> x,fun x=> x,?_⟩
  simp only[simprocAttr, -Int.reduceNatCast',R1, *]
 ·rintro i l e ⟨E,c⟩ ⟨u,vs,K,g1,g2,g3,hl_1,h0_1,h3_1,h6_1,h7_1⟩ hlt hw o ho
  unfold F124_1_B at ho;obtain⟨x7,gx7,ho⟩:=bS ho;have w8:=t132 a0 i gx7;obtain⟨l10,gl10,ho⟩:=bS ho;obtain⟨q1,q2,rfl⟩:=app_w gl10;have hE:=wA ho; subst hE;have hln:=g2.len;have hE0:0 < E.length:=(List.getElem?_eq_some_iff.1 g1).1;have w9:∀x y c',qQ 1 24 (.sl 0 u 0 l.length 1) 1 [V.sl E.length c 0 x7.length 1] ⟨E++[x]++[y],c'⟩=_:=fun x y c'=> qZ (E:=E++[x]++[y]) (vs:=vs) (by rw[List.getElem?_append_left (by simp),List.getElem?_append_left hE0]; exact g1) hln (by simpa using q1) (by simpa using q2);simp only[simprocAttr, -Int.reduceNatCast',R1,b124_1,qI,zb,qB, *];have r1:=xI (h:=⟨E,c⟩) (h1:=⟨E++[(c,some (x7.map enc))],c+1⟩) (h2:=⟨(E++[(c,some (x7.map enc))]++[(c+1,some [V.sl E.length c 0 x7.length 1])]).set 0 (c+1+1,some (vs++[V.sl E.length c 0 x7.length 1])),c+1+1+1⟩) g2
   (js (l:=x7) (K:=fun k=> k=E.length) (qB _ _) fun k=> vY) (fun k q=> by show E.length≤k; omega) (fun k q=> List.getElem?_append_left q) (fun k p q=> qK (fun e=> by subst e; exact q.elim g3 (fun q=> by omega)) p) (by simp)
  refine ai rfl ⟨_,_,_,qk (by simp),r1,fun q=> q.elim g3 (fun q=> by omega),?_⟩;simp only[simprocAttr, -Int.reduceNatCast',R1,wL, *]
 ·rintro i l e ⟨E,c⟩ ⟨u,vs,K,g1,g2,g3,hl_1,h0_1,h3_1,h6_1,h7_1⟩ hge t1 ho
  unfold F124_1_D at ho;have hE:=wA ho; subst hE;simp only[simprocAttr, -Int.reduceNatCast',R1,b124_1, *];intro ht; subst ht;refine ai (fun _=> trivial) ⟨_,by simp only[simprocAttr, -Int.reduceNatCast',R1,qe,p124,Rs.ev, *],fun k=> k=0∨K k,.inr ⟨0,u,vs,K,rfl,g1,g2,g3,fun k=> vY⟩⟩
theorem s124(a0:Int){r:List (List Int)}(hF:F124 a0=some r):ans A 124 [V.int .i64 a0]=some (enc r):=ans_of_deep (by decide) (d124 a0 hF)
def F96(a0:List Int):Option (List Int):=app 8 [] a0
theorem t96(a0:List Int){r:List Int}(hF:F96 a0=some r):tans A 96 [1] [V.isl (a0.map enc)]=some (enc r):=clone_tans rfl hF
def F137(a0:List Int)(d0:Int):Option Bool:=
 (getI a0 d0).bind fun x1=>
 some (!(decide (x1=0)))
theorem s137(a0:List Int)(d0:Int){r:Bool}(hF:F137 a0 d0=some r):ans A 137 [V.isl (a0.map enc),V.iptr [V.int .i64 d0]]=some (enc r):=by
 refine qA (f:=p137) rfl rfl rfl fun e hl he=>?_;have h0_0:e.at 0=V.isl (a0.map enc):=he 0 _ rfl;have h1_0:e.at 1=V.iptr [V.int .i64 d0]:=he 1 _ rfl;have hl_0:e.length=9:=hl;clear he hl;show W A b137 e ⟨[],0⟩ _;unfold F137 at hF;obtain⟨x1,gx1,hF⟩:=bS hF;obtain⟨w2a,w2b⟩:=qh gx1;cases hF;simp only[simprocAttr,R0,b137, *];exact qd (by simp only[simprocAttr,R0,qe,p137,Rs.ev,qb, *])
def F138_1_S(a0:Int)(a1:Int)(v5_1:Int):Option ((Int)⊕(Int)):=
 (chk (v5_1*a1)).bind fun x4=>
(remI x4 a0).bind fun x5=>
if x5=1 then
 some (.inr v5_1)
else
 (chk (v5_1+1)).bind fun x8=>
 some (.inl x8)
def F138(a0:Int)(a1:Int):Option Int:=
 (ze (F138_1_S a0 a1) 1).bind fun zv5_1=>
 some zv5_1
def I138_1(a0:Int)(a1:Int)(v5_1:Int)(e:Env)(h:Heap):Prop:=
 ∃k2:Nat,h=⟨[],k2⟩∧e.length=15∧e.at 0=V.int .i64 a0∧e.at 1=V.int .i64 a1∧e.at 5=V.int .i64 v5_1
def P138_1(a0:Int)(a1:Int)(zv5_1:Int)(x:Ex)(e:Env)(h:Heap):Prop:=
 x= .normal∧∃k2:Nat,h=⟨[],k2⟩∧e.length=15∧e.at 5=V.int .i64 zv5_1
theorem l138_1(a0:Int)(a1:Int){s:Int}{t:Int}(hF:ze (F138_1_S a0 a1) s=some t){e:Env}{h:Heap}(hI:I138_1 a0 a1 s e h):W A c138_1 e h (P138_1 a0 a1 t):=by
 show W A (.block 0 (.loop false b138_1)) e h _;rw[qm];refine jG hF 0 (by obtain⟨_,rfl,_⟩:=hI; rfl) (I138_1 a0 a1) hI ?_
 ·rintro v5_1 e h ⟨k2,rfl,h_1⟩ o ho
  unfold F138_1_S at ho;obtain⟨x4,gx4,ho⟩:=bS ho;have wx4:=qy gx4;obtain⟨x5,gx5,ho⟩:=bS ho;obtain⟨w6a,w6b⟩:=rem_w gx5;by_cases c7:x5=1
  ·rw[if_pos c7]at ho
   cases ho;simp only[simprocAttr,R0,b138_1, *];intro ht; subst ht;simp only[simprocAttr,RR,RB];refine ai rfl (ei _ (ai rfl ?_));simp only[simprocAttr,R0, *]
  ·rw[if_neg c7]at ho
   obtain⟨x8,gx8,ho⟩:=bS ho;have wx8:=qy gx8;cases ho;simp only[simprocAttr,R0,b138_1, *];refine ai rfl (ei _ (ai rfl ?_));simp only[simprocAttr,R0, *]
theorem s138(a0:Int)(a1:Int){r:Int}(hF:F138 a0 a1=some r):ans A 138 [V.int .i64 a0,V.int .i64 a1]=some (enc r):=by
 refine qA (f:=p138) rfl rfl rfl fun e hl he=>?_;have h0_0:e.at 0=V.int .i64 a0:=he 0 _ rfl;have h1_0:e.at 1=V.int .i64 a1:=he 1 _ rfl;have hl_0:e.length=15:=hl;clear he hl;show W A b138 e ⟨[],0⟩ _;unfold F138 at hF;obtain⟨zv5_1,gt9,hF⟩:=bS hF;simp only[simprocAttr,R0,b138, *];refine W.mono (l138_1 a0 a1 gt9 (ei _ (ai rfl ?_))) ?_
 ·simp only[simprocAttr,R0, *]
 rintro _ e _ ⟨rfl,k2,rfl,h_3⟩;cases hF;simp only[simprocAttr,R0, *];exact qd (by simp only[simprocAttr,R0,qe,p138,Rs.ev,qb, *])
def F139_1_B(other:List Int)(p by_:Int)(i:Int)(row:List Int):Option (List Int⊕List Int):=
 (getI other i).bind fun y=>(getI row i).bind fun r=>(chk (p - by_)).bind fun q=>(chk (q*y)).bind fun m=>(chk (r+m)).bind fun s=>(remI s p).bind fun z=>(setI row i z).bind fun row'=> some (.inl row')
def F139_1_D(i:Int)(row:List Int):Option (List Int):=some row
def F139(row other:List Int)(p by_:Int):Option (List Int):=forR 0 (other.length:Int) (F139_1_B other p by_) F139_1_D row
theorem d139{row other row':List Int}{p by_:Int}(hF:F139 row other p by_=some row')(E:List (Nat×Option (List V)))(c:Nat){key uid key2 uid2:Nat}(g1:E[key]? =some (uid,some (row.map enc)))(g2:E[key2]? =some (uid2,some (other.map enc)))(hne:key2≠key):
  res A 139 [V.sl key uid 0 row.length 1,V.sl key2 uid2 0 other.length 1,V.int .i64 p,V.int .i64 by_] ⟨E,c⟩=some (V.undef,⟨E.set key (uid,some (List.map enc row')),c⟩)∧row'.length=row.length:=by
 have hk:key < E.length:=(List.getElem?_eq_some_iff.1 g1).1
 suffices∃h',res A 139 [V.sl key uid 0 row.length 1,V.sl key2 uid2 0 other.length 1,V.int .i64 p,V.int .i64 by_] ⟨E,c⟩=some (V.undef,h')∧h'=⟨E.set key (uid,some (List.map enc row')),c⟩∧row'.length=row.length by
  obtain⟨h',q1,rfl,q2⟩:=this;exact⟨q1,q2⟩
 refine res_ex (f:=p139) rfl rfl rfl fun e hl he=>?_;have h0_0:e.at 0=V.sl key uid 0 row.length 1:=he 0 _ rfl;have h1_0:e.at 1=V.sl key2 uid2 0 other.length 1:=he 1 _ rfl;have h2_0:e.at 2=V.int .i64 p:=he 2 _ rfl;have h3_0:e.at 3=V.int .i64 by_:=he 3 _ rfl;have hl_0:e.length=33:=hl;clear he hl;show W A b139 e ⟨E,c⟩ _;unfold F139 at hF;simp only[simprocAttr,R1,b139,hl_0,h0_0,h1_0,h2_0,h3_0];show W A (.block 0 (.loop true b139_1)) _ _ _;rw[qm];refine qJ hF _ rfl (fun i s e h=> s.length=row.length∧h=⟨E.set key (uid,some (s.map enc)),c⟩∧e.length=33∧e.at 0=V.sl key uid 0 row.length 1∧e.at 2=V.int .i64 p∧e.at 3=V.int .i64 by_∧e.at 10=V.sl key2 uid2 0 other.length 1∧e.at 11=V.int .i64 (other.length:Int)∧e.at 12=V.int .i64 i) ?_ ?_ ?_
 ·refine⟨rfl,?_,?_⟩
  ·rw[set_self g1]
  ·simp only[simprocAttr,R1,hl_0,h0_0,h1_0,h2_0,h3_0]
 ·clear hl_0 h0_0 h1_0 h2_0 h3_0
  rintro i s e h ⟨hs,rfl,h_1⟩ hlt hw s' ho;unfold F139_1_B at ho;obtain⟨y,gy,ho⟩:=bS ho;obtain⟨ya,yb⟩:=qh gy;have yc:=qY gy;obtain⟨r,gr,ho⟩:=bS ho;obtain⟨ra,rb⟩:=qh gr;have rc:=qY gr;obtain⟨q,gq,ho⟩:=bS ho;have wq:=qy gq;obtain⟨m,gm,ho⟩:=bS ho;have wm:=qy gm;obtain⟨t,gt,ho⟩:=bS ho;have wt:=qy gt;obtain⟨z,gz,ho⟩:=bS ho;obtain⟨wz0,wz⟩:=rem_w gz;obtain⟨row2,gs,ho⟩:=bS ho;obtain⟨s1,s2,s3,s4,s5⟩:=xp gs;cases ho;have oy:qS none (List.drop (Int.toNat i) (other.map enc))=some (V.int .i64 y):=qx (by rw[List.getElem?_map,yb]; rfl);have orr:qS none (List.drop (Int.toNat i) (s.map enc))=some (V.int .i64 r):=qx (by rw[List.getElem?_map,rb]; rfl);have n1:∀x,(E.set key x)[key]? =some x:=fun x=> qk hk;have n2:∀x,(E.set key x)[key2]? =some (uid2,some (other.map enc)):=fun x=>(qo hne).trans g2;have s5':List.take (Int.toNat i) (s.map enc)++[V.int .i64 z]++List.drop (Int.toNat i+1) (s.map enc)=List.map enc row2:=s5;have rc':i < (row.length:Int):=by omega
  simp only[simprocAttr,R1,b139_1,h_1,eq_true hlt,hw,ya,eq_true yc,oy,ra,eq_true rc',orr,n1,n2,wq,wm,wt,wz0,wz,s3,s5',List.set_set];refine ai rfl ⟨by omega,rfl,?_⟩;simp only[simprocAttr,R1,h_1,hw]
 ·clear hl_0 h0_0 h1_0 h2_0 h3_0
  rintro i s e h ⟨hs,rfl,h_1⟩ hge t1 ho;unfold F139_1_D at ho;cases ho;simp only[simprocAttr,R1,b139_1,h_1,eq_false hge];intro ht; subst ht;refine ai (fun _=> trivial) ⟨?_,rfl,hs⟩;simp only[simprocAttr,R1,qe,p139,mapO];rfl
def F133_1_B(rows:List (List Int))(i:Int)(s:List (List Int)):Option (List (List Int)⊕List (List Int)):=(getI rows i).bind fun r=>(F96 r).bind fun d=>(app 24 s [d]).bind fun l=> some (.inl l)
def F133_1_D(i:Int)(s:List (List Int)):Option (List (List Int)):=some s
def F133_3_B(p b:Int)(k:Int)(row:List Int):Option (List Int⊕List Int):=(getI row k).bind fun x=>(chk (x*b)).bind fun m=>(remI m p).bind fun z=>(setI row k z).bind fun r=> some (.inl r)
def F133_3_D(k:Int)(row:List Int):Option (List Int):=some row
def F133_4_B(p c done:Int)(i:Int)(l:List (List Int)):Option (List (List Int)⊕List (List Int)):=
 if i=done then some (.inl l)else(getI l i).bind fun r=>(getI l done).bind fun o=>(getI r c).bind fun x=>(F139 r o p x).bind fun r'=>(setI l i r').bind fun l'=> some (.inl l')
def F133_4_D(i:Int)(l:List (List Int)):Option (List (List Int)):=some l
def F133_2_B(p:Int)(c:Int)(s:List (List Int)×Int):Option ((List (List Int)×Int)⊕(List (List Int)×Int)):=
 if 0≤s.2∧s.2≤s.1.length then
  (F128 (s.1.drop s.2.toNat) (fun r=> F137 r c)).bind fun at_=>
  if at_ < 0 then some (.inl s)else
  (chk (s.2+at_)).bind fun j=>(getI s.1 j).bind fun a=>(getI s.1 s.2).bind fun b=>(setI s.1 s.2 a).bind fun l1=>(setI l1 j b).bind fun l2=>
  (getI l2 s.2).bind fun row=>(getI row c).bind fun x=>(F138 p x).bind fun by_=>
  (forR 0 (row.length:Int) (F133_3_B p by_) F133_3_D row).bind fun row'=>(setI l2 s.2 row').bind fun l3=>
  (forR 0 (l3.length:Int) (F133_4_B p c s.2) F133_4_D l3).bind fun l4=>(chk (s.2+1)).bind fun d=> if d=(l4.length:Int)then some (.inr (l4,d))else some (.inl (l4,d))
 else none
def F133_2_D(c:Int)(s:List (List Int)×Int):Option (List (List Int)×Int):=some s
def F133(p:Int)(rows:List (List Int)):Option (List (List Int)):=
 (forR 0 (rows.length:Int) (F133_1_B rows) F133_1_D []).bind fun l=> if(l.length:Int)=0 then some l else(getI l 0).bind fun r0=>
 (forR 0 (r0.length:Int) (F133_2_B p) F133_2_D (l,0)).bind fun t=> if 0≤t.2∧t.2≤t.1.length then some (t.1.take t.2.toNat)else none
theorem d133(p:Int)(rows:List (List Int)){r:List (List Int)}(hF:F133 p rows=some r):∃v h',res A 133 [V.int .i64 p,V.isl (rows.map enc)] Heap.empty=some (v,h')∧
  ∃u vs l,v=V.sl 0 u 0 r.length 1∧h'.ents[0]? =some (u,some vs)∧zU h'.ents vs l (fun k=> 1≤k)∧r=l.take r.length:=by
 refine res_dp (f:=p133) rfl rfl rfl fun e hl he=>?_;have h0_0:e.at 0=V.int .i64 p:=he 0 _ rfl;have h1_0:e.at 1=V.isl (rows.map enc):=he 1 _ rfl;have hl_0:e.length=134:=hl;clear he hl;show W A b133 e ⟨[],0⟩ _;unfold F133 at hF;obtain⟨l0,gl0,hF⟩:=bS hF;simp only[simprocAttr, -Int.reduceNatCast',R1,b133,hl_0,h0_0,h1_0];show W A (.block 0 (.loop true b133_1)) _ _ _;rw[qm];refine qJ gl0 _ rfl (fun i s e h=>∃u vs,h.ents[0]? =some (u,some vs)∧zU h.ents vs s (fun k=> 1≤k)∧e.length=134∧e.at 0=V.int .i64 p∧e.at 5=V.sl 0 u 0 s.length 1∧e.at 15=V.isl (rows.map enc)∧e.at 16=V.int .i64 (rows.length:Int)∧e.at 17=V.int .i64 i) ?_ ?_ ?_
 ·refine⟨0,[],rfl,.nil,?_⟩
  simp only[simprocAttr, -Int.reduceNatCast',R1,hl_0,h0_0,h1_0]
 ·clear hl_0 h0_0 h1_0
  rintro i s e ⟨E,c⟩ ⟨u,vs,g1,g2,hl_1,h0_1,h5_1,h15_1,h16_1,h17_1⟩ hlt hw s' ho;unfold F133_1_B at ho;simp only at g1 g2;obtain⟨x,gx,ho⟩:=bS ho;obtain⟨xa,xb⟩:=qh gx;obtain⟨d,gd,ho⟩:=bS ho;have wd:=t96 x gd;obtain⟨l,gl,ho⟩:=bS ho;obtain⟨q1,q2,rfl⟩:=app_w gl;have hE:=wA ho; subst hE;have hE0:0 < E.length:=(List.getElem?_eq_some_iff.1 g1).1;have w9:∀x y c',qQ 1 24 (.sl 0 u 0 s.length 1) 1 [V.sl E.length c 0 d.length 1] ⟨E++[x]++[y],c'⟩=_:=fun x y c'=> qZ (E:=E++[x]++[y]) (vs:=vs) (by rw[wP,List.getElem?_append_left hE0]; exact g1) g2.len (by simpa using q1) (by simpa using q2);simp only[simprocAttr, -Int.reduceNatCast',R1,b133_1,hl_1,h0_1,h5_1,h15_1,h16_1,h17_1,eq_true hlt,hw,xa,xb,wd,qI,zb,le1,qB,ge2a,ge2b,w9];refine ai rfl ⟨_,_,qk (by simp),?_,?_⟩
  ·refine(zU.snoc (k:=E.length) (u:=c) (r:=d) (E:=((E++[(c,some (d.map enc))]++[(c+1,some [V.sl E.length c 0 d.length 1])]).set 0 (c+1+1,some (vs++[V.sl E.length c 0 d.length 1])))) (g2.frame fun k hk hb=>?_) ?_ (by omega) fun i k' u' n hv e=>?_)
   ·rw[qo (by omega),wP,List.getElem?_append_left hk]
   ·rw[qo (by omega)]; exact ge2a ..
   ·subst e
    obtain⟨r,hr⟩:∃r,s[i]? =some r:=⟨s[i]'(by have:=(List.getElem?_eq_some_iff.1 hv).1; have:=g2.len; omega),by simp⟩;obtain⟨k2,u2,e2,g,_⟩:=g2.row i _ r hv hr;cases e2;have:=(List.getElem?_eq_some_iff.1 g).1;omega
  ·simp only[simprocAttr, -Int.reduceNatCast',R1,hl_1,h0_1,h5_1,h15_1,h16_1,h17_1,hw,wL]
 ·clear hl_0 h0_0 h1_0
  rintro i s e ⟨E,c⟩ ⟨u,vs,g1,g2,hl_1,h0_1,h5_1,h15_1,h16_1,h17_1⟩ hge t1 ho;unfold F133_1_D at ho;have hE:=wA ho; subst hE;simp only at g1 g2;simp only[simprocAttr, -Int.reduceNatCast',R1,b133_1,hl_1,h0_1,h5_1,h15_1,h16_1,h17_1,eq_false hge];intro ht; subst ht;by_cases hz:(s.length:Int)=0
  ·rw[if_pos hz]at hF ⊢
   have hE:=wA hF; subst hE;refine ai (fun _=> trivial) ⟨_,?_,u,vs,s,rfl,g1,g2,by rw[vI]⟩;simp only[simprocAttr, -Int.reduceNatCast',R1,qe,p133,Rs.ev,hl_1,h5_1]
  ·rw[if_neg hz]at hF ⊢
   obtain⟨r0,gr0,hF⟩:=bS hF;obtain⟨ra,rb⟩:=qh gr0;have rc:=qY gr0;obtain⟨t,gt,hF⟩:=bS hF;obtain⟨k0,u0,v1,v2,v3⟩:=g2.get rb;have o1:=qx v1;simp only[Int.toNat_zero,vM]at o1;simp only[simprocAttr, -Int.reduceNatCast',R1,hl_1,h0_1,h5_1,h15_1,h16_1,h17_1,eq_true rc,g1,o1,Int.toNat_zero,yG];show W A (.block 2 (.loop true b133_2)) _ _ _;rw[qm];refine qJ gt _ rfl (fun i s e h=>∃u vs,h.ents[0]? =some (u,some vs)∧zU h.ents vs s.1 (fun k=> 1≤k)∧e.length=134∧e.at 0=V.int .i64 p∧e.at 5=V.sl 0 u 0 s.1.length 1∧e.at 8=V.int .i64 s.2∧e.at 34=V.int .i64 (r0.length:Int)∧e.at 35=V.int .i64 i) ?_ ?_ ?_
   ·refine⟨u,vs,g1,g2,?_⟩
    simp only[simprocAttr, -Int.reduceNatCast',R1,hl_1,h0_1,h5_1,h15_1,h16_1,h17_1]
   ·clear hl_1 h0_1 h5_1 h15_1 h16_1 h17_1 g1 g2 k0 u0 v1 v2 v3 o1
    rintro cc ⟨l,done⟩ e ⟨E,c⟩ ⟨u,vs,g1,g2,hl_1,h0_1,h5_1,h8_1,h34_1,h35_1⟩ hlt hw s' ho;unfold F133_2_B at ho;simp only at g1 g2 h5_1 h8_1 ho;have hE0:0 < E.length:=(List.getElem?_eq_some_iff.1 g1).1;split at ho
    case isFalse=> cases ho
    rename_i hdn;obtain⟨hd0,hd1⟩:=hdn;have hdn:done.toNat≤l.length:=by omega
    obtain⟨at_,gat,ho⟩:=bS ho;have wat:ans A 128 [V.isl (List.map enc (l.drop done.toNat)),V.fn 137 [] [V.iptr [V.int .i64 cc]]]=some (V.int .i64 at_):=s128 (l.drop done.toNat) (fun r=> F137 r cc)
     (Clo1.of (by intro h f; simp only[RZ,mapO]) (by intro h f; simp only[RZ,mapO]) (by intro f; simp only[RZ,RB]) (by intro f; simp only[RZ,RB]) (fun x _ hr=> s137 x cc hr)) gat
    have g1':∀x,(E++[x])[0]? =some (u,some vs):=fun x=>(List.getElem?_append_left hE0).trans g1;have g2':∀x,zU (E++[x]) vs l (fun k=> 1≤k∧k < E.length):=fun x=>(g2.mono (fun k hk h=> ai h hk)).frame fun k hk _=> List.getElem?_append_left hk;have wfz:∀x c,frz ⟨E++[x],c⟩ 16 (V.sl 0 u done.toNat (l.length - done.toNat) 1)=some (V.isl (List.map enc (l.drop done.toNat))):=fun x c=> by
     have:=(g2' x).fz c (g1' x) (off:=done.toNat) (n:=l.length - done.toNat) (by omega)
     rwa[wM (by simp)]at this
    have wsl:=slice_lo (key:=0) (uid:=u) (n:=l.length) hd0 (by omega);by_cases hat:at_ < 0
    ·rw[if_pos hat]at ho
     have hE:=wA ho; subst hE;simp only[simprocAttr, -Int.reduceNatCast',R1,b133_2,hl_1,h0_1,h5_1,h8_1,h34_1,h35_1,eq_true hlt,hw,vK,yU,wsl,wfz,wat,qB,jw,eq_true hat];refine ai rfl ⟨u,vs,g1' _,(g2' _).mono fun k _ h=> h.1,?_⟩;simp only[simprocAttr, -Int.reduceNatCast',R1,hl_1,h0_1,h5_1,h8_1,h34_1,h35_1,hw]
    ·rw[if_neg hat]at ho
     obtain⟨j,gj,ho⟩:=bS ho;have wj:=qy gj;obtain⟨a,ga,ho⟩:=bS ho;obtain⟨aa,ab⟩:=qh ga;have ac:=qY ga;obtain⟨b,gb,ho⟩:=bS ho;obtain⟨ba,bb⟩:=qh gb;have bc:=qY gb;obtain⟨l1,gl1,ho⟩:=bS ho;have e1:=setI_eq gl1;obtain⟨l2,gl2,ho⟩:=bS ho;have e2:=setI_eq gl2;subst e1; subst e2;obtain⟨row,grow,ho⟩:=bS ho;obtain⟨rowa,rowb⟩:=qh grow;obtain⟨x,gx,ho⟩:=bS ho;obtain⟨xa,xb⟩:=qh gx;have xc:=qY gx;obtain⟨by_,gby,ho⟩:=bS ho;have wby:ans A 138 [V.int .i64 p,V.int .i64 x]=some (V.int .i64 by_):=s138 p x gby;obtain⟨row',gr',ho⟩:=bS ho;obtain⟨l3,gl3,ho⟩:=bS ho;have e3:=setI_eq gl3;subst e3;obtain⟨l4,gl4,ho⟩:=bS ho;obtain⟨d1,gd1,ho⟩:=bS ho;have wd1:=qy gd1;obtain⟨ka,ua,va1,va2,va3⟩:=(g2' (c,some [V.int .i64 cc])).get ab;obtain⟨kb,ub,vb1,vb2,vb3⟩:=(g2' (c,some [V.int .i64 cc])).get bb;have hml:=g2.len;have hsw:=(g2' (c,some [V.int .i64 cc])).swap vb1 va1 bb ab;generalize hvs2:(vs.set done.toNat (V.sl ka ua 0 a.length 1)).set j.toNat (V.sl kb ub 0 b.length 1)=vs2 at hsw;have hl2:((l.set done.toNat a).set j.toNat b).length=l.length:=by simp
     generalize hll2:(l.set done.toNat a).set j.toNat b=l2 at*;have oa:=qx va1;have ob:=qx vb1;have td1:List.take done.toNat vs++[V.sl ka ua 0 a.length 1]++List.drop (done.toNat+1) vs=vs.set done.toNat (V.sl ka ua 0 a.length 1):=tsd (by omega);have td2:List.take j.toNat (vs.set done.toNat (V.sl ka ua 0 a.length 1))++[V.sl kb ub 0 b.length 1]++List.drop (j.toNat+1) (vs.set done.toNat (V.sl ka ua 0 a.length 1))=vs2:=(tsd (by simp; omega)).trans hvs2;have hd1':done.toNat+1≤vs.length:=by omega
     have hj1':j.toNat+1≤vs.length:=by omega
     have n1:∀y z,((E++[y]).set 0 z)[0]? =some z:=fun y z=> qk (by simp);have n2:∀y z,((E++[y]).set 0 z)[E.length]? =some y:=fun y z=>(qo (by omega)).trans (qB _ _);have hsw2:∀z,zU ((E++[(c,some [V.int .i64 cc])]).set 0 z) vs2 l2 (fun k=> 1≤k∧k < E.length):=fun z=> hsw.frame fun k hk h=> qo (by omega);obtain⟨kr,ur,vr1,vr2,vr3⟩:=(hsw2 (u,some vs2)).get rowb;have orr:=qx vr1;have ox:qS none (List.drop cc.toNat (row.map enc))=some (V.int .i64 x):=qx (by rw[List.getElem?_map,xb]; rfl);have hvl:vs2.length=l.length:=by rw[hsw.len,hl2]
     simp only[simprocAttr, -Int.reduceNatCast',R1,b133_2,hl_1,h0_1,h5_1,h8_1,h34_1,h35_1,eq_true hlt,hw,vK,yU,wsl,wfz,wat,qB,jw,eq_false hat,wj,aa,eq_true ac,ba,eq_true bc,g1',oa,ob,yQ,eq_true hd1',eq_true hj1',td1,td2,List.set_set,n1,n2,orr,xa,eq_true xc,vr2,ox,wby];have hd1v:d1=done+1:=by
      unfold chk at gd1; split at gd1
      ·cases gd1; rfl
      ·cases gd1
     have kr0:1≤kr:=vr3.1;have krE:kr < E.length:=vr3.2;have m0:∀z,(((E++[(c,some [V.int .i64 cc])]).set 0 (u,some vs2)).set kr z)[0]? =some (u,some vs2):=fun z=>(qo (by omega)).trans (n1 _ _);have mk:∀z,(((E++[(c,some [V.int .i64 cc])]).set 0 (u,some vs2)).set kr z)[kr]? =some z:=fun z=> qk (by simp; omega);have mN:∀z,(((E++[(c,some [V.int .i64 cc])]).set 0 (u,some vs2)).set kr z)[E.length]? =some (c,some [V.int .i64 cc]):=fun z=>(qo (by omega)).trans (n2 _ _);have hdl:done < (l.length:Int):=by omega
     show W A (.block 4 (.loop true b133_3)) _ _ _;rw[qm];refine qJ gr' _ rfl (fun k s e h=> s.length=row.length∧h=⟨((E++[(c,some [V.int .i64 cc])]).set 0 (u,some vs2)).set kr (ur,some (s.map enc)),c+1⟩∧e.length=134∧e.at 0=V.int .i64 p∧e.at 5=V.sl 0 u 0 l.length 1∧e.at 8=V.int .i64 done∧e.at 9=V.ptr E.length c 0∧e.at 11=V.int .i64 by_∧e.at 34=V.int .i64 (r0.length:Int)∧e.at 35=V.int .i64 cc∧e.at 76=V.int .i64 (row.length:Int)∧e.at 77=V.int .i64 k) ?_ ?_ ?_
     ·refine⟨rfl,by rw[set_self vr2],?_⟩
      simp only[simprocAttr, -Int.reduceNatCast',R1,hl_1,h0_1,h5_1,h8_1,h34_1,h35_1]
     ·clear hl_1 h0_1 h5_1 h8_1 h34_1 h35_1
      rintro k q e h ⟨hq,rfl,hl_1,h0_1,h5_1,h8_1,h9_1,h11_1,h34_1,h35_1,h76_1,h77_1⟩ hlt3 hw3 s3 ho3;unfold F133_3_B at ho3;obtain⟨x3,gx3,ho3⟩:=bS ho3;obtain⟨x3a,x3b⟩:=qh gx3;obtain⟨m3,gm3,ho3⟩:=bS ho3;have wm3:=qy gm3;obtain⟨z3,gz3,ho3⟩:=bS ho3;obtain⟨wz30,wz3⟩:=rem_w gz3;obtain⟨q2,gq2,ho3⟩:=bS ho3;obtain⟨s31,s32,s33,s34,s35⟩:=xp gq2;have hE:=wA ho3; subst hE;have o3:qS none (List.drop k.toNat (q.map enc))=some (V.int .i64 x3):=qx (by rw[List.getElem?_map,x3b]; rfl);have hk3:k < (row.length:Int):=hlt3;have s35':List.take k.toNat (q.map enc)++[V.int .i64 z3]++List.drop (k.toNat+1) (q.map enc)=List.map enc q2:=s35;simp only[simprocAttr, -Int.reduceNatCast',R1,b133_3,hl_1,h0_1,h5_1,h8_1,h9_1,h11_1,h34_1,h35_1,h76_1,h77_1,hw3,eq_true hlt3,hd0,eq_true hdl,m0,mk,orr,x3a,o3,wm3,wz30,wz3,s33,s35',List.set_set];refine ai rfl ⟨by omega,rfl,?_⟩;simp only[simprocAttr, -Int.reduceNatCast',R1,hl_1,h0_1,h5_1,h8_1,h9_1,h11_1,h34_1,h35_1,h76_1,h77_1,hw3]
     ·clear hl_1 h0_1 h5_1 h8_1 h34_1 h35_1
      rintro k q e h ⟨hq,rfl,hl_1,h0_1,h5_1,h8_1,h9_1,h11_1,h34_1,h35_1,h76_1,h77_1⟩ hge3 t3 ho3;unfold F133_3_D at ho3;have hE:=wA ho3; subst hE;simp only[simprocAttr, -Int.reduceNatCast',R1,b133_3,hl_1,h0_1,h5_1,h8_1,h9_1,h11_1,h34_1,h35_1,h76_1,h77_1,eq_false hge3];intro ht; subst ht;have hmw:=zU.write (hsw2 (u,some vs2)) rowb vr1 hq;have hl3:((l2.set done.toNat q).length:Int)=(l.length:Int):=by rw[yQ,hl2]
      rw[hl3]at gl4;show W A (.block 6 (.loop true b133_4)) _ _ _;rw[qm];refine qJ gl4 _ rfl (fun i s e h=> s.length=l.length∧h.ents[0]? =some (u,some vs2)∧zU h.ents vs2 s (fun k=> 1≤k∧k < E.length)∧h.ents[E.length]? =some (c,some [V.int .i64 cc])∧e.length=134∧e.at 0=V.int .i64 p∧e.at 5=V.sl 0 u 0 l.length 1∧e.at 8=V.int .i64 done∧e.at 9=V.ptr E.length c 0∧e.at 34=V.int .i64 (r0.length:Int)∧e.at 35=V.int .i64 cc∧e.at 99=V.int .i64 (l.length:Int)∧e.at 100=V.int .i64 i) ?_ ?_ ?_
      ·refine⟨by omega,m0 _,hmw,mN _,?_⟩
       simp only[simprocAttr, -Int.reduceNatCast',R1,hl_1,h0_1,h5_1,h8_1,h9_1,h11_1,h34_1,h35_1,h76_1,h77_1]
      ·clear hl_1 h0_1 h5_1 h8_1 h9_1 h11_1 h34_1 h35_1 h76_1 h77_1
       rintro i q4 e ⟨E4,c4⟩ ⟨hq4,f1,f2,f3,hl_1,h0_1,h5_1,h8_1,h9_1,h34_1,h35_1,h99_1,h100_1⟩ hlt4 hw4 s4 ho4;unfold F133_4_B at ho4;simp only at f1 f2 f3;by_cases hi:i=done
       ·rw[if_pos hi]at ho4
        have hE:=wA ho4; subst hE;simp only[simprocAttr, -Int.reduceNatCast',R1,b133_4,hl_1,h0_1,h5_1,h8_1,h9_1,h34_1,h35_1,h99_1,h100_1,hw4,eq_true hlt4,eq_true hi];refine ai rfl ⟨hq4,f1,f2,f3,?_⟩;simp only[simprocAttr, -Int.reduceNatCast',R1,hl_1,h0_1,h5_1,h8_1,h9_1,h34_1,h35_1,h99_1,h100_1,hw4]
       ·rw[if_neg hi]at ho4
        obtain⟨ri,gri,ho4⟩:=bS ho4;obtain⟨ria,rib⟩:=qh gri;obtain⟨oi,goi,ho4⟩:=bS ho4;obtain⟨oia,oib⟩:=qh goi;obtain⟨xi,gxi,ho4⟩:=bS ho4;obtain⟨xia,xib⟩:=qh gxi;have xic:=qY gxi;obtain⟨r',gr'',ho4⟩:=bS ho4;obtain⟨l',gl',ho4⟩:=bS ho4;have e4:=setI_eq gl';subst e4;have hE:=wA ho4; subst hE;obtain⟨ki,ui,vi1,vi2,vi3⟩:=f2.get rib;obtain⟨ko,uo,vo1,vo2,vo3⟩:=f2.get oib;have hko:ko≠ki:=fun q=> hi (by have:=f2.inj _ _ _ _ _ _ _ _ vo1 vi1 q; omega);have oi1:=qx vi1;have oo1:=qx vo1;have ox1:qS none (List.drop cc.toNat (ri.map enc))=some (V.int .i64 xi):=qx (by rw[List.getElem?_map,xib]; rfl);obtain⟨wc,wcl⟩:=d139 gr'' E4 c4 vi2 vo2 hko;have hi4:i < (l.length:Int):=hlt4;simp only[simprocAttr, -Int.reduceNatCast',R1,b133_4,hl_1,h0_1,h5_1,h8_1,h9_1,h34_1,h35_1,h99_1,h100_1,hw4,eq_true hlt4,eq_false hi,hd0,eq_true hdl,ria,f1,f3,oi1,oo1,vi2,xia,eq_true xic,ox1,qv,wc];refine ai rfl ⟨by rw[yQ]; exact hq4,(qo (by omega)).trans f1,f2.write rib vi1 wcl,(qo (by omega)).trans f3,?_⟩;simp only[simprocAttr, -Int.reduceNatCast',R1,hl_1,h0_1,h5_1,h8_1,h9_1,h34_1,h35_1,h99_1,h100_1,hw4]
      ·clear hl_1 h0_1 h5_1 h8_1 h9_1 h11_1 h34_1 h35_1 h76_1 h77_1
       rintro i q4 e ⟨E4,c4⟩ ⟨hq4,f1,f2,f3,hl_1,h0_1,h5_1,h8_1,h9_1,h34_1,h35_1,h99_1,h100_1⟩ hge4 t4 ho4;unfold F133_4_D at ho4;have hE:=wA ho4; subst hE;simp only at f1 f2 f3;have wd1':Go.IntKind.wrap .i64 (done+1)=d1:=wd1;by_cases hb:d1=(q4.length:Int)
       ·have hb':d1=(l.length:Int):=by omega
        have wsh:=slice_hi (key:=0) (uid:=u) (n:=l.length) (d:=d1) (by omega) (by omega);simp only[simprocAttr, -Int.reduceNatCast',R1,b133_4,hl_1,h0_1,h5_1,h8_1,h9_1,h34_1,h35_1,h99_1,h100_1,eq_false hge4,wd1',eq_true hb',vK,yU,wsh];intro ht; subst ht;rw[if_pos hb]at ho;have hE:=wA ho; subst hE;intro ht; subst ht;simp only[simprocAttr, -Int.reduceNatCast',R1,hl_1,h0_1,h5_1,h8_1,h9_1,h34_1,h35_1,h99_1,h100_1,vK,yU,wsh];simp only at hF;rw[if_pos ⟨by omega,by omega⟩]at hF;have hE:=wA hF; subst hE;have hrl:(q4.take d1.toNat).length=d1.toNat:=by simp; omega
        refine ai (fun _=> trivial) ⟨_,?_,u,vs2,q4,rfl,f1,f2.mono fun k _ h=> h.1,by rw[hrl]⟩;simp only[simprocAttr, -Int.reduceNatCast',R1,qe,p133,Rs.ev,hl_1,hrl]
       ·have hb':¬d1=(l.length:Int):=by omega
        simp only[simprocAttr, -Int.reduceNatCast',R1,b133_4,hl_1,h0_1,h5_1,h8_1,h9_1,h34_1,h35_1,h99_1,h100_1,eq_false hge4,wd1',eq_false hb',hw];intro ht; subst ht;rw[if_neg hb]at ho;have hE:=wA ho; subst hE;refine ai rfl ⟨u,vs2,f1,f2.mono fun k _ h=> h.1,?_⟩;simp only[simprocAttr, -Int.reduceNatCast',R1,hl_1,h0_1,h5_1,h8_1,h9_1,h34_1,h35_1,h99_1,h100_1,hq4]
   ·clear hl_1 h0_1 h5_1 h15_1 h16_1 h17_1 g1 g2 k0 u0 v1 v2 v3 o1
    rintro cc ⟨l,done⟩ e ⟨E,c⟩ ⟨u,vs,g1,g2,hl_1,h0_1,h5_1,h8_1,h34_1,h35_1⟩ hge t1 ho;unfold F133_2_D at ho;have hE:=wA ho; subst hE;simp only at g1 g2 h5_1 h8_1;simp only[simprocAttr, -Int.reduceNatCast',R1,b133_2,hl_1,h0_1,h5_1,h8_1,h34_1,h35_1,eq_false hge,vK,yU];intro ht; subst ht;simp only at hF;split at hF
    case isFalse=> cases hF
    rename_i hdn;have wsh:=slice_hi (key:=0) (uid:=u) (n:=l.length) (d:=done) hdn.1 (by omega);have hE:=wA hF; subst hE;have hrl:(l.take done.toNat).length=done.toNat:=by simp; omega
    simp only[simprocAttr, -Int.reduceNatCast',R1,hl_1,wsh];refine ai (fun _=> trivial) ⟨_,?_,u,vs,l,rfl,g1,g2,by rw[hrl]⟩;simp only[simprocAttr, -Int.reduceNatCast',R1,qe,p133,Rs.ev,hl_1,hrl]
theorem s133(p:Int)(rows:List (List Int)){r:List (List Int)}(hF:F133 p rows=some r):ans A 133 [V.int .i64 p,V.isl (rows.map enc)]=some (enc r):=by
 obtain⟨_,h',h1,u,vs,l,rfl,h2,h3,h4⟩:=d133 p rows hF;have hl:r.length≤l.length:=by have:=congrArg List.length h4; simp at this; omega
 have:=h3.fz h'.clk (key:=0) (uid:=u) (off:=0) (n:=r.length) h2 (by omega);rw[vM,←h4]at this;unfold ans;rw[h1];exact this
def F125_1_B(a0:Int)(a1:List (List Int))(x2:List Int)(v25_1:Int)(o0_1:(List (List Int))):Option (((List (List Int)))⊕((List (List Int)))):=
 (getI a1 v25_1).bind fun x8=>
(F96 x8).bind fun x10=>
(appZ 8 x10 (a1.length:Int) 0).bind fun l13=>
(chk ((x2.length:Int)+v25_1)).bind fun x14=>
(getI l13 x14).bind fun x15=>
(setI l13 x14 1).bind fun l17=>
(app 24 o0_1 [l17]).bind fun l20=>
some (.inl l20)
def F125_1_D(a0:Int)(a1:List (List Int))(x2:List Int)(v25_1:Int)(o0_1:(List (List Int))):Option ((List (List Int))):=
 some o0_1
def F125_2_B(a0:Int)(x2:List Int)(x22:List (List Int))(v49_2:Int)(o1_2:(List (List Int))):Option (((List (List Int)))⊕((List (List Int)))):=
 (getI x22 v49_2).bind fun x28=>
(slI x28 0 (x2.length:Int)).bind fun l30=>
(F92 l30).bind fun x32=>
if x32=true then
 (slI x28 (x2.length:Int) (x28.length:Int)).bind fun l34=>
 (app 24 o1_2 [l34]).bind fun l37=>
 some (.inl l37)
else
 some (.inl o1_2)
def F125_2_D(a0:Int)(x2:List Int)(x22:List (List Int))(v49_2:Int)(o1_2:(List (List Int))):Option ((List (List Int))):=
 some o1_2
def F125(a0:Int)(a1:List (List Int)):Option (List (List Int)):=
 if(a1.length:Int)=0 then
  some ([]:List (List Int))
 else
  (getI a1 0).bind fun x2=>
  (forR 0 (a1.length:Int) (F125_1_B a0 a1 x2) (F125_1_D a0 a1 x2) ([]:(List (List Int)))).bind fun zo0_1=>
  (F133 a0 zo0_1).bind fun x22=>
  (forR 0 (x22.length:Int) (F125_2_B a0 x2 x22) (F125_2_D a0 x2 x22) ([]:(List (List Int)))).bind fun zo1_2=>
  (F133 a0 zo1_2).bind fun x39=>
  some x39
def I125_1(a0:Int)(a1:List (List Int))(x2:List Int)(v25_1:Int)(o0_1:(List (List Int)))(e:Env)(h:Heap):Prop:=
 ∃u5 k6:Nat,h=⟨[(u5,some (o0_1.map enc))],k6⟩∧e.length=67∧e.at 0=V.int .i64 a0∧e.at 5=V.int .i64 (a1.length:Int)∧e.at 6=V.int .i64 (x2.length:Int)∧e.at 7=V.sl 0 u5 0 o0_1.length 1∧e.at 23=V.isl (a1.map enc)∧e.at 24=V.int .i64 (a1.length:Int)∧e.at 25=V.int .i64 v25_1
def P125_1(a0:Int)(a1:List (List Int))(x2:List Int)(zo0_1:(List (List Int)))(x:Ex)(e:Env)(h:Heap):Prop:=
 x= .normal∧∃u5 k6:Nat,h=⟨[(u5,some (zo0_1.map enc))],k6⟩∧e.length=67∧e.at 0=V.int .i64 a0∧e.at 6=V.int .i64 (x2.length:Int)∧e.at 7=V.sl 0 u5 0 zo0_1.length 1
theorem l125_1(a0:Int)(a1:List (List Int))(x2:List Int){lo:Int}{s:(List (List Int))}{t:(List (List Int))}(hF:forR lo (a1.length:Int) (F125_1_B a0 a1 x2) (F125_1_D a0 a1 x2) s=some t){e:Env}{h:Heap}(hI:I125_1 a0 a1 x2 lo s e h):W A c125_1 e h (P125_1 a0 a1 x2 t):=by
 show W A (.block 0 (.loop false b125_1)) e h _;rw[qm];refine qJ hF 1 (by obtain⟨_,_,rfl,_⟩:=hI; rfl) (I125_1 a0 a1 x2) hI ?_ ?_
 ·rintro v25_1 o0_1 e h ⟨u5,k6,rfl,h_4⟩ hlt hw o ho
  unfold F125_1_B at ho;obtain⟨x8,gx8,ho⟩:=bS ho;obtain⟨w9a,w9b⟩:=qh gx8;obtain⟨x10,gx10,ho⟩:=bS ho;have w11:tans A 96 [1] [V.isl (x8.map enc)]=some (V.isl (x10.map enc)):=t96 x8 gx10;have w11t:=zb (α:=Int) x10;obtain⟨l13,gl13,ho⟩:=bS ho;obtain⟨w12a,w12b,w12c,w12d,w12e,w12f⟩:=appZ_w gl13;replace w12f:List.map enc (List.replicate (Int.toNat (a1.length:Int)) (0:Int))=(List.replicate (Int.toNat (a1.length:Int)) [V.int .i64 0]).flatten:=w12f;have w12:=fun a b c d e=> qD (α:=Int) (n:=x10.length) (m:=(Int.toNat (a1.length:Int))) (ds:=(List.replicate (Int.toNat (a1.length:Int)) [V.int .i64 0]).flatten) w12d (by first|rfl|simp) w12e w12f a b c d e;have w12l:=qR w12d;obtain⟨x14,gx14,ho⟩:=bS ho;have wx14:=qy gx14;obtain⟨x15,gx15,ho⟩:=bS ho;obtain⟨w16a,w16b⟩:=qh gx15;have w16c:=qY gx15;have w16d:List.drop (Int.toNat x14) (l13.map enc)=(V.int .i64 x15)::List.drop ((Int.toNat x14)+1) (l13.map enc):=drop_enc w16b;obtain⟨l17,gl17,ho⟩:=bS ho;obtain⟨w18a,w18b,w18c,w18d,w18e⟩:=xp gl17;replace w18e:List.take (Int.toNat x14) (l13.map enc)++[V.int .i64 1]++List.drop (Int.toNat x14+1) (l13.map enc)=List.map enc l17:=w18e;obtain⟨l20,gl20,ho⟩:=bS ho;have w19:=fun a b c d e=> qD (α:=List Int) (n:=o0_1.length) (m:=1) (ds:=[V.isl (l17.map enc)]) gl20 (by first|rfl|simp only[w18d]) (by first|rfl|simp only[w18d]) rfl a b c d e;have w19l:=qR gl20;cases ho;simp only[simprocAttr, -Int.reduceNatCast',R0,b125_1,h_4,eq_true hlt,hw,w9a,w9b,w11,w11t,w12a,w12b,w12c,w12,wx14,w16a,w16b,w16c,w16d,w18a,w18b,w18c,w18e,zk (α:=Int) l17,jN (α:=Int) (l:=l17) (n:=l13.length) (by first|rfl|simp only[w18d]),jZ (α:=Int) (l:=l17) (n:=l13.length) (by first|rfl|simp only[w18d]),w19];refine ai rfl (ei _ (ei _ (ai rfl ?_)));simp only[simprocAttr, -Int.reduceNatCast',R0,h_4,eq_true hlt,hw,w9a,w9b,w11,w11t,w12a,w12b,w12c,w12,wx14,w16a,w16b,w16c,w16d,w18a,w18b,w18c,w18e,zk (α:=Int) l17,jN (α:=Int) (l:=l17) (n:=l13.length) (by first|rfl|simp only[w18d]),jZ (α:=Int) (l:=l17) (n:=l13.length) (by first|rfl|simp only[w18d]),w19,w18d]
 ·rintro v25_1 o0_1 e h ⟨u5,k6,rfl,h_4⟩ hge t1 ho
  unfold F125_1_D at ho;cases ho;simp only[simprocAttr, -Int.reduceNatCast',R0,b125_1,h_4,eq_false hge];intro ht; subst ht;refine ai rfl (ei _ (ei _ (ai rfl ?_)));simp only[simprocAttr, -Int.reduceNatCast',R0,h_4,eq_false hge]
def I125_2(a0:Int)(x2:List Int)(x22:List (List Int))(v49_2:Int)(o1_2:(List (List Int)))(e:Env)(h:Heap):Prop:=
 ∃u25 k26:Nat,h=⟨[(0,none),(u25,some (o1_2.map enc))],k26⟩∧e.length=67∧e.at 0=V.int .i64 a0∧e.at 6=V.int .i64 (x2.length:Int)∧e.at 11=V.sl 1 u25 0 o1_2.length 1∧e.at 47=V.isl (x22.map enc)∧e.at 48=V.int .i64 (x22.length:Int)∧e.at 49=V.int .i64 v49_2
def P125_2(a0:Int)(x2:List Int)(x22:List (List Int))(zo1_2:(List (List Int)))(x:Ex)(e:Env)(h:Heap):Prop:=
 x= .normal∧∃u25 k26:Nat,h=⟨[(0,none),(u25,some (zo1_2.map enc))],k26⟩∧e.length=67∧e.at 0=V.int .i64 a0∧e.at 11=V.sl 1 u25 0 zo1_2.length 1
theorem l125_2(a0:Int)(x2:List Int)(x22:List (List Int)){lo:Int}{s:(List (List Int))}{t:(List (List Int))}(hF:forR lo (x22.length:Int) (F125_2_B a0 x2 x22) (F125_2_D a0 x2 x22) s=some t){e:Env}{h:Heap}(hI:I125_2 a0 x2 x22 lo s e h):W A c125_2 e h (P125_2 a0 x2 x22 t):=by
 show W A (.block 2 (.loop false b125_2)) e h _;rw[qm];refine qJ hF 2 (by obtain⟨_,_,rfl,_⟩:=hI; rfl) (I125_2 a0 x2 x22) hI ?_ ?_
 ·rintro v49_2 o1_2 e h ⟨u25,k26,rfl,h_24⟩ hlt hw o ho
  unfold F125_2_B at ho;obtain⟨x28,gx28,ho⟩:=bS ho;obtain⟨w29a,w29b⟩:=qh gx28;obtain⟨l30,gl30,ho⟩:=bS ho;have w31:jY 1 (V.isl (x28.map enc)) none (some (V.int .i64 (x2.length:Int)))=some (V.isl (l30.map enc)):=xP (α:=Int) One.one gl30 (.inl ⟨rfl,rfl⟩) (.inr rfl);obtain⟨x32,gx32,ho⟩:=bS ho;have w33:=s92 l30 gx32;cases x32 with
  |true=>
   rw[if_pos rfl]at ho;obtain⟨l34,gl34,ho⟩:=bS ho;have w35:jY 1 (V.isl (x28.map enc)) (some (V.int .i64 (x2.length:Int))) none=some (V.isl (l34.map enc)):=xP (α:=Int) One.one gl34 (.inr rfl) (.inl ⟨rfl,rfl⟩);obtain⟨l37,gl37,ho⟩:=bS ho;have w36:=fun a b c d e=> qD (α:=List Int) (n:=o1_2.length) (m:=1) (ds:=[V.isl (l34.map enc)]) gl37 (by first|rfl|simp) (by first|rfl|simp) rfl a b c d e;have w36l:=qR gl37;cases ho;simp only[simprocAttr,R0,b125_2, *];refine ai rfl (ei _ (ei _ (ai rfl ?_)));simp only[simprocAttr,R0, *]
  |false=>
   rw[if_neg wD]at ho;cases ho;simp only[simprocAttr,R0,b125_2, *];refine ai rfl (ei _ (ei _ (ai rfl ?_)));simp only[simprocAttr,R0, *]
 ·rintro v49_2 o1_2 e h ⟨u25,k26,rfl,h_24⟩ hge t1 ho
  unfold F125_2_D at ho;cases ho;simp only[simprocAttr,R0,b125_2, *];intro ht; subst ht;refine ai rfl (ei _ (ei _ (ai rfl ?_)));simp only[simprocAttr,R0, *]
theorem s125(a0:Int)(a1:List (List Int)){r:List (List Int)}(hF:F125 a0 a1=some r):ans A 125 [V.int .i64 a0,V.isl (a1.map enc)]=some (enc r):=by
 refine qA (f:=p125) rfl rfl rfl fun e hl he=>?_;have h0_0:e.at 0=V.int .i64 a0:=he 0 _ rfl;have h1_0:e.at 1=V.isl (a1.map enc):=he 1 _ rfl;have hl_0:e.length=67:=hl;clear he hl;have h_0:=ai hl_0 (ai h0_0 h1_0);show W A b125 e ⟨[],0⟩ _;unfold F125 at hF;by_cases c1:(a1.length:Int)=0
 ·rw[if_pos c1]at hF
  cases hF;simp only[simprocAttr,R0,b125, *];exact qd (by simp only[simprocAttr,R0,qe,p125,Rs.ev,qb, *])
 ·rw[if_neg c1]at hF
  obtain⟨x2,gx2,hF⟩:=bS hF;obtain⟨w3a,w3b⟩:=qh gx2;replace w3b:a1[0]? =some x2:=w3b;obtain⟨zo0_1,gt21,hF⟩:=bS hF;simp only[simprocAttr,R0,b125, *];refine W.mono (l125_1 a0 a1 x2 gt21 (ei _ (ei _ (ai rfl ?_)))) ?_
  ·simp only[simprocAttr,R0, *]
  rintro _ e _ ⟨rfl,u5,k6,rfl,h_7⟩;obtain⟨x22,gx22,hF⟩:=bS hF;have w23:=s133 a0 zo0_1 gx22;obtain⟨zo1_2,gt38,hF⟩:=bS hF;simp only[simprocAttr,R0,zk (α:=List Int) zo0_1, *];refine W.mono (l125_2 a0 x2 x22 gt38 (ei _ (ei _ (ai rfl ?_)))) ?_
  ·simp only[simprocAttr,R0,zk (α:=List Int) zo0_1, *]
  rintro _ e _ ⟨rfl,u25,k26,rfl,h_27⟩;obtain⟨x39,gx39,hF⟩:=bS hF;have w40:=s133 a0 zo1_2 gx39;cases hF;simp only[simprocAttr,R0,zk (α:=List Int) zo1_2, *];exact qd (by simp only[simprocAttr,R0,qe,p125,Rs.ev,qb,zk (α:=List Int) zo1_2, *])
def F100(a0:qa)(a1:Int):Option (List (List Int)):=
 if a1≤0 then
  (F102 a0 a1).bind fun x2=>
  (F124 x2).bind fun x4=>
  some x4
 else
  (F86 a0).bind fun x6=>
  if x6 < a1 then
   (F102 a0 a1).bind fun x9=>
   (F124 x9).bind fun x11=>
   some x11
  else
   (chk (a1 - 1)).bind fun x13=>
   (getI a0.Maps x13).bind fun x14=>
   (F125 a0.Prime x14).bind fun x16=>
   some x16
theorem s100(a0:qa)(a1:Int){r:List (List Int)}(hF:F100 a0 a1=some r):ans A 100 [(eC a0),V.int .i64 a1]=some (enc r):=by
 refine qA (f:=p100) rfl rfl rfl fun e hl he=>?_;have h0_0:e.at 0=(eC a0):=he 0 _ rfl;have h1_0:e.at 1=V.int .i64 a1:=he 1 _ rfl;have hl_0:e.length=26:=hl;clear he hl;have h_0:=ai hl_0 (ai h0_0 h1_0);show W A b100 e ⟨[],0⟩ _;unfold F100 at hF;by_cases c1:a1≤0
 ·rw[if_pos c1]at hF
  obtain⟨x2,gx2,hF⟩:=bS hF;have w3:=s102 a0 a1 gx2;obtain⟨x4,gx4,hF⟩:=bS hF;have w5:=s124 x2 gx4;cases hF;simp only[simprocAttr,R0,b100, *];exact qd (by simp only[simprocAttr,R0,qe,p100,Rs.ev,qb, *])
 ·rw[if_neg c1]at hF
  obtain⟨x6,gx6,hF⟩:=bS hF;have w7:=s86 a0 gx6;by_cases c8:x6 < a1
  ·rw[if_pos c8]at hF
   obtain⟨x9,gx9,hF⟩:=bS hF;have w10:=s102 a0 a1 gx9;obtain⟨x11,gx11,hF⟩:=bS hF;have w12:=s124 x9 gx11;cases hF;simp only[simprocAttr,R0,b100, *];exact qd (by simp only[simprocAttr,R0,qe,p100,Rs.ev,qb, *])
  ·rw[if_neg c8]at hF
   obtain⟨x13,gx13,hF⟩:=bS hF;have wx13:=qy gx13;obtain⟨x14,gx14,hF⟩:=bS hF;obtain⟨w15a,w15b⟩:=qh gx14;obtain⟨x16,gx16,hF⟩:=bS hF;have w17:=s125 a0.Prime x14 gx16;cases hF;simp only[simprocAttr,R0,b100, *];exact qd (by simp only[simprocAttr,R0,qe,p100,Rs.ev,qb, *])
def F186(a0:qa)(a1:Int):Option (List (List Int)):=
 if a1 < 0 then
  some ([]:List (List Int))
 else
  (F86 a0).bind fun x2=>
  if x2≤a1 then
   some ([]:List (List Int))
  else
   (getI a0.Maps a1).bind fun x5=>
   (F133 a0.Prime x5).bind fun x7=>
   some x7
theorem s186(a0:qa)(a1:Int){r:List (List Int)}(hF:F186 a0 a1=some r):ans A 186 [(eC a0),V.int .i64 a1]=some (enc r):=by
 refine qA (f:=p186) rfl rfl rfl fun e hl he=>?_;have h0_0:e.at 0=(eC a0):=he 0 _ rfl;have h1_0:e.at 1=V.int .i64 a1:=he 1 _ rfl;have hl_0:e.length=21:=hl;clear he hl;have h_0:=ai hl_0 (ai h0_0 h1_0);show W A b186 e ⟨[],0⟩ _;unfold F186 at hF;by_cases c1:a1 < 0
 ·rw[if_pos c1]at hF
  cases hF;simp only[simprocAttr,R0,b186, *];exact qd (by simp only[simprocAttr,R0,qe,p186,Rs.ev,qb, *])
 ·rw[if_neg c1]at hF
  obtain⟨x2,gx2,hF⟩:=bS hF;have w3:=s86 a0 gx2;by_cases c4:x2≤a1
  ·rw[if_pos c4]at hF
   cases hF;simp only[simprocAttr,R0,b186, *];exact qd (by simp only[simprocAttr,R0,qe,p186,Rs.ev,qb, *])
  ·rw[if_neg c4]at hF
   obtain⟨x5,gx5,hF⟩:=bS hF;obtain⟨w6a,w6b⟩:=qh gx5;obtain⟨x7,gx7,hF⟩:=bS hF;have w8:=s133 a0.Prime x5 gx7;cases hF;simp only[simprocAttr,R0,b186, *];exact qd (by simp only[simprocAttr,R0,qe,p186,Rs.ev,qb, *])
def F168(a0:qa)(a1:Int):Option Int:=
 (F100 a0 a1).bind fun x1=>
 (F186 a0 a1).bind fun x5=>
 (chk ((x1.length:Int) - (x5.length:Int))).bind fun x9=>
 some x9
theorem s168(a0:qa)(a1:Int){r:Int}(hF:F168 a0 a1=some r):ans A 168 [(eC a0),V.int .i64 a1]=some (enc r):=by
 refine qA (f:=p168) rfl rfl rfl fun e hl he=>?_;have h0_0:e.at 0=(eC a0):=he 0 _ rfl;have h1_0:e.at 1=V.int .i64 a1:=he 1 _ rfl;have hl_0:e.length=14:=hl;clear he hl;show W A b168 e ⟨[],0⟩ _;unfold F168 at hF;obtain⟨x1,gx1,hF⟩:=bS hF;have w2:=s100 a0 a1 gx1;have w4:=s89 x1 rfl;obtain⟨x5,gx5,hF⟩:=bS hF;have w6:=s186 a0 a1 gx5;have w8:=s89 x5 rfl;obtain⟨x9,gx9,hF⟩:=bS hF;have wx9:=qy gx9;cases hF;simp only[simprocAttr,R0,b168, *];exact qd (by simp only[simprocAttr,R0,qe,p168,Rs.ev,qb, *])
def F149_1_B(a0:qa)(v13_1:Int)(o1_1:(List Int)):Option (((List Int))⊕((List Int))):=
 (F168 a0 v13_1).bind fun x9=>
(app 8 o1_1 [x9]).bind fun l12=>
some (.inl l12)
def F149_1_D(a0:qa)(v13_1:Int)(o1_1:(List Int)):Option ((List Int)):=
 some o1_1
def F149(a0:qa):Option (T2 (List Int) Int):=
 (F42 a0).bind fun x1=>
 if x1=true then
  (forR 0 (a0.Dims.length:Int) (F149_1_B a0) (F149_1_D a0) ([]:(List Int))).bind fun zo1_1=>
  some ⟨zo1_1,0⟩
 else
  some ⟨([]:List Int),1⟩
def I149_1(a0:qa)(v13_1:Int)(o1_1:(List Int))(e:Env)(h:Heap):Prop:=
 ∃u6 k7:Nat,h=⟨[(0,none),(u6,some (o1_1.map enc))],k7⟩∧e.length=24∧e.at 1=V.iptr [V.int .i64 a0.Prime,V.isl (a0.Dims.map enc),V.isl (a0.Maps.map enc)]∧e.at 4=V.sl 1 u6 0 o1_1.length 1∧e.at 12=V.int .i64 (a0.Dims.length:Int)∧e.at 13=V.int .i64 v13_1
def P149_1(a0:qa)(zo1_1:(List Int))(x:Ex)(e:Env)(h:Heap):Prop:=
 x= .normal∧∃u6 k7:Nat,h=⟨[(0,none),(u6,some (zo1_1.map enc))],k7⟩∧e.length=24∧e.at 4=V.sl 1 u6 0 zo1_1.length 1
theorem l149_1(a0:qa){lo:Int}{s:(List Int)}{t:(List Int)}(hF:forR lo (a0.Dims.length:Int) (F149_1_B a0) (F149_1_D a0) s=some t){e:Env}{h:Heap}(hI:I149_1 a0 lo s e h):W A c149_1 e h (P149_1 a0 t):=by
 show W A (.block 0 (.loop false b149_1)) e h _;rw[qm];refine qJ hF 2 (by obtain⟨_,_,rfl,_⟩:=hI; rfl) (I149_1 a0) hI ?_ ?_
 ·rintro v13_1 o1_1 e h ⟨u6,k7,rfl,h_5⟩ hlt hw o ho
  unfold F149_1_B at ho;obtain⟨x9,gx9,ho⟩:=bS ho;have w10:=s168 a0 v13_1 gx9;obtain⟨l12,gl12,ho⟩:=bS ho;have w11:=fun a b c d e=> qD (α:=Int) (n:=o1_1.length) (m:=1) (ds:=[V.int .i64 x9]) gl12 (by first|rfl|simp) (by first|rfl|simp) rfl a b c d e;have w11l:=qR gl12;cases ho;simp only[simprocAttr,R0,b149_1, *];refine ai rfl (ei _ (ei _ (ai rfl ?_)));simp only[simprocAttr,R0, *]
 ·rintro v13_1 o1_1 e h ⟨u6,k7,rfl,h_5⟩ hge t1 ho
  unfold F149_1_D at ho;cases ho;simp only[simprocAttr,R0,b149_1, *];intro ht; subst ht;refine ai rfl (ei _ (ei _ (ai rfl ?_)));simp only[simprocAttr,R0, *]
theorem s149(a0:qa){r:T2 (List Int) Int}(hF:F149 a0=some r):ans A 149 [(eC a0)]=some (EncR.enc r):=by
 refine qA (f:=p149) rfl rfl rfl fun e hl he=>?_;have h0_0:e.at 0=(eC a0):=he 0 _ rfl;have hl_0:e.length=24:=hl;clear he hl;have h_0:=ai hl_0 h0_0;show W A b149 e ⟨[],0⟩ _;unfold F149 at hF;obtain⟨x1,gx1,hF⟩:=bS hF;have w2:=s42 a0 gx1;cases x1 with
 |true=>
  rw[if_pos rfl]at hF;have w4:=s73 a0.Dims rfl;obtain⟨zo1_1,gt13,hF⟩:=bS hF;simp only[simprocAttr,R0,b149, *];refine W.mono (l149_1 a0 gt13 (ei _ (ei _ (ai rfl ?_)))) ?_
  ·simp only[simprocAttr,R0, *]
  rintro _ e _ ⟨rfl,u6,k7,rfl,h_8⟩;cases hF;simp only[simprocAttr,R0, *];exact qd (by simp only[simprocAttr,R0,qe,p149,Rs.ev,qb,frzs (α:=Int) zo1_1,zk (α:=Int) zo1_1, *])
 |false=>
  rw[if_neg wD]at hF;cases hF;simp only[simprocAttr,R0,b149, *];exact qd (by simp only[simprocAttr,R0,qe,p149,Rs.ev,qb, *])
def F150_1_B(a0:List Int)(v4_1:Int)(v3_1:Int):Option ((Int)⊕(Int)):=
 (getI a0 v4_1).bind fun x4=>
(chk (v3_1+x4)).bind fun x6=>
some (.inl x6)
def F150_1_D(a0:List Int)(v4_1:Int)(v3_1:Int):Option (Int):=
 some v3_1
def F150(a0:List Int):Option Int:=
 (forR 0 (a0.length:Int) (F150_1_B a0) (F150_1_D a0) 0).bind fun zv3_1=>
 some zv3_1
def I150_1(a0:List Int)(v4_1:Int)(v3_1:Int)(e:Env)(h:Heap):Prop:=
 ∃k2:Nat,h=⟨[],k2⟩∧e.length=18∧e.at 0=V.isl (a0.map enc)∧e.at 3=V.int .i64 v3_1∧e.at 4=V.int .i64 v4_1
def P150_1(a0:List Int)(zv3_1:Int)(x:Ex)(e:Env)(h:Heap):Prop:=
 x= .normal∧∃k2:Nat,h=⟨[],k2⟩∧e.length=18∧e.at 3=V.int .i64 zv3_1
theorem l150_1(a0:List Int){lo:Int}{s:Int}{t:Int}(hF:forR lo (a0.length:Int) (F150_1_B a0) (F150_1_D a0) s=some t){e:Env}{h:Heap}(hI:I150_1 a0 lo s e h):W A c150_1 e h (P150_1 a0 t):=by
 show W A (.block 0 (.loop false b150_1)) e h _;rw[qm];refine qJ hF 0 (by obtain⟨_,rfl,_⟩:=hI; rfl) (I150_1 a0) hI ?_ ?_
 ·rintro v4_1 v3_1 e h ⟨k2,rfl,h_1⟩ hlt hw o ho
  unfold F150_1_B at ho;obtain⟨x4,gx4,ho⟩:=bS ho;obtain⟨w5a,w5b⟩:=qh gx4;obtain⟨x6,gx6,ho⟩:=bS ho;have wx6:=qy gx6;cases ho;simp only[simprocAttr,R0,b150_1, *];refine ai rfl (ei _ (ai rfl ?_));simp only[simprocAttr,R0, *]
 ·rintro v4_1 v3_1 e h ⟨k2,rfl,h_1⟩ hge t1 ho
  unfold F150_1_D at ho;cases ho;simp only[simprocAttr,R0,b150_1, *];intro ht; subst ht;refine ai rfl (ei _ (ai rfl ?_));simp only[simprocAttr,R0, *]
theorem s150(a0:List Int){r:Int}(hF:F150 a0=some r):ans A 150 [V.isl (a0.map enc)]=some (enc r):=by
 refine qA (f:=p150) rfl rfl rfl fun e hl he=>?_;have h0_0:e.at 0=V.isl (a0.map enc):=he 0 _ rfl;have hl_0:e.length=18:=hl;clear he hl;show W A b150 e ⟨[],0⟩ _;unfold F150 at hF;obtain⟨zv3_1,gt7,hF⟩:=bS hF;simp only[simprocAttr,R0,b150, *];refine W.mono (l150_1 a0 gt7 (ei _ (ai rfl ?_))) ?_
 ·simp only[simprocAttr,R0, *]
 rintro _ e _ ⟨rfl,k2,rfl,h_3⟩;cases hF;simp only[simprocAttr,R0, *];exact qd (by simp only[simprocAttr,R0,qe,p150,Rs.ev,qb, *])
def F156_1_B(a0:List Int)(a1:List Int)(v5_1:Int)(s:Unit):Option ((Unit)⊕((Unit)⊕Bool)):=
 (getI a0 v5_1).bind fun x5=>
(getI a1 v5_1).bind fun x7=>
if x5=x7 then
 some (.inl ())
else
 some (.inr (.inr false))
def F156_1_D(a0:List Int)(a1:List Int)(v5_1:Int)(s:Unit):Option ((Unit)⊕Bool):=
 some (.inl ())
def F156(a0:List Int)(a1:List Int):Option Bool:=
 if(a0.length:Int)=(a1.length:Int)then
  (forR 0 (a0.length:Int) (F156_1_B a0 a1) (F156_1_D a0 a1) ()).bind fun t10=> match t10 with
   | .inl _=>
    some true
   | .inr r11=> some r11
 else
  some false
def I156_1(a0:List Int)(a1:List Int)(v5_1:Int)(s:Unit)(e:Env)(h:Heap):Prop:=
 ∃k3:Nat,h=⟨[],k3⟩∧e.length=26∧e.at 0=V.isl (a0.map enc)∧e.at 1=V.isl (a1.map enc)∧e.at 5=V.int .i64 v5_1
def P156_1(a0:List Int)(a1:List Int)(t:(Unit)⊕Bool)(x:Ex)(e:Env)(h:Heap):Prop:=
 match t with
 | .inl _=> x= .normal∧∃k3:Nat,h=⟨[],k3⟩∧e.length=26
 | .inr r=> x= .ret∧Fin p156 (enc r) .ret e h
theorem l156_1(a0:List Int)(a1:List Int){lo:Int}{s:Unit}{t:(Unit)⊕Bool}(hF:forR lo (a0.length:Int) (F156_1_B a0 a1) (F156_1_D a0 a1) s=some t){e:Env}{h:Heap}(hI:I156_1 a0 a1 lo s e h):W A c156_1 e h (P156_1 a0 a1 t):=by
 show W A (.block 0 (.loop false b156_1)) e h _;rw[qm];refine qJ hF 0 (by obtain⟨_,rfl,_⟩:=hI; rfl) (I156_1 a0 a1) hI ?_ ?_
 ·rintro v5_1 _ e h ⟨k3,rfl,h_2⟩ hlt hw o ho
  unfold F156_1_B at ho;obtain⟨x5,gx5,ho⟩:=bS ho;obtain⟨w6a,w6b⟩:=qh gx5;obtain⟨x7,gx7,ho⟩:=bS ho;obtain⟨w8a,w8b⟩:=qh gx7;by_cases c9:x5=x7
  ·rw[if_pos c9]at ho
   cases ho;simp only[simprocAttr,R0,b156_1, *];refine ai rfl (ei _ (ai rfl ?_));simp only[simprocAttr,R0, *]
  ·rw[if_neg c9]at ho
   cases ho;simp only[simprocAttr,R0,b156_1, *];intro ht; subst ht;simp only[simprocAttr,RR,RB];exact ai rfl (qd (by simp only[simprocAttr,R0,qe,p156,Rs.ev,qb, *]))
 ·rintro v5_1 _ e h ⟨k3,rfl,h_2⟩ hge t1 ho
  unfold F156_1_D at ho;cases ho;simp only[simprocAttr,R0,b156_1, *];intro ht; subst ht;refine ai rfl (ei _ (ai rfl ?_));simp only[simprocAttr,R0, *]
theorem s156(a0:List Int)(a1:List Int){r:Bool}(hF:F156 a0 a1=some r):ans A 156 [V.isl (a0.map enc),V.isl (a1.map enc)]=some (enc r):=by
 refine qA (f:=p156) rfl rfl rfl fun e hl he=>?_;have h0_0:e.at 0=V.isl (a0.map enc):=he 0 _ rfl;have h1_0:e.at 1=V.isl (a1.map enc):=he 1 _ rfl;have hl_0:e.length=26:=hl;clear he hl;have h_0:=ai hl_0 (ai h0_0 h1_0);show W A b156 e ⟨[],0⟩ _;unfold F156 at hF;by_cases c1:(a0.length:Int)=(a1.length:Int)
 ·rw[if_pos c1]at hF
  obtain⟨t10,gt10,hF⟩:=bS hF;rcases t10 with _|r11
  ·dsimp only at hF
   simp only[simprocAttr,R0,b156, *];refine W.mono (l156_1 a0 a1 gt10 (ei _ (ai rfl ?_))) ?_
   ·simp only[simprocAttr,R0, *]
   rintro _ e _ ⟨rfl,k3,rfl,hl_4⟩;cases hF;simp only[simprocAttr,R0, *];exact qd (by simp only[simprocAttr,R0,qe,p156,Rs.ev,qb, *])
  ·dsimp only at hF
   cases hF;simp only[simprocAttr,R0,b156, *];refine W.mono (l156_1 a0 a1 gt10 (ei _ (ai rfl ?_))) ?_
   ·simp only[simprocAttr,R0, *]
   rintro _ e h ⟨rfl,hq⟩;simp only[simprocAttr,RR,RB];exact hq
 ·rw[if_neg c1]at hF
  cases hF;simp only[simprocAttr,R0,b156, *];exact qd (by simp only[simprocAttr,R0,qe,p156,Rs.ev,qb, *])
def F405_S(code:List U8)(s:Int×Int):Option ((Int×Int)⊕Int):=
 if s.1 < (code.length:Int)then
  if s.1 < 4096 then(getI code s.1).bind fun b=>(chk (s.1+1)).bind fun j=> some (.inl (j,Go.IntKind.wrap .u64 (Go.IntKind.wrap .u64 (Go.IntKind.wrap .u64 (s.2*1099511628211)+Go.IntKind.wrap .u64 b.val)+89)))
  else some (.inr s.2)
 else some (.inr s.2)
noncomputable def F405(code:List U8):Option qi:=(ze (F405_S code) (0,Go.IntKind.wrap .u64 (12731+Go.IntKind.wrap .u64 (code.length:Int)))).bind fun h=> some ⟨code,0,h⟩
theorem d405(code:List U8){r:qi}(hF:F405 code=some r)(E:List (Nat×Option (List V)))(c:Nat):∃h',res A 405 [V.isl (code.map enc)] ⟨E,c⟩=some (V.ptr E.length c 0,h')∧h'=⟨E++[(c,some [V.isl (r.code.map enc),V.int .i64 r.at_,V.int .u64 r.hash])],c+1⟩:=by
 refine res_ex (f:=p405) rfl rfl rfl fun e hl he=>?_;have h0_0:e.at 0=V.isl (code.map enc):=he 0 _ rfl;have hl_0:e.length=38:=hl;clear he hl;show W A b405 e ⟨E,c⟩ _;unfold F405 at hF;obtain⟨hh,gh,hF⟩:=bS hF;have hE:=wA hF; subst hE;simp only[simprocAttr, -Int.reduceNatCast',R0,b405, *];refine W.mono (Q:=fun x' e h=> x'= .normal∧h=⟨E++[(c,some [V.isl (code.map enc),V.int .i64 0,V.int .u64 hh])],c+1⟩∧e.length=38∧e.at 3=V.ptr E.length c 0) ?_ ?_
 ·show W A (.block 0 (.loop true b405_1)) _ _ _
  rw[qm];refine jG gh _ rfl (fun s e h=> h=⟨E++[(c,some [V.isl (code.map enc),V.int .i64 0,V.int .u64 s.2])],c+1⟩∧e.length=38∧e.at 0=V.isl (code.map enc)∧e.at 3=V.ptr E.length c 0∧e.at 4=V.int .i64 s.1) ?_ ?_
  ·refine ai rfl ?_
   simp only[simprocAttr, -Int.reduceNatCast',R0, *]
  ·clear hl_0 h0_0
   rintro⟨i,q⟩ e h ⟨rfl,hl_1,h0_1,h3_1,h4_1⟩ o ho;simp only at h4_1;unfold F405_S at ho;simp only at ho;by_cases c1:i < (code.length:Int)
   ·rw[if_pos c1]at ho
    by_cases c2:i < 4096
    ·rw[if_pos c2]at ho
     obtain⟨b,gb,ho⟩:=bS ho;obtain⟨wb1,wb2⟩:=qh gb;obtain⟨j,gj,ho⟩:=bS ho;have wj:=qy gj;have hE:=wA ho; subst hE;simp only[simprocAttr, -Int.reduceNatCast',R0,b405_1,qB,jw, *];refine ai rfl (ai rfl ?_);simp only[simprocAttr, -Int.reduceNatCast',R0, *]
    ·rw[if_neg c2]at ho
     have hE:=wA ho; subst hE;simp only[simprocAttr, -Int.reduceNatCast',R0,b405_1, *];intro ht; subst ht;simp only[simprocAttr, -Int.reduceNatCast',R0, *]
   ·rw[if_neg c1]at ho
    have hE:=wA ho; subst hE;simp only[simprocAttr, -Int.reduceNatCast',R0,b405_1, *];intro ht; subst ht;simp only[simprocAttr, -Int.reduceNatCast',R0, *]
 ·rintro _ e h ⟨rfl,rfl,hl_2,h3_2⟩
  simp only[simprocAttr, -Int.reduceNatCast',R0, *];refine ai (fun _=> trivial) ?_;simp only[simprocAttr, -Int.reduceNatCast',R0,qe,p405,Rs.ev, *]
def F416(src:qi)(a1:Int):Option (T2 Int qi):=
 if a1 < 1 then
  some ⟨0,src⟩
 else
  (chk (Go.IntKind.wrap .u64 (BitVec.ofInt (Go.IntKind.bits .u64) (Int.fdiv (Go.IntKind.wrap .u64 ((Go.IntKind.wrap .u64 (src.hash*6364136223846793005))+1442695040888963407)) (2^min 33 (Go.IntKind.bits .u64)))&&& BitVec.ofInt (Go.IntKind.bits .u64) 16777215).toNat)).bind fun x2=>
  if src.at_ < (src.code.length:Int)then
   (getI src.code src.at_).bind fun x4=>
   (chk x4.val).bind fun x6=>
   (chk (x2+x6)).bind fun x7=>
   (chk (src.at_+1)).bind fun x8=>
   (remI x7 a1).bind fun x9=>
   some ⟨x9,⟨src.code,x8,Go.IntKind.wrap .u64 ((Go.IntKind.wrap .u64 (src.hash*6364136223846793005))+1442695040888963407)⟩⟩
  else
   (remI x2 a1).bind fun x11=>
   some ⟨x11,⟨src.code,src.at_,Go.IntKind.wrap .u64 ((Go.IntKind.wrap .u64 (src.hash*6364136223846793005))+1442695040888963407)⟩⟩
theorem s416(src:qi)(a1:Int){r:T2 Int qi}(hF:F416 src a1=some r):xans A 416 [V.isl (src.code.map enc),V.int .i64 src.at_,V.int .u64 src.hash] [V.int .i64 a1]=some (V.int .i64 r.a,[V.isl (r.b.code.map enc),V.int .i64 r.b.at_,V.int .u64 r.b.hash]):=by
 refine xN (f:=p416) rfl rfl rfl fun e hl h0 he=>?_;have h0_0:e.at 0=V.ptr 0 0 0:=h0;have h1_0:e.at 1=V.int .i64 a1:=he 0 _ rfl;have hl_0:e.length=58:=hl;clear h0 he hl;show W A b416 e ⟨[(0,some [V.isl (src.code.map enc),V.int .i64 src.at_,V.int .u64 src.hash])],1⟩ _;unfold F416 at hF;by_cases c1:a1 < 1
 ·rw[if_pos c1]at hF
  cases hF;simp only[simprocAttr,R0,b416, *];exact zp (by simp only[simprocAttr,R0,qe,p416,Rs.ev,qb, *])
 ·rw[if_neg c1]at hF
  obtain⟨x2,gx2,hF⟩:=bS hF;have wx2:=qy gx2;by_cases c3:src.at_ < (src.code.length:Int)
  ·rw[if_pos c3]at hF
   obtain⟨x4,gx4,hF⟩:=bS hF;obtain⟨w5a,w5b⟩:=qh gx4;obtain⟨x6,gx6,hF⟩:=bS hF;have wx6:=qy gx6;obtain⟨x7,gx7,hF⟩:=bS hF;have wx7:=qy gx7;obtain⟨x8,gx8,hF⟩:=bS hF;have wx8:=qy gx8;obtain⟨x9,gx9,hF⟩:=bS hF;obtain⟨w10a,w10b⟩:=rem_w gx9;cases hF;simp only[simprocAttr,R0,b416,binV_shr33,binV_and64, *];exact zp (by simp only[simprocAttr,R0,qe,p416,Rs.ev,qb,binV_shr33,binV_and64, *])
  ·rw[if_neg c3]at hF
   obtain⟨x11,gx11,hF⟩:=bS hF;obtain⟨w12a,w12b⟩:=rem_w gx11;cases hF;simp only[simprocAttr,R0,b416,binV_shr33,binV_and64, *];exact zp (by simp only[simprocAttr,R0,qe,p416,Rs.ev,qb,binV_shr33,binV_and64, *])
def F412(src:qi)(a1:List Int):Option (T2 Int qi):=
 (F416 src (a1.length:Int)).bind fun x1=>
 (getI a1 x1.a).bind fun x3=>
 some ⟨x3,x1.b⟩
theorem s412(src:qi)(a1:List Int){r:T2 Int qi}(hF:F412 src a1=some r):xans A 412 [V.isl (src.code.map enc),V.int .i64 src.at_,V.int .u64 src.hash] [V.isl (a1.map enc)]=some (V.int .i64 r.a,[V.isl (r.b.code.map enc),V.int .i64 r.b.at_,V.int .u64 r.b.hash]):=by
 refine xN (f:=p412) rfl rfl rfl fun e hl h0 he=>?_;have h0_0:e.at 0=V.ptr 0 0 0:=h0;have h1_0:e.at 1=V.isl (a1.map enc):=he 0 _ rfl;have hl_0:e.length=12:=hl;clear h0 he hl;show W A b412 e ⟨[(0,some [V.isl (src.code.map enc),V.int .i64 src.at_,V.int .u64 src.hash])],1⟩ _;unfold F412 at hF;obtain⟨x1,gx1,hF⟩:=bS hF;have w2:xans A 416 [V.isl (src.code.map enc),V.int .i64 src.at_,V.int .u64 src.hash] [V.int .i64 (a1.length:Int)]=some (V.int .i64 x1.a,[V.isl (x1.b.code.map enc),V.int .i64 x1.b.at_,V.int .u64 x1.b.hash]):=s416 src (a1.length:Int) gx1;obtain⟨x3,gx3,hF⟩:=bS hF;obtain⟨w4a,w4b⟩:=qh gx3;cases hF;simp only[simprocAttr,R0,b412,qf, *];exact zp (by simp only[simprocAttr,R0,qe,p412,Rs.ev,qb,qf, *])
def F80_2_S(a0:Int)(a1:List (List Int))(a2:List Int)(v10_1:Int)(s:(List Int)×Int):Option (((List Int)×Int)⊕((List Int))):=
 match s with
 |(o0_2,v11_2)=>
  if v11_2 < ((o0_2.length:Nat):Int)then
   (getI o0_2 v11_2).bind fun x12=>
   (getI a2 v10_1).bind fun x14=>
   (getI a1 v10_1).bind fun x16=>
   (getI x16 v11_2).bind fun x18=>
   (chk (x14*x18)).bind fun x20=>
   (chk (x12+x20)).bind fun x21=>
   (remI x21 a0).bind fun x22=>
   (setI o0_2 v11_2 x22).bind fun l24=>
   (chk (v11_2+1)).bind fun x26=>
   some (.inl (l24,x26))
  else
   some (.inr o0_2)
def F80_1_B(a0:Int)(a1:List (List Int))(a2:List Int)(v10_1:Int)(o0_1:(List Int)):Option (((List Int))⊕((List Int))):=
 (ze (F80_2_S a0 a1 a2 v10_1) (o0_1,0)).bind fun zo0_2=>
some (.inl zo0_2)
def F80_1_D(a0:Int)(a1:List (List Int))(a2:List Int)(v10_1:Int)(o0_1:(List Int)):Option ((List Int)):=
 some o0_1
def F80(a0:Int)(a1:List (List Int))(a2:List Int)(a3:Int):Option (List Int):=
 (mkL 8 a3 0).bind fun l1=>
 (forR 0 (a2.length:Int) (F80_1_B a0 a1 a2) (F80_1_D a0 a1 a2) l1).bind fun zo0_1=>
 some zo0_1
def I80_2(a0:Int)(a1:List (List Int))(a2:List Int)(v10_1:Int)(s:(List Int)×Int)(e:Env)(h:Heap):Prop:=
 match s with
 |(o0_2,v11_2)=>
  ∃u8 k9:Nat,h=⟨[(u8,some (o0_2.map enc))],k9⟩∧e.length=49∧e.at 0=V.int .i64 a0∧e.at 1=V.isl (a1.map enc)∧e.at 2=V.isl (a2.map enc)∧e.at 9=V.sl 0 u8 0 o0_2.length 1∧e.at 10=V.int .i64 v10_1∧e.at 11=V.int .i64 v11_2
def P80_2(a0:Int)(a1:List (List Int))(a2:List Int)(v10_1:Int)(zo0_2:(List Int))(x:Ex)(e:Env)(h:Heap):Prop:=
 x= .normal∧∃u8 k9:Nat,h=⟨[(u8,some (zo0_2.map enc))],k9⟩∧e.length=49∧e.at 0=V.int .i64 a0∧e.at 1=V.isl (a1.map enc)∧e.at 2=V.isl (a2.map enc)∧e.at 9=V.sl 0 u8 0 zo0_2.length 1∧e.at 10=V.int .i64 v10_1
theorem l80_2(a0:Int)(a1:List (List Int))(a2:List Int)(v10_1:Int){s:(List Int)×Int}{t:(List Int)}(hF:ze (F80_2_S a0 a1 a2 v10_1) s=some t){e:Env}{h:Heap}(hI:I80_2 a0 a1 a2 v10_1 s e h):W A c80_2 e h (P80_2 a0 a1 a2 v10_1 t):=by
 show W A (.block 2 (.loop false b80_2)) e h _;rw[qm];refine jG hF 1 (by rcases s with⟨_,_⟩; obtain⟨_,_,rfl,_⟩:=hI; rfl) (I80_2 a0 a1 a2 v10_1) hI ?_
 ·rintro⟨o0_2,v11_2⟩ e h ⟨u8,k9,rfl,h_7⟩ o ho
  unfold F80_2_S at ho;dsimp only at ho;by_cases c11:v11_2 < ((o0_2.length:Nat):Int)
  ·rw[if_pos c11]at ho
   obtain⟨x12,gx12,ho⟩:=bS ho;obtain⟨w13a,w13b⟩:=qh gx12;have w13c:=qY gx12;have w13d:List.drop (Int.toNat v11_2) (o0_2.map enc)=(V.int .i64 x12)::List.drop ((Int.toNat v11_2)+1) (o0_2.map enc):=drop_enc w13b;obtain⟨x14,gx14,ho⟩:=bS ho;obtain⟨w15a,w15b⟩:=qh gx14;obtain⟨x16,gx16,ho⟩:=bS ho;obtain⟨w17a,w17b⟩:=qh gx16;obtain⟨x18,gx18,ho⟩:=bS ho;obtain⟨w19a,w19b⟩:=qh gx18;obtain⟨x20,gx20,ho⟩:=bS ho;have wx20:=qy gx20;obtain⟨x21,gx21,ho⟩:=bS ho;have wx21:=qy gx21;obtain⟨x22,gx22,ho⟩:=bS ho;obtain⟨w23a,w23b⟩:=rem_w gx22;obtain⟨l24,gl24,ho⟩:=bS ho;obtain⟨w25a,w25b,w25c,w25d,w25e⟩:=xp gl24;replace w25e:List.take (Int.toNat v11_2) (o0_2.map enc)++[V.int .i64 x22]++List.drop (Int.toNat v11_2+1) (o0_2.map enc)=List.map enc l24:=w25e;obtain⟨x26,gx26,ho⟩:=bS ho;have wx26:=qy gx26;cases ho;simp only[simprocAttr,R0,b80_2, *];refine ai rfl (ei _ (ei _ (ai rfl ?_)));simp only[simprocAttr,R0, *]
  ·rw[if_neg c11]at ho
   cases ho;simp only[simprocAttr,R0,b80_2, *];intro ht; subst ht;simp only[simprocAttr,RR,RB];refine ai rfl (ei _ (ei _ (ai rfl ?_)));simp only[simprocAttr,R0, *]
def I80_1(a0:Int)(a1:List (List Int))(a2:List Int)(v10_1:Int)(o0_1:(List Int))(e:Env)(h:Heap):Prop:=
 ∃u4 k5:Nat,h=⟨[(u4,some (o0_1.map enc))],k5⟩∧e.length=49∧e.at 0=V.int .i64 a0∧e.at 1=V.isl (a1.map enc)∧e.at 2=V.isl (a2.map enc)∧e.at 9=V.sl 0 u4 0 o0_1.length 1∧e.at 10=V.int .i64 v10_1
def P80_1(a0:Int)(a1:List (List Int))(a2:List Int)(zo0_1:(List Int))(x:Ex)(e:Env)(h:Heap):Prop:=
 x= .normal∧∃u4 k5:Nat,h=⟨[(u4,some (zo0_1.map enc))],k5⟩∧e.length=49∧e.at 9=V.sl 0 u4 0 zo0_1.length 1
theorem l80_1(a0:Int)(a1:List (List Int))(a2:List Int){lo:Int}{s:(List Int)}{t:(List Int)}(hF:forR lo (a2.length:Int) (F80_1_B a0 a1 a2) (F80_1_D a0 a1 a2) s=some t){e:Env}{h:Heap}(hI:I80_1 a0 a1 a2 lo s e h):W A c80_1 e h (P80_1 a0 a1 a2 t):=by
 show W A (.block 0 (.loop false b80_1)) e h _;rw[qm];refine qJ hF 1 (by obtain⟨_,_,rfl,_⟩:=hI; rfl) (I80_1 a0 a1 a2) hI ?_ ?_
 ·rintro v10_1 o0_1 e h ⟨u4,k5,rfl,h_3⟩ hlt hw o ho
  unfold F80_1_B at ho;obtain⟨zo0_2,gt27,ho⟩:=bS ho;simp only[simprocAttr,R0,b80_1, *];refine W.mono (l80_2 a0 a1 a2 v10_1 gt27 (ei _ (ei _ (ai rfl ?_)))) ?_
  ·simp only[simprocAttr,R0, *]
  rintro _ e _ ⟨rfl,u8,k9,rfl,h_10⟩;cases ho;simp only[simprocAttr,R0, *];refine ai rfl (ei _ (ei _ (ai rfl ?_)));simp only[simprocAttr,R0, *]
 ·rintro v10_1 o0_1 e h ⟨u4,k5,rfl,h_3⟩ hge t1 ho
  unfold F80_1_D at ho;cases ho;simp only[simprocAttr,R0,b80_1, *];intro ht; subst ht;refine ai rfl (ei _ (ei _ (ai rfl ?_)));simp only[simprocAttr,R0, *]
theorem s80(a0:Int)(a1:List (List Int))(a2:List Int)(a3:Int){r:List Int}(hF:F80 a0 a1 a2 a3=some r):ans A 80 [V.int .i64 a0,V.isl (a1.map enc),V.isl (a2.map enc),V.int .i64 a3]=some (enc r):=by
 refine qA (f:=p80) rfl rfl rfl fun e hl he=>?_;have h0_0:e.at 0=V.int .i64 a0:=he 0 _ rfl;have h1_0:e.at 1=V.isl (a1.map enc):=he 1 _ rfl;have h2_0:e.at 2=V.isl (a2.map enc):=he 2 _ rfl;have h3_0:e.at 3=V.int .i64 a3:=he 3 _ rfl;have hl_0:e.length=49:=hl;clear he hl;show W A b80 e ⟨[],0⟩ _;unfold F80 at hF;obtain⟨l1,gl1,hF⟩:=bS hF;obtain⟨w2a,w2b,w2c,w2d,w2e⟩:=mkL_w gl1;replace w2e:(List.replicate (Int.toNat a3) [V.int .i64 0]).flatten=List.map enc l1:=w2e;obtain⟨zo0_1,gt28,hF⟩:=bS hF;simp only[simprocAttr, -Int.reduceNatCast',R0,b80, *];refine W.mono (l80_1 a0 a1 a2 gt28 (ei _ (ei _ (ai rfl ?_)))) ?_
 ·simp only[simprocAttr, -Int.reduceNatCast',R0, *]
 rintro _ e _ ⟨rfl,u4,k5,rfl,hl_6,h9_6⟩;have hE:=wA hF; subst hE;simp only[simprocAttr, -Int.reduceNatCast',R0, *];exact qd (by simp only[simprocAttr, -Int.reduceNatCast',R0,qe,p80,Rs.ev,qb,frzs (α:=Int) zo0_1,zk (α:=Int) zo0_1, *])
theorem t80(a0:Int)(a1:List (List Int))(a2:List Int)(a3:Int){r:List Int}(hF:F80 a0 a1 a2 a3=some r):tans A 80 [1] [V.int .i64 a0,V.isl (a1.map enc),V.isl (a2.map enc),V.int .i64 a3]=some (enc r):=by
 refine tans_of (f:=p80) rfl rfl rfl fun e hl he=>?_;have h0_0:e.at 0=V.int .i64 a0:=he 0 _ rfl;have h1_0:e.at 1=V.isl (a1.map enc):=he 1 _ rfl;have h2_0:e.at 2=V.isl (a2.map enc):=he 2 _ rfl;have h3_0:e.at 3=V.int .i64 a3:=he 3 _ rfl;have hl_0:e.length=49:=hl;clear he hl;show W A b80 e ⟨[],0⟩ _;unfold F80 at hF;obtain⟨l1,gl1,hF⟩:=bS hF;obtain⟨w2a,w2b,w2c,w2d,w2e⟩:=mkL_w gl1;replace w2e:(List.replicate (Int.toNat a3) [V.int .i64 0]).flatten=List.map enc l1:=w2e;obtain⟨zo0_1,gt28,hF⟩:=bS hF;simp only[simprocAttr, -Int.reduceNatCast',R0,b80, *];refine W.mono (l80_1 a0 a1 a2 gt28 (ei _ (ei _ (ai rfl ?_)))) ?_
 ·simp only[simprocAttr, -Int.reduceNatCast',R0, *]
 rintro _ e _ ⟨rfl,u4,k5,rfl,hl_6,h9_6⟩;have hE:=wA hF; subst hE;simp only[simprocAttr, -Int.reduceNatCast',R0, *];exact tfin_ret (by simp only[simprocAttr, -Int.reduceNatCast',R0,qe,p80,Rs.ev,qb,frzs (α:=Int) zo0_1,zk (α:=Int) zo0_1, *])
def F54(a0:Int)(a1:Int)(a2:Int):Option Bool:=
 if a1≤a0 then
  some (decide (a0≤a2))
 else
  some false
theorem s54(a0:Int)(a1:Int)(a2:Int){r:Bool}(hF:F54 a0 a1 a2=some r):ans A 54 [V.int .i64 a0,V.int .i64 a1,V.int .i64 a2]=some (enc r):=by
 refine qA (f:=p54) rfl rfl rfl fun e hl he=>?_;have h0_0:e.at 0=V.int .i64 a0:=he 0 _ rfl;have h1_0:e.at 1=V.int .i64 a1:=he 1 _ rfl;have h2_0:e.at 2=V.int .i64 a2:=he 2 _ rfl;have hl_0:e.length=15:=hl;clear he hl;have h_0:=ai hl_0 (ai h0_0 (ai h1_0 h2_0));show W A b54 e ⟨[],0⟩ _;unfold F54 at hF;by_cases c1:a1≤a0
 ·rw[if_pos c1]at hF
  cases hF;simp only[simprocAttr,R0,b54, *];exact qd (by simp only[simprocAttr,R0,qe,p54,Rs.ev,qb, *])
 ·rw[if_neg c1]at hF
  cases hF;simp only[simprocAttr,R0,b54, *];exact qd (by simp only[simprocAttr,R0,qe,p54,Rs.ev,qb, *])
def F99(a0:qa)(a1:Int):Option Int:=
 (chk ((a0.Dims.length:Int) - 1)).bind fun x1=>
 (F54 a1 0 x1).bind fun x2=>
 if x2=true then
  (getI a0.Dims a1).bind fun x4=>
  some x4
 else
  some 0
theorem s99(a0:qa)(a1:Int){r:Int}(hF:F99 a0 a1=some r):ans A 99 [(eC a0),V.int .i64 a1]=some (enc r):=by
 refine qA (f:=p99) rfl rfl rfl fun e hl he=>?_;have h0_0:e.at 0=(eC a0):=he 0 _ rfl;have h1_0:e.at 1=V.int .i64 a1:=he 1 _ rfl;have hl_0:e.length=17:=hl;clear he hl;have h_0:=ai hl_0 (ai h0_0 h1_0);show W A b99 e ⟨[],0⟩ _;unfold F99 at hF;obtain⟨x1,gx1,hF⟩:=bS hF;have wx1:=qy gx1;obtain⟨x2,gx2,hF⟩:=bS hF;have w3:=s54 a1 0 x1 gx2;cases x2 with
 |true=>
  rw[if_pos rfl]at hF;obtain⟨x4,gx4,hF⟩:=bS hF;obtain⟨w5a,w5b⟩:=qh gx4;cases hF;simp only[simprocAttr,R0,b99, *];exact qd (by simp only[simprocAttr,R0,qe,p99,Rs.ev,qb, *])
 |false=>
  rw[if_neg wD]at hF;cases hF;simp only[simprocAttr,R0,b99, *];exact qd (by simp only[simprocAttr,R0,qe,p99,Rs.ev,qb, *])
def kj(a0:qa)(a1:Int)(s:(List (List Int))×Int):Option (((List (List Int))×Int)⊕((List (List Int)))):=
 match s with
 |(o1_1,v6_1)=>
  (F99 a0 a1).bind fun x11=>
  if v6_1 < x11 then
   (app 24 o1_1 ([([]:List Int)])).bind fun l15=>
   (chk (v6_1+1)).bind fun x16=>
   some (.inl (l15,x16))
  else
   some (.inr o1_1)
def F76(a0:qa)(a1:Int):Option (List (List Int)):=
 (chk ((a0.Dims.length:Int) - 1)).bind fun x1=>
 (F54 a1 1 x1).bind fun x2=>
 if x2=true then
  (chk (a1 - 1)).bind fun x4=>
  (getI a0.Maps x4).bind fun x5=>
  some x5
 else
  (ze (kj a0 a1) ([],0)).bind fun zo1_1=>
  some zo1_1
def I76_1(a0:qa)(a1:Int)(s:(List (List Int))×Int)(e:Env)(h:Heap):Prop:=
 match s with
 |(o1_1,v6_1)=>
  ∃u8 k9:Nat,h=⟨[(0,none),(u8,some (o1_1.map enc))],k9⟩∧e.length=32∧e.at 1=V.int .i64 a1∧e.at 2=V.iptr [V.int .i64 a0.Prime,V.isl (a0.Dims.map enc),V.isl (a0.Maps.map enc)]∧e.at 5=V.sl 1 u8 0 o1_1.length 1∧e.at 6=V.int .i64 v6_1
def P76_1(a0:qa)(a1:Int)(zo1_1:(List (List Int)))(x:Ex)(e:Env)(h:Heap):Prop:=
 x= .normal∧∃u8 k9:Nat,h=⟨[(0,none),(u8,some (zo1_1.map enc))],k9⟩∧e.length=32∧e.at 5=V.sl 1 u8 0 zo1_1.length 1
theorem l76_1(a0:qa)(a1:Int){s:(List (List Int))×Int}{t:(List (List Int))}(hF:ze (kj a0 a1) s=some t){e:Env}{h:Heap}(hI:I76_1 a0 a1 s e h):W A c76_1 e h (P76_1 a0 a1 t):=by
 show W A (.block 0 (.loop false b76_1)) e h _;rw[qm];refine jG hF 2 (by rcases s with⟨_,_⟩; obtain⟨_,_,rfl,_⟩:=hI; rfl) (I76_1 a0 a1) hI ?_
 ·rintro⟨o1_1,v6_1⟩ e h ⟨u8,k9,rfl,h_7⟩ o ho
  unfold kj at ho;dsimp only at ho;obtain⟨x11,gx11,ho⟩:=bS ho;have w12:=s99 a0 a1 gx11;by_cases c13:v6_1 < x11
  ·rw[if_pos c13]at ho
   obtain⟨l15,gl15,ho⟩:=bS ho;have w14:=fun a b c d e=> qD (α:=List Int) (n:=o1_1.length) (m:=1) (ds:=[V.isl []]) gl15 (by first|rfl|simp) (by first|rfl|simp) rfl a b c d e;have w14l:=qR gl15;obtain⟨x16,gx16,ho⟩:=bS ho;have wx16:=qy gx16;cases ho;simp only[simprocAttr,R0,b76_1, *];refine ai rfl (ei _ (ei _ (ai rfl ?_)));simp only[simprocAttr,R0, *]
  ·rw[if_neg c13]at ho
   cases ho;simp only[simprocAttr,R0,b76_1, *];intro ht; subst ht;simp only[simprocAttr,RR,RB];refine ai rfl (ei _ (ei _ (ai rfl ?_)));simp only[simprocAttr,R0, *]
theorem s76(a0:qa)(a1:Int){r:List (List Int)}(hF:F76 a0 a1=some r):ans A 76 [(eC a0),V.int .i64 a1]=some (enc r):=by
 refine qA (f:=p76) rfl rfl rfl fun e hl he=>?_;have h0_0:e.at 0=(eC a0):=he 0 _ rfl;have h1_0:e.at 1=V.int .i64 a1:=he 1 _ rfl;have hl_0:e.length=32:=hl;clear he hl;show W A b76 e ⟨[],0⟩ _;unfold F76 at hF;obtain⟨x1,gx1,hF⟩:=bS hF;have wx1:=qy gx1;obtain⟨x2,gx2,hF⟩:=bS hF;have w3:=s54 a1 1 x1 gx2;cases x2 with
 |true=>
  rw[if_pos rfl]at hF;obtain⟨x4,gx4,hF⟩:=bS hF;have wx4:=qy gx4;obtain⟨x5,gx5,hF⟩:=bS hF;obtain⟨w6a,w6b⟩:=qh gx5;have hE:=wA hF; subst hE;simp only[simprocAttr, -Int.reduceNatCast',R0,b76, *];exact qd (by simp only[simprocAttr, -Int.reduceNatCast',R0,qe,p76,Rs.ev,qb, *])
 |false=>
  rw[if_neg wD]at hF;obtain⟨zo1_1,gt17,hF⟩:=bS hF;simp only[simprocAttr, -Int.reduceNatCast',R0,b76, *];refine W.mono (l76_1 a0 a1 gt17 (ei _ (ei _ (ai rfl ?_)))) ?_
  ·simp only[simprocAttr, -Int.reduceNatCast',R0, *]
  rintro _ e _ ⟨rfl,u8,k9,rfl,hl_10,h5_10⟩;have hE:=wA hF; subst hE;simp only[simprocAttr, -Int.reduceNatCast',R0, *];exact qd (by simp only[simprocAttr, -Int.reduceNatCast',R0,qe,p76,Rs.ev,qb,frzs (α:=List Int) zo1_1,zk (α:=List Int) zo1_1, *])
def F81_1_B(a0:List Int)(v3_1:Int)(s:Unit):Option ((Unit)⊕((Unit)⊕Int)):=
 (getI a0 v3_1).bind fun x4=>
if x4=0 then
 some (.inl ())
else
 some (.inr (.inr v3_1))
def F81_1_D(a0:List Int)(v3_1:Int)(s:Unit):Option ((Unit)⊕Int):=
 some (.inl ())
def F81(a0:List Int):Option Int:=
 (forR 0 (a0.length:Int) (F81_1_B a0) (F81_1_D a0) ()).bind fun t7=> match t7 with
  | .inl _=>
   some (-1)
  | .inr r8=> some r8
def I81_1(a0:List Int)(v3_1:Int)(s:Unit)(e:Env)(h:Heap):Prop:=
 ∃k2:Nat,h=⟨[],k2⟩∧e.length=16∧e.at 0=V.isl (a0.map enc)∧e.at 3=V.int .i64 v3_1
def P81_1(a0:List Int)(t:(Unit)⊕Int)(x:Ex)(e:Env)(h:Heap):Prop:=
 match t with
 | .inl _=> x= .normal∧∃k2:Nat,h=⟨[],k2⟩∧e.length=16
 | .inr r=> x= .ret∧Fin p81 (enc r) .ret e h
theorem l81_1(a0:List Int){lo:Int}{s:Unit}{t:(Unit)⊕Int}(hF:forR lo (a0.length:Int) (F81_1_B a0) (F81_1_D a0) s=some t){e:Env}{h:Heap}(hI:I81_1 a0 lo s e h):W A c81_1 e h (P81_1 a0 t):=by
 show W A (.block 0 (.loop false b81_1)) e h _;rw[qm];refine qJ hF 0 (by obtain⟨_,rfl,_⟩:=hI; rfl) (I81_1 a0) hI ?_ ?_
 ·rintro v3_1 _ e h ⟨k2,rfl,h_1⟩ hlt hw o ho
  unfold F81_1_B at ho;obtain⟨x4,gx4,ho⟩:=bS ho;obtain⟨w5a,w5b⟩:=qh gx4;by_cases c6:x4=0
  ·rw[if_pos c6]at ho
   cases ho;simp only[simprocAttr,R0,b81_1, *];refine ai rfl (ei _ (ai rfl ?_));simp only[simprocAttr,R0, *]
  ·rw[if_neg c6]at ho
   cases ho;simp only[simprocAttr,R0,b81_1, *];intro ht; subst ht;simp only[simprocAttr,RR,RB];exact ai rfl (qd (by simp only[simprocAttr,R0,qe,p81,Rs.ev,qb, *]))
 ·rintro v3_1 _ e h ⟨k2,rfl,h_1⟩ hge t1 ho
  unfold F81_1_D at ho;cases ho;simp only[simprocAttr,R0,b81_1, *];intro ht; subst ht;refine ai rfl (ei _ (ai rfl ?_));simp only[simprocAttr,R0, *]
theorem s81(a0:List Int){r:Int}(hF:F81 a0=some r):ans A 81 [V.isl (a0.map enc)]=some (enc r):=by
 refine qA (f:=p81) rfl rfl rfl fun e hl he=>?_;have h0_0:e.at 0=V.isl (a0.map enc):=he 0 _ rfl;have hl_0:e.length=16:=hl;clear he hl;have h_0:=ai hl_0 h0_0;show W A b81 e ⟨[],0⟩ _;unfold F81 at hF;obtain⟨t7,gt7,hF⟩:=bS hF;rcases t7 with _|r8
 ·dsimp only at hF
  simp only[simprocAttr,R0,b81, *];refine W.mono (l81_1 a0 gt7 (ei _ (ai rfl ?_))) ?_
  ·simp only[simprocAttr,R0, *]
  rintro _ e _ ⟨rfl,k2,rfl,hl_3⟩;cases hF;simp only[simprocAttr,R0, *];exact qd (by simp only[simprocAttr,R0,qe,p81,Rs.ev,qb, *])
 ·dsimp only at hF
  cases hF;simp only[simprocAttr,R0,b81, *];refine W.mono (l81_1 a0 gt7 (ei _ (ai rfl ?_))) ?_
  ·simp only[simprocAttr,R0, *]
  rintro _ e h ⟨rfl,hq⟩;simp only[simprocAttr,RR,RB];exact hq
def F94(a0:List Int):Option (List Int):=
 (app 8 ([]:List Int) a0).bind fun l2=>
 some l2
theorem s94(a0:List Int){r:List Int}(hF:F94 a0=some r):ans A 94 [V.isl (a0.map enc)]=some (enc r):=by
 refine qA (f:=p94) rfl rfl rfl fun e hl he=>?_;have h0_0:e.at 0=V.isl (a0.map enc):=he 0 _ rfl;have hl_0:e.length=6:=hl;clear he hl;show W A b94 e ⟨[],0⟩ _;unfold F94 at hF;obtain⟨l2,gl2,hF⟩:=bS hF;have w1:=fun ents key uid clk he=> qD (α:=Int) (n:=0) (m:=a0.length) (ds:=List.map enc a0) gl2 (by first|rfl|simp only[vF]) (by first|rfl|simp only[vF]) rfl ents key uid clk he;have w1l:=qR gl2;have hE:=wA hF; subst hE;simp only[simprocAttr, -Int.reduceNatCast',R0,b94,hl_0,h0_0,w1];exact qd (by simp only[simprocAttr, -Int.reduceNatCast',R0,qe,p94,Rs.ev,qb,hl_0,h0_0,w1,frzs (α:=Int) l2,zk (α:=Int) l2])
theorem t94(a0:List Int){r:List Int}(hF:F94 a0=some r):tans A 94 [1] [V.isl (a0.map enc)]=some (enc r):=by
 refine tans_of (f:=p94) rfl rfl rfl fun e hl he=>?_;have h0_0:e.at 0=V.isl (a0.map enc):=he 0 _ rfl;have hl_0:e.length=6:=hl;clear he hl;show W A b94 e ⟨[],0⟩ _;unfold F94 at hF;obtain⟨l2,gl2,hF⟩:=bS hF;have w1:=fun ents key uid clk he=> qD (α:=Int) (n:=0) (m:=a0.length) (ds:=List.map enc a0) gl2 (by first|rfl|simp only[vF]) (by first|rfl|simp only[vF]) rfl ents key uid clk he;have w1l:=qR gl2;have hE:=wA hF; subst hE;simp only[simprocAttr, -Int.reduceNatCast',R0,b94,hl_0,h0_0,w1];exact tfin_ret (by simp only[simprocAttr, -Int.reduceNatCast',R0,qe,p94,Rs.ev,qb,hl_0,h0_0,w1,frzs (α:=Int) l2,zk (α:=Int) l2])
def F127(a0:Int)(a1:Int):Option Int:=
 (remI a1 a0).bind fun x1=>
 (chk (x1+a0)).bind fun x3=>
 (remI x3 a0).bind fun x4=>
 some x4
theorem s127(a0:Int)(a1:Int){r:Int}(hF:F127 a0 a1=some r):ans A 127 [V.int .i64 a0,V.int .i64 a1]=some (enc r):=by
 refine qA (f:=p127) rfl rfl rfl fun e hl he=>?_;have h0_0:e.at 0=V.int .i64 a0:=he 0 _ rfl;have h1_0:e.at 1=V.int .i64 a1:=he 1 _ rfl;have hl_0:e.length=12:=hl;clear he hl;show W A b127 e ⟨[],0⟩ _;unfold F127 at hF;obtain⟨x1,gx1,hF⟩:=bS hF;obtain⟨w2a,w2b⟩:=rem_w gx1;obtain⟨x3,gx3,hF⟩:=bS hF;have wx3:=qy gx3;obtain⟨x4,gx4,hF⟩:=bS hF;obtain⟨w5a,w5b⟩:=rem_w gx4;cases hF;simp only[simprocAttr,R0,b127, *];exact qd (by simp only[simprocAttr,R0,qe,p127,Rs.ev,qb, *])
def xw(a0:Int)(a1:List Int)(a2:List Int)(a3:Int)(v10_1:Int)(o0_1:(List Int)):Option (((List Int))⊕((List Int))):=
 (getI a1 v10_1).bind fun x5=>
(getI a2 v10_1).bind fun x7=>
(chk (a3*x7)).bind fun x9=>
(chk (x5 - x9)).bind fun x10=>
(F127 a0 x10).bind fun x11=>
(app 8 o0_1 [x11]).bind fun l14=>
some (.inl l14)
def F136_1_D(a0:Int)(a1:List Int)(a2:List Int)(a3:Int)(v10_1:Int)(o0_1:(List Int)):Option ((List Int)):=
 some o0_1
def F136(a0:Int)(a1:List Int)(a2:List Int)(a3:Int):Option (List Int):=
 (forR 0 (a1.length:Int) (xw a0 a1 a2 a3) (F136_1_D a0 a1 a2 a3) ([]:(List Int))).bind fun zo0_1=>
 some zo0_1
def I136_1(a0:Int)(a1:List Int)(a2:List Int)(a3:Int)(v10_1:Int)(o0_1:(List Int))(e:Env)(h:Heap):Prop:=
 ∃u2 k3:Nat,h=⟨[(u2,some (o0_1.map enc))],k3⟩∧e.length=35∧e.at 0=V.int .i64 a0∧e.at 1=V.isl (a1.map enc)∧e.at 2=V.isl (a2.map enc)∧e.at 3=V.int .i64 a3∧e.at 9=V.sl 0 u2 0 o0_1.length 1∧e.at 10=V.int .i64 v10_1
def P136_1(a0:Int)(a1:List Int)(a2:List Int)(a3:Int)(zo0_1:(List Int))(x:Ex)(e:Env)(h:Heap):Prop:=
 x= .normal∧∃u2 k3:Nat,h=⟨[(u2,some (zo0_1.map enc))],k3⟩∧e.length=35∧e.at 9=V.sl 0 u2 0 zo0_1.length 1
theorem l136_1(a0:Int)(a1:List Int)(a2:List Int)(a3:Int){lo:Int}{s:(List Int)}{t:(List Int)}(hF:forR lo (a1.length:Int) (xw a0 a1 a2 a3) (F136_1_D a0 a1 a2 a3) s=some t){e:Env}{h:Heap}(hI:I136_1 a0 a1 a2 a3 lo s e h):W A c136_1 e h (P136_1 a0 a1 a2 a3 t):=by
 show W A (.block 0 (.loop false b136_1)) e h _;rw[qm];refine qJ hF 1 (by obtain⟨_,_,rfl,_⟩:=hI; rfl) (I136_1 a0 a1 a2 a3) hI ?_ ?_
 ·rintro v10_1 o0_1 e h ⟨u2,k3,rfl,h_1⟩ hlt hw o ho
  unfold xw at ho;obtain⟨x5,gx5,ho⟩:=bS ho;obtain⟨w6a,w6b⟩:=qh gx5;obtain⟨x7,gx7,ho⟩:=bS ho;obtain⟨w8a,w8b⟩:=qh gx7;obtain⟨x9,gx9,ho⟩:=bS ho;have wx9:=qy gx9;obtain⟨x10,gx10,ho⟩:=bS ho;have wx10:=qy gx10;obtain⟨x11,gx11,ho⟩:=bS ho;have w12:=s127 a0 x10 gx11;obtain⟨l14,gl14,ho⟩:=bS ho;have w13:=fun a b c d e=> qD (α:=Int) (n:=o0_1.length) (m:=1) (ds:=[V.int .i64 x11]) gl14 (by first|rfl|simp) (by first|rfl|simp) rfl a b c d e;have w13l:=qR gl14;cases ho;simp only[simprocAttr,R0,b136_1, *];refine ai rfl (ei _ (ei _ (ai rfl ?_)));simp only[simprocAttr,R0, *]
 ·rintro v10_1 o0_1 e h ⟨u2,k3,rfl,h_1⟩ hge t1 ho
  unfold F136_1_D at ho;cases ho;simp only[simprocAttr,R0,b136_1, *];intro ht; subst ht;refine ai rfl (ei _ (ei _ (ai rfl ?_)));simp only[simprocAttr,R0, *]
theorem t136(a0:Int)(a1:List Int)(a2:List Int)(a3:Int){r:List Int}(hF:F136 a0 a1 a2 a3=some r):tans A 136 [1] [V.int .i64 a0,V.isl (a1.map enc),V.isl (a2.map enc),V.int .i64 a3]=some (enc r):=by
 refine tans_of (f:=p136) rfl rfl rfl fun e hl he=>?_;have h0_0:e.at 0=V.int .i64 a0:=he 0 _ rfl;have h1_0:e.at 1=V.isl (a1.map enc):=he 1 _ rfl;have h2_0:e.at 2=V.isl (a2.map enc):=he 2 _ rfl;have h3_0:e.at 3=V.int .i64 a3:=he 3 _ rfl;have hl_0:e.length=35:=hl;clear he hl;show W A b136 e ⟨[],0⟩ _;unfold F136 at hF;obtain⟨zo0_1,gt15,hF⟩:=bS hF;simp only[simprocAttr, -Int.reduceNatCast',R0,b136, *];refine W.mono (l136_1 a0 a1 a2 a3 gt15 (ei _ (ei _ (ai rfl ?_)))) ?_
 ·simp only[simprocAttr, -Int.reduceNatCast',R0, *]
 rintro _ e _ ⟨rfl,u2,k3,rfl,hl_4,h9_4⟩;have hE:=wA hF; subst hE;simp only[simprocAttr, -Int.reduceNatCast',R0, *];exact tfin_ret (by simp only[simprocAttr, -Int.reduceNatCast',R0,qe,p136,Rs.ev,qb,frzs (α:=Int) zo0_1,zk (α:=Int) zo0_1, *])
def F134_1_B(a0:Int)(a1:List (List Int))(v8_1:Int)(v7_1:(List Int)):Option (((List Int))⊕((List Int))):=
 (getI a1 v8_1).bind fun x6=>
(F81 x6).bind fun x8=>
(getI v7_1 x8).bind fun x10=>
(F136 a0 v7_1 x6 x10).bind fun x12=>
some (.inl x12)
def F134_1_D(a0:Int)(a1:List (List Int))(v8_1:Int)(v7_1:(List Int)):Option ((List Int)):=
 some v7_1
def F134(a0:Int)(a1:List (List Int))(a2:List Int):Option (List Int):=
 (F94 a2).bind fun x1=>
 (forR 0 (a1.length:Int) (F134_1_B a0 a1) (F134_1_D a0 a1) x1).bind fun zv7_1=>
 some zv7_1
theorem d134(a0:Int)(a1:List (List Int))(a2:List Int){r:List Int}(hF:F134 a0 a1 a2=some r):∃v h',res A 134 [V.int .i64 a0,V.isl (a1.map enc),V.isl (a2.map enc)] Heap.empty=some (v,h')∧∃K,Deep.rep h' v r K:=by
 refine res_dp (f:=p134) rfl rfl rfl fun e hl he=>?_;have h0_0:e.at 0=V.int .i64 a0:=he 0 _ rfl;have h1_0:e.at 1=V.isl (a1.map enc):=he 1 _ rfl;have h2_0:e.at 2=V.isl (a2.map enc):=he 2 _ rfl;have hl_0:e.length=33:=hl;clear he hl;show W A b134 e ⟨[],0⟩ _;unfold F134 at hF;obtain⟨o,go,hF⟩:=bS hF;have wo:tans A 94 [1] [V.isl (a2.map enc)]=some (V.isl (o.map enc)):=t94 a2 go;obtain⟨t,gt,hF⟩:=bS hF;cases hF;simp only[simprocAttr,R1,b134,qI,zb, *];show W A (.block 0 (.loop true b134_1)) _ _ _;rw[qm];refine qJ gt _ rfl (fun i q e h=>∃k u,h.ents[k]? =some (u,some (q.map enc))∧e.length=33∧e.at 0=V.int .i64 a0∧e.at 1=V.isl (a1.map enc)∧e.at 7=V.sl k u 0 q.length 1∧e.at 8=V.int .i64 i) ?_ ?_ ?_
 ·refine⟨0,0,rfl,?_⟩
  simp only[simprocAttr,R1, *]
 ·clear hl_0 h0_0 h1_0 h2_0
  rintro i q e ⟨E,c⟩ ⟨k,u,g1,h_1⟩ hlt hw s' ho;unfold F134_1_B at ho;simp only at g1;obtain⟨x6,gx6,ho⟩:=bS ho;obtain⟨x6a,x6b⟩:=qh gx6;obtain⟨x8,gx8,ho⟩:=bS ho;have w8:=s81 x6 gx8;obtain⟨x10,gx10,ho⟩:=bS ho;obtain⟨x10a,x10b⟩:=qh gx10;have x10c:=qY gx10;obtain⟨x12,gx12,ho⟩:=bS ho;have w12:tans A 136 [1] [V.int .i64 a0,V.isl (q.map enc),V.isl (x6.map enc),V.int .i64 x10]=some (V.isl (x12.map enc)):=t136 a0 q x6 x10 gx12;cases ho;have wfz:frz ⟨E,c⟩ 16 (V.sl k u 0 q.length 1)=some (V.isl (q.map enc)):=frz_row g1;have wbr:=bare_one (α:=Int) x12;have o10:qS none (List.drop x8.toNat (q.map enc))=some (V.int .i64 x10):=qx (by rw[List.getElem?_map,x10b]; rfl);simp only[simprocAttr,R1,b134_1,x6a,x6b,x10a,eq_true x10c,o10,qI,zb, *];refine ai rfl ⟨_,_,qB _ _,?_⟩;simp only[simprocAttr,R1, *]
 ·clear hl_0 h0_0 h1_0 h2_0
  rintro i q e ⟨E,c⟩ ⟨k,u,g1,h_1⟩ hge t1 ho;unfold F134_1_D at ho;cases ho;simp only at g1;simp only[simprocAttr,R1,b134_1, *];intro ht; subst ht;refine ai (fun _=> trivial) ⟨_,?_,fun x=> x=k,js (l:=q) g1 fun x=> vY⟩;simp only[simprocAttr,R1,qe,p134,Rs.ev, *]
theorem t134(a0:Int)(a1:List (List Int))(a2:List Int){r:List Int}(hF:F134 a0 a1 a2=some r):tans A 134 [1] [V.int .i64 a0,V.isl (a1.map enc),V.isl (a2.map enc)]=some (enc r):=xn (α:=List Int) (by decide) (d134 a0 a1 a2 hF)
def F135_1_B(a0:Int)(a1:Int)(v5_1:Int)(s:Unit):Option ((Unit)⊕((Unit)⊕Int)):=
 (F127 a0 a1).bind fun x4=>
(chk (v5_1*x4)).bind fun x6=>
(remI x6 a0).bind fun x7=>
if x7=1 then
 some (.inr (.inr v5_1))
else
 some (.inl ())
def F135_1_D(a0:Int)(a1:Int)(v5_1:Int)(s:Unit):Option ((Unit)⊕Int):=
 some (.inl ())
def F135(a0:Int)(a1:Int):Option Int:=
 (forR 1 a0 (F135_1_B a0 a1) (F135_1_D a0 a1) ()).bind fun t10=> match t10 with
  | .inl _=>
   some 0
  | .inr r11=> some r11
def I135_1(a0:Int)(a1:Int)(v5_1:Int)(s:Unit)(e:Env)(h:Heap):Prop:=
 ∃k2:Nat,h=⟨[],k2⟩∧e.length=20∧e.at 0=V.int .i64 a0∧e.at 1=V.int .i64 a1∧e.at 5=V.int .i64 v5_1
def P135_1(a0:Int)(a1:Int)(t:(Unit)⊕Int)(x:Ex)(e:Env)(h:Heap):Prop:=
 match t with
 | .inl _=> x= .normal∧∃k2:Nat,h=⟨[],k2⟩∧e.length=20
 | .inr r=> x= .ret∧Fin p135 (enc r) .ret e h
theorem l135_1(a0:Int)(a1:Int){lo:Int}{s:Unit}{t:(Unit)⊕Int}(hF:forR lo a0 (F135_1_B a0 a1) (F135_1_D a0 a1) s=some t){e:Env}{h:Heap}(hI:I135_1 a0 a1 lo s e h):W A c135_1 e h (P135_1 a0 a1 t):=by
 show W A (.block 0 (.loop false b135_1)) e h _;rw[qm];refine qJ hF 0 (by obtain⟨_,rfl,_⟩:=hI; rfl) (I135_1 a0 a1) hI ?_ ?_
 ·rintro v5_1 _ e h ⟨k2,rfl,h_1⟩ hlt hw o ho
  unfold F135_1_B at ho;obtain⟨x4,gx4,ho⟩:=bS ho;have w5:=s127 a0 a1 gx4;obtain⟨x6,gx6,ho⟩:=bS ho;have wx6:=qy gx6;obtain⟨x7,gx7,ho⟩:=bS ho;obtain⟨w8a,w8b⟩:=rem_w gx7;by_cases c9:x7=1
  ·rw[if_pos c9]at ho
   cases ho;simp only[simprocAttr,R0,b135_1, *];intro ht; subst ht;simp only[simprocAttr,RR,RB];exact ai rfl (qd (by simp only[simprocAttr,R0,qe,p135,Rs.ev,qb, *]))
  ·rw[if_neg c9]at ho
   cases ho;simp only[simprocAttr,R0,b135_1, *];refine ai rfl (ei _ (ai rfl ?_));simp only[simprocAttr,R0, *]
 ·rintro v5_1 _ e h ⟨k2,rfl,h_1⟩ hge t1 ho
  unfold F135_1_D at ho;cases ho;simp only[simprocAttr,R0,b135_1, *];intro ht; subst ht;refine ai rfl (ei _ (ai rfl ?_));simp only[simprocAttr,R0, *]
theorem s135(a0:Int)(a1:Int){r:Int}(hF:F135 a0 a1=some r):ans A 135 [V.int .i64 a0,V.int .i64 a1]=some (enc r):=by
 refine qA (f:=p135) rfl rfl rfl fun e hl he=>?_;have h0_0:e.at 0=V.int .i64 a0:=he 0 _ rfl;have h1_0:e.at 1=V.int .i64 a1:=he 1 _ rfl;have hl_0:e.length=20:=hl;clear he hl;have h_0:=ai hl_0 (ai h0_0 h1_0);show W A b135 e ⟨[],0⟩ _;unfold F135 at hF;obtain⟨t10,gt10,hF⟩:=bS hF;rcases t10 with _|r11
 ·dsimp only at hF
  simp only[simprocAttr,R0,b135, *];refine W.mono (l135_1 a0 a1 gt10 (ei _ (ai rfl ?_))) ?_
  ·simp only[simprocAttr,R0, *]
  rintro _ e _ ⟨rfl,k2,rfl,hl_3⟩;cases hF;simp only[simprocAttr,R0, *];exact qd (by simp only[simprocAttr,R0,qe,p135,Rs.ev,qb, *])
 ·dsimp only at hF
  cases hF;simp only[simprocAttr,R0,b135, *];refine W.mono (l135_1 a0 a1 gt10 (ei _ (ai rfl ?_))) ?_
  ·simp only[simprocAttr,R0, *]
  rintro _ e h ⟨rfl,hq⟩;simp only[simprocAttr,RR,RB];exact hq
def F131_2_B(p b:Int)(k:Int)(row:List Int):Option (List Int⊕List Int):=(getI row k).bind fun x=>(chk (x*b)).bind fun m=>(remI m p).bind fun z=>(setI row k z).bind fun r=> some (.inl r)
def F131_2_D(k:Int)(row:List Int):Option (List Int):=some row
def F131_3_C(out:List (List Int))(at_:Int)(k:Int)(put:Bool):Option Bool:=if put=true then some false else(getI out k).bind fun o=>(F81 o).bind fun ld=> some (decide (at_ < ld))
def F131_3_B(p:Int)(out:List (List Int))(own:List Int)(at_:Int)(k:Int)(s:List (List Int)×Bool):Option ((List (List Int)×Bool)⊕(List (List Int)×Bool)):=
 (F131_3_C out at_ k s.2).bind fun c=>(if c=true then(app 24 s.1 [own]).bind fun n=> some (n,true)else some s).bind fun s2=>
 (getI out k).bind fun o=>(getI o at_).bind fun y=>(F136 p o own y).bind fun q=>(app 24 s2.1 [q]).bind fun n=> some (.inl (n,s2.2))
def F131_3_D(k:Int)(s:List (List Int)×Bool):Option (List (List Int)×Bool):=some s
def F131_1_B(p:Int)(rows:List (List Int))(i:Int)(out:List (List Int)):Option (List (List Int)⊕List (List Int)):=
 (getI rows i).bind fun row=>(F134 p out row).bind fun own=>(F81 own).bind fun at_=> if at_ < 0 then some (.inl out)else
 (getI own at_).bind fun x=>(F135 p x).bind fun inv=>(forR 0 (own.length:Int) (F131_2_B p inv) F131_2_D own).bind fun own'=>
 (forR 0 (out.length:Int) (F131_3_B p out own' at_) F131_3_D ([],false)).bind fun s=> if s.2=true then some (.inl s.1)else(app 24 s.1 [own']).bind fun n=> some (.inl n)
def F131_1_D(i:Int)(out:List (List Int)):Option (List (List Int)):=some out
def F131(p:Int)(rows:List (List Int)):Option (List (List Int)):=forR 0 (rows.length:Int) (F131_1_B p rows) F131_1_D []
theorem d131(p:Int)(rows:List (List Int)){r:List (List Int)}(hF:F131 p rows=some r):∃v h',res A 131 [V.int .i64 p,V.isl (rows.map enc)] Heap.empty=some (v,h')∧
  ∃k u vs,v=V.sl k u 0 r.length 1∧h'.ents[k]? =some (u,some vs)∧Rws h'.ents (fun _=> True) vs r:=by
 refine res_dp (f:=p131) rfl rfl rfl fun e hl he=>?_;have h0_0:e.at 0=V.int .i64 p:=he 0 _ rfl;have h1_0:e.at 1=V.isl (rows.map enc):=he 1 _ rfl;have hl_0:e.length=102:=hl;clear he hl;show W A b131 e ⟨[],0⟩ _;unfold F131 at hF;simp only[simprocAttr, -Int.reduceNatCast',R1,b131,hl_0,h0_0,h1_0];show W A (.block 0 (.loop true b131_1)) _ _ _;rw[qm];refine qJ hF _ rfl (fun i out e h=>∃ko uo vs,h.ents[ko]? =some (uo,some vs)∧Rws h.ents (fun _=> True) vs out∧e.length=102∧e.at 0=V.int .i64 p∧e.at 1=V.isl (rows.map enc)∧e.at 5=V.sl ko uo 0 out.length 1∧e.at 6=V.int .i64 i) ?_ ?_ ?_
 ·refine⟨0,0,[],rfl,.nil,?_⟩
  simp only[simprocAttr, -Int.reduceNatCast',R1,hl_0,h0_0,h1_0]
 ·clear hl_0 h0_0 h1_0
  rintro i out e ⟨E,c⟩ ⟨ko,uo,vs,g1,g2,hl_1,h0_1,h1_1,h5_1,h6_1⟩ hlt hw s' ho;unfold F131_1_B at ho;simp only at g1 g2;have hko:ko < E.length:=(List.getElem?_eq_some_iff.1 g1).1;obtain⟨row,gr,ho⟩:=bS ho;obtain⟨ra,rb⟩:=qh gr;obtain⟨own,gown,ho⟩:=bS ho;have wown:tans A 134 [1] [V.int .i64 p,V.isl (out.map enc),V.isl (row.map enc)]=some (V.isl (own.map enc)):=t134 p out row gown;obtain⟨at_,gat,ho⟩:=bS ho;have wat:ans A 81 [V.isl (own.map enc)]=some (V.int .i64 at_):=s81 own gat;have wfo:=g2.fz c g1;have wbr:=bare_one (α:=Int) own;have wfr:∀z:List Int,∀c',frz ⟨E++[(c,some (z.map enc))],c'⟩ 16 (V.sl E.length c 0 z.length 1)=some (V.isl (z.map enc)):=fun z c'=> frz_row (qB _ _);have wfr0:=wfr own;by_cases hat:at_ < 0
  ·rw[if_pos hat]at ho
   have hE:=wA ho; subst hE;simp only[simprocAttr, -Int.reduceNatCast',R1,b131_1,hl_1,h0_1,h1_1,h5_1,h6_1,eq_true hlt,hw,ra,rb,wfo,wown,wbr,qI,zb,wfr0,wat,eq_true hat];refine ai rfl ⟨ko,uo,vs,(List.getElem?_append_left hko).trans g1,g2.frame fun k hk _=>⟨List.getElem?_append_left hk,trivial⟩,?_⟩;simp only[simprocAttr, -Int.reduceNatCast',R1,hl_1,h0_1,h1_1,h5_1,h6_1,hw]
  ·rw[if_neg hat]at ho
   obtain⟨x,gx,ho⟩:=bS ho;obtain⟨xa,xb⟩:=qh gx;have xc:=qY gx;obtain⟨inv,ginv,ho⟩:=bS ho;have winv:ans A 135 [V.int .i64 p,V.int .i64 x]=some (V.int .i64 inv):=s135 p x ginv;obtain⟨own',gown',ho⟩:=bS ho;obtain⟨s,gs,ho⟩:=bS ho;have ox:qS none (List.drop at_.toNat (own.map enc))=some (V.int .i64 x):=qx (by rw[List.getElem?_map,xb]; rfl);simp only[simprocAttr, -Int.reduceNatCast',R1,b131_1,hl_1,h0_1,h1_1,h5_1,h6_1,eq_true hlt,hw,ra,rb,wfo,wown,wbr,qI,zb,wfr0,wat,eq_false hat,xa,eq_true xc,qB,ox,winv];show W A (.block 2 (.loop true b131_2)) _ _ _;rw[qm];refine qJ gown' _ rfl (fun k q e h=> q.length=own.length∧h=⟨E++[(c,some (q.map enc))],c+1⟩∧e.length=102∧e.at 0=V.int .i64 p∧e.at 1=V.isl (rows.map enc)∧e.at 5=V.sl ko uo 0 out.length 1∧e.at 6=V.int .i64 i∧e.at 7=V.sl E.length c 0 own.length 1∧e.at 8=V.int .i64 at_∧e.at 9=V.int .i64 inv∧e.at 10=V.int .i64 k) ?_ ?_ ?_
   ·refine⟨rfl,rfl,?_⟩
    simp only[simprocAttr, -Int.reduceNatCast',R1,hl_1,h0_1,h1_1,h5_1,h6_1]
   ·clear hl_1 h0_1 h1_1 h5_1 h6_1
    rintro k q e h ⟨hq,rfl,hl_1,h0_1,h1_1,h5_1,h6_1,h7_1,h8_1,h9_1,h10_1⟩ hlt2 hw2 s2 ho2;unfold F131_2_B at ho2;obtain⟨x3,gx3,ho2⟩:=bS ho2;obtain⟨x3a,x3b⟩:=qh gx3;obtain⟨m3,gm3,ho2⟩:=bS ho2;have wm3:=qy gm3;obtain⟨z3,gz3,ho2⟩:=bS ho2;obtain⟨wz30,wz3⟩:=rem_w gz3;obtain⟨q2,gq2,ho2⟩:=bS ho2;obtain⟨s31,s32,s33,s34,s35⟩:=xp gq2;have hE:=wA ho2; subst hE;have o3:qS none (List.drop k.toNat (q.map enc))=some (V.int .i64 x3):=qx (by rw[List.getElem?_map,x3b]; rfl);have hk3:k < (own.length:Int):=hlt2;have s35':List.take k.toNat (q.map enc)++[V.int .i64 z3]++List.drop (k.toNat+1) (q.map enc)=List.map enc q2:=s35;simp only[simprocAttr, -Int.reduceNatCast',R1,b131_2,hl_1,h0_1,h1_1,h5_1,h6_1,h7_1,h8_1,h9_1,h10_1,hw2,eq_true hlt2,qB,jw,x3a,o3,wm3,wz30,wz3,s33,s35'];refine ai rfl ⟨by omega,rfl,?_⟩;simp only[simprocAttr, -Int.reduceNatCast',R1,hl_1,h0_1,h1_1,h5_1,h6_1,h7_1,h8_1,h9_1,h10_1,hw2]
   ·clear hl_1 h0_1 h1_1 h5_1 h6_1
    rintro k q e h ⟨hq,rfl,hl_1,h0_1,h1_1,h5_1,h6_1,h7_1,h8_1,h9_1,h10_1⟩ hge2 t2 ho2;unfold F131_2_D at ho2;have hE:=wA ho2; subst hE;simp only[simprocAttr, -Int.reduceNatCast',R1,b131_2,hl_1,h0_1,h1_1,h5_1,h6_1,h7_1,h8_1,h9_1,h10_1,eq_false hge2,le1];intro ht; subst ht;show W A (.block 4 (.loop true b131_3)) _ _ _;rw[qm];refine qJ gs _ rfl (fun k s e h=>∃un vn,h.ents[E.length+1]? =some (un,some vn)∧Rws h.ents (fun k=> k≠E.length+1) vn s.1∧h.ents[E.length]? =some (c,some (q.map enc))∧(∀k,k < E.length→h.ents[k]? =E[k]?)∧e.length=102∧e.at 0=V.int .i64 p∧e.at 1=V.isl (rows.map enc)∧e.at 5=V.sl ko uo 0 out.length 1∧e.at 6=V.int .i64 i∧e.at 7=V.sl E.length c 0 q.length 1∧e.at 8=V.int .i64 at_∧e.at 11=V.sl (E.length+1) un 0 s.1.length 1∧e.at 12=V.bool s.2∧e.at 13=V.int .i64 k) ?_ ?_ ?_
    ·refine⟨c+1,[],ge2b ..,.nil,ge2a ..,fun k hk=> by rw[wP]; exact List.getElem?_append_left hk,?_⟩
     simp only[simprocAttr, -Int.reduceNatCast',R1,hl_1,h0_1,h1_1,h5_1,h6_1,h7_1,h8_1,h9_1,h10_1,hq]
    ·clear hl_1 h0_1 h1_1 h5_1 h6_1 h7_1 h8_1 h9_1 h10_1
     rintro k ⟨nx,put⟩ e ⟨E3,c3⟩ ⟨un,vn,f1,f2,f3,f4,hl_1,h0_1,h1_1,h5_1,h6_1,h7_1,h8_1,h11_1,h12_1,h13_1⟩ hlt3 hw3 s3 ho3;unfold F131_3_B at ho3;simp only at f1 f2 f3 f4 h11_1 h12_1 ho3;obtain⟨cnd,gcnd,ho3⟩:=bS ho3;obtain⟨st,gst,ho3⟩:=bS ho3;obtain⟨o,go,ho3⟩:=bS ho3;obtain⟨oa,ob⟩:=qh go;have oc:=qY go;obtain⟨y,gy,ho3⟩:=bS ho3;obtain⟨ya,yb⟩:=qh gy;have yc:=qY gy;obtain⟨qq,gqq,ho3⟩:=bS ho3;have wqq:tans A 136 [1] [V.int .i64 p,V.isl (o.map enc),V.isl (q.map enc),V.int .i64 y]=some (V.isl (qq.map enc)):=t136 p o q y gqq;have wbq:=bare_one (α:=Int) qq;obtain⟨nn,gnn,ho3⟩:=bS ho3;have hE:=wA ho3; subst hE;have hN1:E.length+1 < E3.length:=(List.getElem?_eq_some_iff.1 f1).1;have k1:E3[ko]? =some (uo,some vs):=(f4 ko hko).trans g1;obtain⟨v,v1,v2⟩:=g2.get ob;have ov:=qx v1;have oy:qS none (List.drop at_.toNat (o.map enc))=some (V.int .i64 y):=qx (by rw[List.getElem?_map,yb]; rfl);have v3:RRep E3 (fun k=> k < E.length) v o:=v2.frame fun k hk _=>⟨f4 k hk,hk⟩
     -- in any memory that keeps the rows
     have step:∀ (E4:List (Nat×Option (List V))) (c4 un4:Nat) (vn4:List V),E4[E.length+1]? =some (un4,some vn4)→Rws E4 (fun k=> k≠E.length+1) vn4 st.1→E4[E.length]? =some (c,some (q.map enc))→(∀k,k < E.length→E4[k]? =E[k]?)→
       E4[ko]? =some (uo,some vs)∧frz ⟨E4,c4⟩ 16 v=some (V.isl (o.map enc))∧frz ⟨E4,c4⟩ 16 (V.sl E.length c 0 q.length 1)=some (V.isl (q.map enc))∧
       qQ 1 24 (.sl (E.length+1) un4 0 st.1.length 1) 1 [V.sl E4.length c4 0 qq.length 1] ⟨E4++[(c4,some (qq.map enc))]++[(c4+1,some [V.sl E4.length c4 0 qq.length 1])],c4+1+1⟩=some (.sl (E.length+1) (c4+1+1) 0 (st.1.length+1) 1,⟨(E4++[(c4,some (qq.map enc))]++[(c4+1,some [V.sl E4.length c4 0 qq.length 1])]).set (E.length+1) (c4+1+1,some (vn4++[V.sl E4.length c4 0 qq.length 1])),c4+1+1+1⟩)∧
       RRep E4 (fun k=> k < E.length) v o∧
       (((E4++[(c4,some (qq.map enc))]++[(c4+1,some [V.sl E4.length c4 0 qq.length 1])]).set (E.length+1) (c4+1+1,some (vn4++[V.sl E4.length c4 0 qq.length 1])))[E.length+1]? =some (c4+1+1,some (vn4++[V.sl E4.length c4 0 qq.length 1]))∧
       Rws ((E4++[(c4,some (qq.map enc))]++[(c4+1,some [V.sl E4.length c4 0 qq.length 1])]).set (E.length+1) (c4+1+1,some (vn4++[V.sl E4.length c4 0 qq.length 1]))) (fun k=> k≠E.length+1) (vn4++[V.sl E4.length c4 0 qq.length 1]) nn∧
       ((E4++[(c4,some (qq.map enc))]++[(c4+1,some [V.sl E4.length c4 0 qq.length 1])]).set (E.length+1) (c4+1+1,some (vn4++[V.sl E4.length c4 0 qq.length 1])))[E.length]? =some (c,some (q.map enc))∧
       (∀k,k < E.length→((E4++[(c4,some (qq.map enc))]++[(c4+1,some [V.sl E4.length c4 0 qq.length 1])]).set (E.length+1) (c4+1+1,some (vn4++[V.sl E4.length c4 0 qq.length 1])))[k]? =E[k]?)∧nn.length=st.1.length+1):=by
      intro E4 c4 un4 vn4 a1 a2 a3 a4;have hN4:E.length+1 < E4.length:=(List.getElem?_eq_some_iff.1 a1).1;obtain⟨p1,p2,rfl⟩:=app_w gnn;have pre:∀x y (k:Nat),k < E4.length→(E4++[x]++[y])[k]? =E4[k]?:=fun x y k hk=> by rw[wP]; exact List.getElem?_append_left hk
      refine⟨(a4 ko hko).trans g1,(v2.frame (B':=fun _=> True) fun k hk _=>⟨a4 k hk,trivial⟩).fz c4 10,frz_row a3,qZ (E:=E4++[(c4,some (qq.map enc))]++[(c4+1,some [V.sl E4.length c4 0 qq.length 1])]) ((pre _ _ _ hN4).trans a1) a2.len (by simpa using p1) (by simpa using p2),v2.frame fun k hk _=>⟨a4 k hk,hk⟩,qk (by simp; omega),?_,?_,fun k hk=>?_,by simp⟩
      ·exact(a2.frame fun k hk hne=>⟨(qo hne).trans (pre _ _ k hk),hne⟩).snoc ⟨_,_,rfl,(qo (by omega)).trans (ge2a ..),by omega⟩
      ·exact(qo (by omega)).trans ((pre _ _ _ (by omega)).trans a3)
      ·exact(qo (by omega)).trans ((pre _ _ k (by omega)).trans (a4 k hk))
     have hoc:k < (out.length:Int):=oc;cases put with
     |true=>
      unfold F131_3_C at gcnd;rw[if_pos rfl]at gcnd;cases gcnd;rw[if_neg wD]at gst;cases gst;obtain⟨b1,b2,b3,b4,b5,b6,b7,b8,b9,b10⟩:=step E3 c3 un vn f1 f2 f3 f4;simp only at b4 b10;obtain⟨kv,uv,rfl,w2,w3⟩:=b5;simp only[simprocAttr, -Int.reduceNatCast',R1,b131_3,hl_1,h0_1,h1_1,h5_1,h6_1,h7_1,h8_1,h11_1,h12_1,h13_1,hw3,eq_true hlt3,oa,k1,ov,ya,eq_true yc,oy,w2,b2,b3,wqq,wbq,qI,zb,le1,qB,ge2a,ge2b,b4];refine ai rfl ⟨_,_,b6,b7,b8,b9,?_⟩;simp only[simprocAttr, -Int.reduceNatCast',R1,hl_1,h0_1,h1_1,h5_1,h6_1,h7_1,h8_1,h11_1,h12_1,h13_1,hw3,b10]
     |false=>
      unfold F131_3_C at gcnd;rw[if_neg wD,go,Option.bind_some]at gcnd;obtain⟨ld,gld,gcnd⟩:=bS gcnd;have wld:ans A 81 [V.isl (o.map enc)]=some (V.int .i64 ld):=s81 o gld;have hE:=wA gcnd; subst hE;have wfv:=(v2.frame (E':=E3) (B':=fun _=> True) fun k hk _=>⟨f4 k hk,trivial⟩).fz c3 10;by_cases hld:at_ < ld
      ·rw[if_pos (by simpa using hld)]at gst
       obtain⟨n1,gn1,gst⟩:=bS gst;obtain⟨p1,p2,rfl⟩:=app_w gn1;have hE:=wA gst; subst hE;have wap:qQ 1 24 (.sl (E.length+1) un 0 nx.length 1) 1 [V.sl E.length c 0 q.length 1] ⟨E3++[(c3,some [V.sl E.length c 0 q.length 1])],c3+1⟩=_:=qZ (E:=E3++[(c3,some [V.sl E.length c 0 q.length 1])]) (by rw[List.getElem?_append_left hN1]; exact f1) f2.len (by simpa using p1) (by simpa using p2);have r1:Rws ((E3++[(c3,some [V.sl E.length c 0 q.length 1])]).set (E.length+1) (c3+1,some (vn++[V.sl E.length c 0 q.length 1]))) (fun k=> k≠E.length+1) (vn++[V.sl E.length c 0 q.length 1]) (nx++[q]):=
        (f2.frame fun k hk hne=>⟨(qo hne).trans (List.getElem?_append_left hk),hne⟩).snoc ⟨_,_,rfl,(qo (by omega)).trans ((List.getElem?_append_left (by omega)).trans f3),by omega⟩
       have hln:(nx++[q]).length=nx.length+1:=by simp
       obtain⟨b1,b2,b3,b4,b5,b6,b7,b8,b9,b10⟩:=step ((E3++[(c3,some [V.sl E.length c 0 q.length 1])]).set (E.length+1) (c3+1,some (vn++[V.sl E.length c 0 q.length 1]))) (c3+1+1) (c3+1) (vn++[V.sl E.length c 0 q.length 1]) (qk (by simp; omega)) r1 ((qo (by omega)).trans ((List.getElem?_append_left (by omega)).trans f3)) (fun k hk=>(qo (by omega)).trans ((List.getElem?_append_left (by omega)).trans (f4 k hk)));have hlb:((E3++[(c3,some [V.sl E.length c 0 q.length 1])]).set (E.length+1) (c3+1,some (vn++[V.sl E.length c 0 q.length 1]))).length=E3.length+1:=by simp
       have hge:=fun y z=> ge2b ((E3++[(c3,some [V.sl E.length c 0 q.length 1])]).set (E.length+1) (c3+1,some (vn++[V.sl E.length c 0 q.length 1]))) y z;simp only[hlb]at hge;simp only[hln,hlb]at b4 b6 b7 b8 b9 b10;obtain⟨kv,uv,rfl,w2,w3⟩:=b5;simp only[simprocAttr, -Int.reduceNatCast',R1,b131_3,hl_1,h0_1,h1_1,h5_1,h6_1,h7_1,h8_1,h11_1,h12_1,h13_1,hw3,eq_true hlt3,oa,k1,ov,wfv,wld,eq_true hld,ya,eq_true yc,oy,w2,b1,b2,b3,wap,wqq,wbq,qI,zb,le1,hlb,hge,qB,ge2a,ge2b,b4];refine ai rfl ⟨_,_,b6,b7,b8,b9,?_⟩;simp only[simprocAttr, -Int.reduceNatCast',R1,hl_1,h0_1,h1_1,h5_1,h6_1,h7_1,h8_1,h11_1,h12_1,h13_1,hw3,b10]
      ·rw[if_neg (by simpa using hld)]at gst
       have hE:=wA gst; subst hE;obtain⟨b1,b2,b3,b4,b5,b6,b7,b8,b9,b10⟩:=step E3 c3 un vn f1 f2 f3 f4;simp only at b4 b10;obtain⟨kv,uv,rfl,w2,w3⟩:=b5;simp only[simprocAttr, -Int.reduceNatCast',R1,b131_3,hl_1,h0_1,h1_1,h5_1,h6_1,h7_1,h8_1,h11_1,h12_1,h13_1,hw3,eq_true hlt3,oa,k1,ov,wfv,wld,eq_false hld,ya,eq_true yc,oy,w2,b2,b3,wqq,wbq,qI,zb,le1,qB,ge2a,ge2b,b4];refine ai rfl ⟨_,_,b6,b7,b8,b9,?_⟩;simp only[simprocAttr, -Int.reduceNatCast',R1,hl_1,h0_1,h1_1,h5_1,h6_1,h7_1,h8_1,h11_1,h12_1,h13_1,hw3,b10]
    ·clear hl_1 h0_1 h1_1 h5_1 h6_1 h7_1 h8_1 h9_1 h10_1
     rintro k ⟨nx,put⟩ e ⟨E3,c3⟩ ⟨un,vn,f1,f2,f3,f4,hl_1,h0_1,h1_1,h5_1,h6_1,h7_1,h8_1,h11_1,h12_1,h13_1⟩ hge3 t3 ho3;unfold F131_3_D at ho3;have hE:=wA ho3; subst hE;simp only at f1 f2 f3 f4 h11_1 h12_1;have hN1:E.length+1 < E3.length:=(List.getElem?_eq_some_iff.1 f1).1;cases put with
     |true=>
      simp only[simprocAttr, -Int.reduceNatCast',R1,b131_3,hl_1,h0_1,h1_1,h5_1,h6_1,h7_1,h8_1,h11_1,h12_1,h13_1,eq_false hge3,hw];intro ht; subst ht;simp only[if_true]at ho;have hE:=wA ho; subst hE;refine ai rfl ⟨E.length+1,un,vn,f1,f2.frame fun k hk _=>⟨rfl,trivial⟩,?_⟩;simp only[simprocAttr, -Int.reduceNatCast',R1,hl_1,h0_1,h1_1,h5_1,h6_1,h7_1,h8_1,h11_1,h12_1,h13_1]
     |false=>
      simp only[simprocAttr, -Int.reduceNatCast',R1,b131_3,hl_1,h0_1,h1_1,h5_1,h6_1,h7_1,h8_1,h11_1,h12_1,h13_1,eq_false hge3,hw,le1,qB];intro ht; subst ht;rw[if_neg wD]at ho;obtain⟨n1,gn1,ho⟩:=bS ho;obtain⟨p1,p2,rfl⟩:=app_w gn1;have hE:=wA ho; subst hE;have wap:qQ 1 24 (.sl (E.length+1) un 0 nx.length 1) 1 [V.sl E.length c 0 q.length 1] ⟨E3++[(c3,some [V.sl E.length c 0 q.length 1])],c3+1⟩=_:=qZ (E:=E3++[(c3,some [V.sl E.length c 0 q.length 1])]) (by rw[List.getElem?_append_left hN1]; exact f1) f2.len (by simpa using p1) (by simpa using p2);have r1:Rws ((E3++[(c3,some [V.sl E.length c 0 q.length 1])]).set (E.length+1) (c3+1,some (vn++[V.sl E.length c 0 q.length 1]))) (fun k=> k≠E.length+1) (vn++[V.sl E.length c 0 q.length 1]) (nx++[q]):=
       (f2.frame fun k hk hne=>⟨(qo hne).trans (List.getElem?_append_left hk),hne⟩).snoc ⟨_,_,rfl,(qo (by omega)).trans ((List.getElem?_append_left (by omega)).trans f3),by omega⟩
      simp only[simprocAttr, -Int.reduceNatCast',R1,b131_3,hl_1,h0_1,h1_1,h5_1,h6_1,h7_1,h8_1,h11_1,h12_1,h13_1,eq_false hge3,hw,le1,qB,wap];refine ai rfl ⟨E.length+1,c3+1,_,qk (by simp; omega),r1.frame fun k hk _=>⟨rfl,trivial⟩,?_⟩;simp only[simprocAttr, -Int.reduceNatCast',R1,hl_1,h0_1,h1_1,h5_1,h6_1,h7_1,h8_1,h11_1,h12_1,h13_1,wL]
 ·clear hl_0 h0_0 h1_0
  rintro i out e ⟨E,c⟩ ⟨ko,uo,vs,g1,g2,hl_1,h0_1,h1_1,h5_1,h6_1⟩ hge t1 ho;unfold F131_1_D at ho;have hE:=wA ho; subst hE;simp only at g1 g2;simp only[simprocAttr, -Int.reduceNatCast',R1,b131_1,hl_1,h0_1,h1_1,h5_1,h6_1,eq_false hge];intro ht; subst ht;refine ai (fun _=> trivial) ⟨_,?_,ko,uo,vs,rfl,g1,g2⟩;simp only[simprocAttr, -Int.reduceNatCast',R1,qe,p131,Rs.ev,hl_1,h5_1]
theorem s131(p:Int)(rows:List (List Int)){r:List (List Int)}(hF:F131 p rows=some r):ans A 131 [V.int .i64 p,V.isl (rows.map enc)]=some (enc r):=by
 obtain⟨_,h',h1,k,u,vs,rfl,h2,h3⟩:=d131 p rows hF;have:=h3.fz h'.clk h2;unfold ans;rw[h1];exact this
def F122_1_B(a0:Int)(a1:Int)(a2:List (List Int))(v9_1:Int)(s:(List (List Int))×Int):Option (((List (List Int))×Int)⊕((List (List Int))×Int)):=
 match s with
 |(o0_1,v8_1)=>
  (mkL 8 a1 0).bind fun l5=>
  (getI l5 v9_1).bind fun x7=>
  (setI l5 v9_1 1).bind fun l9=>
  (getI a2 v9_1).bind fun x11=>
  (F94 x11).bind fun x13=>
  (app 8 x13 l9).bind fun l16=>
  (app 24 o0_1 [l16]).bind fun l18=>
  some (.inl (l18,(x11.length:Int)))
def F122_1_D(a0:Int)(a1:Int)(a2:List (List Int))(v9_1:Int)(s:(List (List Int))×Int):Option ((List (List Int))×Int):=
 match s with
 |(o0_1,v8_1)=>
  some (o0_1,v8_1)
def xx(zv8_1:Int)(x20:List (List Int))(v13_2:Int)(o1_2:(List (List Int))):Option (((List (List Int)))⊕((List (List Int)))):=
 (getI x20 v13_2).bind fun x26=>
(F81 x26).bind fun x28=>
if zv8_1≤x28 then
 (slI x26 zv8_1 (x26.length:Int)).bind fun l31=>
 (F94 l31).bind fun x33=>
 (app 24 o1_2 [x33]).bind fun l36=>
 some (.inl l36)
else
 some (.inl o1_2)
def kn(zv8_1:Int)(x20:List (List Int))(v13_2:Int)(o1_2:(List (List Int))):Option ((List (List Int))):=
 some o1_2
def F122(a0:Int)(a1:Int)(a2:List (List Int)):Option (List (List Int)):=
 (forR 0 a1 (F122_1_B a0 a1 a2) (F122_1_D a0 a1 a2) ([],0)).bind fun t19=> match t19 with
  |(zo0_1,zv8_1)=>
   (F131 a0 zo0_1).bind fun x20=>
   (forR 0 (x20.length:Int) (xx zv8_1 x20) (kn zv8_1 x20) ([]:(List (List Int)))).bind fun zo1_2=>
   some zo1_2
def I122_1(a0:Int)(a1:Int)(a2:List (List Int))(v9_1:Int)(s:(List (List Int))×Int)(e:Env)(h:Heap):Prop:=
 match s with
 |(o0_1,v8_1)=>
  ∃u2 k3:Nat,h=⟨[(u2,some (o0_1.map enc))],k3⟩∧e.length=68∧e.at 0=V.int .i64 a0∧e.at 1=V.int .i64 a1∧e.at 2=V.isl (a2.map enc)∧e.at 7=V.sl 0 u2 0 o0_1.length 1∧e.at 8=V.int .i64 v8_1∧e.at 9=V.int .i64 v9_1
def P122_1(a0:Int)(a1:Int)(a2:List (List Int))(t:(List (List Int))×Int)(x:Ex)(e:Env)(h:Heap):Prop:=
 match t with
 |(zo0_1,zv8_1)=>
  x= .normal∧∃u2 k3:Nat,h=⟨[(u2,some (zo0_1.map enc))],k3⟩∧e.length=68∧e.at 0=V.int .i64 a0∧e.at 7=V.sl 0 u2 0 zo0_1.length 1∧e.at 8=V.int .i64 zv8_1
theorem l122_1(a0:Int)(a1:Int)(a2:List (List Int)){lo:Int}{s:(List (List Int))×Int}{t:(List (List Int))×Int}(hF:forR lo a1 (F122_1_B a0 a1 a2) (F122_1_D a0 a1 a2) s=some t){e:Env}{h:Heap}(hI:I122_1 a0 a1 a2 lo s e h):W A c122_1 e h (P122_1 a0 a1 a2 t):=by
 show W A (.block 0 (.loop false b122_1)) e h _;rw[qm];refine qJ hF 1 (by rcases s with⟨_,_⟩; obtain⟨_,_,rfl,_⟩:=hI; rfl) (I122_1 a0 a1 a2) hI ?_ ?_
 ·rintro v9_1 ⟨o0_1,v8_1⟩ e h ⟨u2,k3,rfl,h_1⟩ hlt hw o ho
  unfold F122_1_B at ho;dsimp only at ho;obtain⟨l5,gl5,ho⟩:=bS ho;obtain⟨w6a,w6b,w6c,w6d,w6e⟩:=mkL_w gl5;replace w6e:(List.replicate (Int.toNat a1) [V.int .i64 0]).flatten=List.map enc l5:=w6e;obtain⟨x7,gx7,ho⟩:=bS ho;obtain⟨w8a,w8b⟩:=qh gx7;have w8c:=qY gx7;replace w8c:v9_1 < (((Int.toNat a1):Nat):Int):=by first|exact w8c|(simp only[w6d]at w8c ⊢; exact w8c)
  have w8d:List.drop (Int.toNat v9_1) (l5.map enc)=(V.int .i64 x7)::List.drop ((Int.toNat v9_1)+1) (l5.map enc):=drop_enc w8b;obtain⟨l9,gl9,ho⟩:=bS ho;obtain⟨w10a,w10b,w10c,w10d,w10e⟩:=xp gl9;replace w10e:List.take (Int.toNat v9_1) (l5.map enc)++[V.int .i64 1]++List.drop (Int.toNat v9_1+1) (l5.map enc)=List.map enc l9:=w10e;obtain⟨x11,gx11,ho⟩:=bS ho;obtain⟨w12a,w12b⟩:=qh gx11;obtain⟨x13,gx13,ho⟩:=bS ho;have w14:tans A 94 [1] [V.isl (x11.map enc)]=some (V.isl (x13.map enc)):=t94 x11 gx13;have w14t:=zb (α:=Int) x13;obtain⟨l16,gl16,ho⟩:=bS ho;have w15:=fun a b c d e=> qD (α:=Int) (n:=x13.length) (m:=(Int.toNat a1)) (ds:=List.map enc l9) gl16 (by first|rfl|simp only[w6d,w10d]) (by first|rfl|simp only[w6d,w10d]) rfl a b c d e;have w15l:=qR gl16;obtain⟨l18,gl18,ho⟩:=bS ho;have w17:=fun a b c d e=> qD (α:=List Int) (n:=o0_1.length) (m:=1) (ds:=[V.isl (l16.map enc)]) gl18 (by first|rfl|simp only[w6d,w10d]) (by first|rfl|simp only[w6d,w10d]) rfl a b c d e;have w17l:=qR gl18;cases ho;simp only[simprocAttr, -Int.reduceNatCast',R0,b122_1,h_1,eq_true hlt,hw,w6a,w6b,w6c,w6e,w8a,w8b,w8c,w8d,w10a,w10b,w10c,w10e,w12a,w12b,w14,w14t,jN (α:=Int) (l:=l9) (n:=(Int.toNat a1)) (by first|rfl|simp only[w6d,w10d]),eq_true (jZ (l:=l9) (n:=(Int.toNat a1)) (by first|rfl|simp only[w6d,w10d])),w15,zk (α:=Int) l16,w17];refine ai rfl (ei _ (ei _ (ai rfl ?_)));simp only[simprocAttr, -Int.reduceNatCast',R0,h_1,eq_true hlt,hw,w6a,w6b,w6c,w6e,w8a,w8b,w8c,w8d,w10a,w10b,w10c,w10e,w12a,w12b,w14,w14t,jN (α:=Int) (l:=l9) (n:=(Int.toNat a1)) (by first|rfl|simp only[w6d,w10d]),eq_true (jZ (l:=l9) (n:=(Int.toNat a1)) (by first|rfl|simp only[w6d,w10d])),w15,zk (α:=Int) l16,w17,w6d,w10d]
 ·rintro v9_1 ⟨o0_1,v8_1⟩ e h ⟨u2,k3,rfl,h_1⟩ hge t1 ho
  unfold F122_1_D at ho;dsimp only at ho;cases ho;simp only[simprocAttr, -Int.reduceNatCast',R0,b122_1,h_1,eq_false hge];intro ht; subst ht;refine ai rfl (ei _ (ei _ (ai rfl ?_)));simp only[simprocAttr, -Int.reduceNatCast',R0,h_1,eq_false hge]
theorem d122(a0:Int)(a1:Int)(a2:List (List Int)){r:List (List Int)}(hF:F122 a0 a1 a2=some r):∃v h',res A 122 [V.int .i64 a0,V.int .i64 a1,V.isl (a2.map enc)] Heap.empty=some (v,h')∧∃K,Deep.rep h' v r K:=by
 refine res_dp (f:=p122) rfl rfl rfl fun e hl he=>?_;have h0_0:e.at 0=V.int .i64 a0:=he 0 _ rfl;have h1_0:e.at 1=V.int .i64 a1:=he 1 _ rfl;have h2_0:e.at 2=V.isl (a2.map enc):=he 2 _ rfl;have hl_0:e.length=68:=hl;clear he hl;show W A b122 e ⟨[],0⟩ _;unfold F122 at hF;obtain⟨⟨zo0_1,zv8_1⟩,gt19,hF⟩:=bS hF;dsimp only at hF;simp only[simprocAttr, -Int.reduceNatCast',R0,b122, *];refine W.mono (l122_1 a0 a1 a2 gt19 (ei _ (ei _ (ai rfl ?_)))) ?_
 ·simp only[simprocAttr, -Int.reduceNatCast',R0, *]
 rintro _ e _ ⟨rfl,u2,k3,rfl,hl_4,h0_4,h7_4,h8_4⟩;obtain⟨x20,gx20,hF⟩:=bS hF;have w21:=s131 a0 zo0_1 gx20;obtain⟨zo1_2,gt37,hF⟩:=bS hF;have hE:=wA hF; subst hE;simp only[simprocAttr, -Int.reduceNatCast',R0,zk (α:=List Int) zo0_1, *];show W A (.block 2 (.loop true b122_2)) _ _ _;rw[qm];refine qJ gt37 _ rfl (fun i s e h=>∃v,∃K:Ks,Deep.rep h v s K∧e.length=68∧e.at 8=V.int .i64 zv8_1∧e.at 11=V.isl (x20.map enc)∧e.at 12=v∧e.at 13=V.int .i64 i) ?_ ?_ ?_
 ·refine⟨V.sl 1 k3 0 0 1,fun k=> k=1∨False,rep_at (α:=List Int) (l:=[]) (K:=fun _=> False) (h:=⟨[(0,none),(k3,some [])],k3+1⟩) rfl (fun _ x=> x) (fun x=> x),?_⟩
  simp only[simprocAttr, -Int.reduceNatCast',R0, *]
 ·clear hl_4 h0_4 h7_4 h8_4 hl_0 h0_0 h1_0 h2_0 gt19
  rintro i s e ⟨E,c⟩ ⟨v,K,g1,hl_1,h8_1,h11_1,h12_1,h13_1⟩ hlt hw oo ho;unfold xx at ho;obtain⟨x26,gx26,ho⟩:=bS ho;obtain⟨w27a,w27b⟩:=qh gx26;obtain⟨x28,gx28,ho⟩:=bS ho;have w29:=s81 x26 gx28;by_cases c30:zv8_1≤x28
  ·rw[if_pos c30]at ho
   obtain⟨l31,gl31,ho⟩:=bS ho;have w32:jY 1 (V.isl (x26.map enc)) (some (V.int .i64 zv8_1)) none=some (V.isl (l31.map enc)):=xP (α:=Int) One.one gl31 (.inr rfl) (.inl ⟨rfl,rfl⟩);obtain⟨x33,gx33,ho⟩:=bS ho;have w34:tans A 94 [1] [V.isl (l31.map enc)]=some (V.isl (x33.map enc)):=t94 l31 gx33;obtain⟨l36,gl36,ho⟩:=bS ho;have hE:=wA ho; subst hE;have pre2:∀ (x y:Nat×Option (List V)) k,k < E.length→(E++[x]++[y])[k]? =E[k]?:=fun x y k q=> by rw[wP]; exact List.getElem?_append_left q
   obtain⟨v',E',c',K',p1,p2,p3,p4,p5⟩:=append_rep (E:=E++[(c,some (x33.map enc))]++[(c+1,some [V.sl E.length c 0 x33.length 1])]) (c:=c+1+1) (Deep.frame g1 fun k q=> pre2 _ _ k (Deep.bd g1 q)) (js (l:=x33) (ge2a ..) fun k=> vY) (fun k q e=> by have:=Deep.bd g1 q; simp only at this; omega) gl36;simp only[simprocAttr, -Int.reduceNatCast',R0,b122_2,qI,zb,qB,le1,ge2a,ge2b,p1, *];refine ai rfl ⟨v',K',p2,?_⟩;simp only[simprocAttr, -Int.reduceNatCast',R0, *]
  ·rw[if_neg c30]at ho
   have hE:=wA ho; subst hE;simp only[simprocAttr, -Int.reduceNatCast',R0,b122_2, *];refine ai rfl ⟨v,K,g1,?_⟩;simp only[simprocAttr, -Int.reduceNatCast',R0, *]
 ·clear hl_4 h0_4 h7_4 h8_4 hl_0 h0_0 h1_0 h2_0 gt19
  rintro i s e ⟨E,c⟩ ⟨v,K,g1,hl_1,h8_1,h11_1,h12_1,h13_1⟩ hge t1 ho;unfold kn at ho;have hE:=wA ho; subst hE;simp only[simprocAttr, -Int.reduceNatCast',R0,b122_2, *];intro ht; subst ht;refine ai (fun _=> trivial) ⟨v,?_,K,g1⟩;simp only[simprocAttr, -Int.reduceNatCast',R0,qe,p122,Rs.ev, *]
theorem x122(a0:Int)(a1:Int)(a2:List (List Int)){r:List (List Int)}(hF:F122 a0 a1 a2=some r):tans A 122 [1,1] [V.int .i64 a0,V.int .i64 a1,V.isl (a2.map enc)]=some (enc r):=xn (α:=List (List Int)) (by decide) (d122 a0 a1 a2 hF)
def F98(a0:qa)(a1:Int):Option (List (List Int)):=
 (F99 a0 a1).bind fun x1=>
 (F76 a0 a1).bind fun x3=>
 (F122 a0.Prime x1 x3).bind fun x5=>
 some x5
theorem d98(a0:qa)(a1:Int){r:List (List Int)}(hF:F98 a0 a1=some r):∃v h',res A 98 [(eC a0),V.int .i64 a1] Heap.empty=some (v,h')∧∃K,Deep.rep h' v r K:=by
 refine res_dp (f:=p98) rfl rfl rfl fun e hl he=>?_;have h0_0:e.at 0=(eC a0):=he 0 _ rfl;have h1_0:e.at 1=V.int .i64 a1:=he 1 _ rfl;have hl_0:e.length=14:=hl;clear he hl;show W A b98 e ⟨[],0⟩ _;unfold F98 at hF;obtain⟨x1,gx1,hF⟩:=bS hF;have w1:=s99 a0 a1 gx1;obtain⟨x2,gx2,hF⟩:=bS hF;have w2:=s76 a0 a1 gx2;obtain⟨x3,gx3,hF⟩:=bS hF;have w3:tans A 122 [1,1] [V.int .i64 a0.Prime,V.int .i64 x1,V.isl (x2.map enc)]=some (V.isl (x3.map enc)):=x122 a0.Prime x1 x2 gx3;have hE:=wA hF; subst hE;obtain⟨v,⟨E1,c1⟩,K,t1,t2,t3,t4,t5⟩:=thawD (α:=List (List Int)) (by decide) x3 ⟨[(0,none)],1⟩;have t1':thaw 16 [1,1] (V.isl (x3.map enc)) ⟨[(0,none)],1⟩=some (v,⟨E1,c1⟩):=t1;simp only[simprocAttr, -Int.reduceNatCast',R0,b98,qI,t1', *];refine ai (fun _=> trivial) ⟨v,?_,K,t2⟩;simp only[simprocAttr, -Int.reduceNatCast',R0,qe,p98,Rs.ev, *]
theorem x98(a0:qa)(a1:Int){r:List (List Int)}(hF:F98 a0 a1=some r):tans A 98 [1,1] [(eC a0),V.int .i64 a1]=some (enc r):=xn (α:=List (List Int)) (by decide) (d98 a0 a1 hF)
theorem s98(a0:qa)(a1:Int){r:List (List Int)}(hF:F98 a0 a1=some r):ans A 98 [(eC a0),V.int .i64 a1]=some (enc r):=ans_of_deep (α:=List (List Int)) (by decide) (d98 a0 a1 hF)
def F424_1_S(a1:Int)(x1:T2 Int qi)(s:(List U8)×Int×Int×(List Int)×Int):Option (((List U8)×Int×Int×(List Int)×Int)⊕((List U8)×Int×Int×(List Int))):=
 match s with
 |(q0_0_1,q0_1_1,q0_2_1,o1_1,v2_1)=>
  if 0 < v2_1 then
   if x1.a=0 then
    (F416 ⟨q0_0_1,q0_1_1,q0_2_1⟩ a1).bind fun x9=>
    (app 8 o1_1 [x9.a]).bind fun l12=>
    (chk (v2_1 - 1)).bind fun x13=>
    some (.inl (x9.b.code,x9.b.at_,x9.b.hash,l12,x13))
   else
    (F416 ⟨q0_0_1,q0_1_1,q0_2_1⟩ 2).bind fun x14=>
    if x14.a=0 then
     (F416 x14.b a1).bind fun x17=>
     (app 8 o1_1 [x17.a]).bind fun l20=>
     (chk (v2_1 - 1)).bind fun x21=>
     some (.inl (x17.b.code,x17.b.at_,x17.b.hash,l20,x21))
    else
     (app 8 o1_1 [0]).bind fun l23=>
     (chk (v2_1 - 1)).bind fun x24=>
     some (.inl (x14.b.code,x14.b.at_,x14.b.hash,l23,x24))
  else
   some (.inr (q0_0_1,q0_1_1,q0_2_1,o1_1))
def F424(src:qi)(a1:Int)(a2:Int):Option (T2 (List Int) qi):=
 (F416 src 3).bind fun x1=>
 (ze (F424_1_S a1 x1) (x1.b.code,x1.b.at_,x1.b.hash,[],a2)).bind fun t25=> match t25 with
  |(zq0_0_1,zq0_1_1,zq0_2_1,zo1_1)=>
   some ⟨zo1_1,⟨zq0_0_1,zq0_1_1,zq0_2_1⟩⟩
def I424_1(a1:Int)(x1:T2 Int qi)(s:(List U8)×Int×Int×(List Int)×Int)(e:Env)(h:Heap):Prop:=
 match s with
 |(q0_0_1,q0_1_1,q0_2_1,o1_1,v2_1)=>
  ∃u4 k5:Nat,h=⟨[(0,some [V.isl (q0_0_1.map enc),V.int .i64 q0_1_1,V.int .u64 q0_2_1]),(u4,some (o1_1.map enc))],k5⟩∧e.length=33∧e.at 0=V.ptr 0 0 0∧e.at 1=V.int .i64 a1∧e.at 2=V.int .i64 v2_1∧e.at 7=V.sl 1 u4 0 o1_1.length 1∧e.at 8=V.int .i64 x1.a
def P424_1(a1:Int)(x1:T2 Int qi)(t:(List U8)×Int×Int×(List Int))(x:Ex)(e:Env)(h:Heap):Prop:=
 match t with
 |(zq0_0_1,zq0_1_1,zq0_2_1,zo1_1)=>
  x= .normal∧∃u4 k5:Nat,h=⟨[(0,some [V.isl (zq0_0_1.map enc),V.int .i64 zq0_1_1,V.int .u64 zq0_2_1]),(u4,some (zo1_1.map enc))],k5⟩∧e.length=33∧e.at 7=V.sl 1 u4 0 zo1_1.length 1
theorem l424_1(a1:Int)(x1:T2 Int qi){s:(List U8)×Int×Int×(List Int)×Int}{t:(List U8)×Int×Int×(List Int)}(hF:ze (F424_1_S a1 x1) s=some t){e:Env}{h:Heap}(hI:I424_1 a1 x1 s e h):W A c424_1 e h (P424_1 a1 x1 t):=by
 show W A (.block 0 (.loop false b424_1)) e h _;rw[qm];refine jG hF 2 (by rcases s with⟨_,_,_,_,_⟩; obtain⟨_,_,rfl,_⟩:=hI; rfl) (I424_1 a1 x1) hI ?_
 ·rintro⟨q0_0_1,q0_1_1,q0_2_1,o1_1,v2_1⟩ e h ⟨u4,k5,rfl,h_3⟩ o ho
  unfold F424_1_S at ho;dsimp only at ho;by_cases c7:0 < v2_1
  ·rw[if_pos c7]at ho
   by_cases c8:x1.a=0
   ·rw[if_pos c8]at ho
    obtain⟨x9,gx9,ho⟩:=bS ho;have w10:xans A 416 [V.isl (q0_0_1.map enc),V.int .i64 q0_1_1,V.int .u64 q0_2_1] [V.int .i64 a1]=some (V.int .i64 x9.a,[V.isl (x9.b.code.map enc),V.int .i64 x9.b.at_,V.int .u64 x9.b.hash]):=s416 ⟨q0_0_1,q0_1_1,q0_2_1⟩ a1 gx9;obtain⟨l12,gl12,ho⟩:=bS ho;have w11:=fun a b c d e=> qD (α:=Int) (n:=o1_1.length) (m:=1) (ds:=[V.int .i64 x9.a]) gl12 (by first|rfl|simp) (by first|rfl|simp) rfl a b c d e;have w11l:=qR gl12;obtain⟨x13,gx13,ho⟩:=bS ho;have wx13:=qy gx13;cases ho;simp only[simprocAttr,R0,b424_1,qf, *];refine ai rfl (ei _ (ei _ (ai rfl ?_)));simp only[simprocAttr,R0,qf, *]
   ·rw[if_neg c8]at ho
    obtain⟨x14,gx14,ho⟩:=bS ho;have w15:xans A 416 [V.isl (q0_0_1.map enc),V.int .i64 q0_1_1,V.int .u64 q0_2_1] [V.int .i64 2]=some (V.int .i64 x14.a,[V.isl (x14.b.code.map enc),V.int .i64 x14.b.at_,V.int .u64 x14.b.hash]):=s416 ⟨q0_0_1,q0_1_1,q0_2_1⟩ 2 gx14;by_cases c16:x14.a=0
    ·rw[if_pos c16]at ho
     obtain⟨x17,gx17,ho⟩:=bS ho;have w18:xans A 416 [V.isl (x14.b.code.map enc),V.int .i64 x14.b.at_,V.int .u64 x14.b.hash] [V.int .i64 a1]=some (V.int .i64 x17.a,[V.isl (x17.b.code.map enc),V.int .i64 x17.b.at_,V.int .u64 x17.b.hash]):=s416 x14.b a1 gx17;obtain⟨l20,gl20,ho⟩:=bS ho;have w19:=fun a b c d e=> qD (α:=Int) (n:=o1_1.length) (m:=1) (ds:=[V.int .i64 x17.a]) gl20 (by first|rfl|simp) (by first|rfl|simp) rfl a b c d e;have w19l:=qR gl20;obtain⟨x21,gx21,ho⟩:=bS ho;have wx21:=qy gx21;cases ho;simp only[simprocAttr,R0,b424_1,qf,qf, *];refine ai rfl (ei _ (ei _ (ai rfl ?_)));simp only[simprocAttr,R0,qf,qf, *]
    ·rw[if_neg c16]at ho
     obtain⟨l23,gl23,ho⟩:=bS ho;have w22:=fun a b c d e=> qD (α:=Int) (n:=o1_1.length) (m:=1) (ds:=[V.int .i64 0]) gl23 (by first|rfl|simp) (by first|rfl|simp) rfl a b c d e;have w22l:=qR gl23;obtain⟨x24,gx24,ho⟩:=bS ho;have wx24:=qy gx24;cases ho;simp only[simprocAttr,R0,b424_1,qf, *];refine ai rfl (ei _ (ei _ (ai rfl ?_)));simp only[simprocAttr,R0,qf, *]
  ·rw[if_neg c7]at ho
   cases ho;simp only[simprocAttr,R0,b424_1, *];intro ht; subst ht;simp only[simprocAttr,RR,RB];refine ai rfl (ei _ (ei _ (ai rfl ?_)));simp only[simprocAttr,R0, *]
theorem s424(src:qi)(a1:Int)(a2:Int){r:T2 (List Int) qi}(hF:F424 src a1 a2=some r):xans A 424 [V.isl (src.code.map enc),V.int .i64 src.at_,V.int .u64 src.hash] [V.int .i64 a1,V.int .i64 a2]=some (V.isl (r.a.map enc),[V.isl (r.b.code.map enc),V.int .i64 r.b.at_,V.int .u64 r.b.hash]):=by
 refine xN (f:=p424) rfl rfl rfl fun e hl h0 he=>?_;have h0_0:e.at 0=V.ptr 0 0 0:=h0;have h1_0:e.at 1=V.int .i64 a1:=he 0 _ rfl;have h2_0:e.at 2=V.int .i64 a2:=he 1 _ rfl;have hl_0:e.length=33:=hl;clear h0 he hl;show W A b424 e ⟨[(0,some [V.isl (src.code.map enc),V.int .i64 src.at_,V.int .u64 src.hash])],1⟩ _;unfold F424 at hF;obtain⟨x1,gx1,hF⟩:=bS hF;have w2:xans A 416 [V.isl (src.code.map enc),V.int .i64 src.at_,V.int .u64 src.hash] [V.int .i64 3]=some (V.int .i64 x1.a,[V.isl (x1.b.code.map enc),V.int .i64 x1.b.at_,V.int .u64 x1.b.hash]):=s416 src 3 gx1;obtain⟨⟨zq0_0_1,zq0_1_1,zq0_2_1,zo1_1⟩,gt25,hF⟩:=bS hF;dsimp only at hF;simp only[simprocAttr,R0,b424,qf, *];refine W.mono (l424_1 a1 x1 gt25 (ei _ (ei _ (ai rfl ?_)))) ?_
 ·simp only[simprocAttr,R0,qf, *]
 rintro _ e _ ⟨rfl,u4,k5,rfl,h_6⟩;cases hF;simp only[simprocAttr,R0, *];exact zp (by simp only[simprocAttr,R0,qe,p424,Rs.ev,qb,frzs (α:=Int) zo1_1,zk (α:=Int) zo1_1, *])
def F417_2_S(p:Int)(dims:List Int)(cyc:List (List Int))(n:Int)(s:(qi×List (List Int))×Int):Option (((qi×List (List Int))×Int)⊕(qi×List (List Int))):=
 (getI dims n).bind fun d=> if s.2 < d then(F424 s.1.1 p (cyc.length:Int)).bind fun x=>(chk (n - 1)).bind fun m=>(getI dims m).bind fun w=>(F80 p cyc x.a w).bind fun y=>(app 24 s.1.2 [y]).bind fun l=>(chk (s.2+1)).bind fun i=> some (.inl ((x.b,l),i))else some (.inr s.1)
def F417_1_B(p:Int)(dims:List Int)(n:Int)(s:qi×qa):Option ((qi×qa)⊕(qi×qa)):=
 (chk (n - 1)).bind fun m=>(F98 s.2 m).bind fun cyc=>(ze (F417_2_S p dims cyc n) ((s.1,[]),0)).bind fun t=>(getI dims n).bind fun d=>(app 8 s.2.Dims [d]).bind fun ds=>(app 24 s.2.Maps [t.2]).bind fun ms=> some (.inl (t.1,⟨s.2.Prime,ds,ms⟩))
def F417_1_D(n:Int)(s:qi×qa):Option (qi×qa):=some s
def F417(src:qi)(a1:Int)(a2:List Int):Option (T2 qa qi):=(getI a2 0).bind fun d0=>(forR 1 (a2.length:Int) (F417_1_B a1 a2) F417_1_D (src,⟨a1,[d0],[]⟩)).bind fun s=> some ⟨s.2,s.1⟩
theorem s417(src:qi)(a1:Int)(a2:List Int){r:T2 qa qi}(hF:F417 src a1 a2=some r):xans A 417 [V.isl (src.code.map enc),V.int .i64 src.at_,V.int .u64 src.hash] [V.int .i64 a1,V.isl (a2.map enc)]=some ((eC r.a),[V.isl (r.b.code.map enc),V.int .i64 r.b.at_,V.int .u64 r.b.hash]):=by
 refine xN (f:=p417) rfl rfl rfl fun e hl h0 he=>?_;have h0_0:e.at 0=V.ptr 0 0 0:=h0;have h1_0:e.at 1=V.int .i64 a1:=he 0 _ rfl;have h2_0:e.at 2=V.isl (a2.map enc):=he 1 _ rfl;have hl_0:e.length=70:=hl;clear h0 he hl;show W A b417 e ⟨[(0,some [V.isl (src.code.map enc),V.int .i64 src.at_,V.int .u64 src.hash])],1⟩ _;unfold F417 at hF;obtain⟨d0,gd0,hF⟩:=bS hF;obtain⟨da,db⟩:=qh gd0;replace db:a2[0]? =some d0:=db;obtain⟨s1,gt,hF⟩:=bS hF;have hE:=wA hF; subst hE;simp only[simprocAttr, -Int.reduceNatCast',R0,b417,hl_0,h0_0,h1_0,h2_0,da,db];show W A (.block 0 (.loop true b417_1)) _ _ _;rw[qm];refine qJ gt _ rfl (fun n s e h=> h.ents[0]? =some (0,some [V.isl (List.map enc s.1.code),V.int .i64 s.1.at_,V.int .u64 s.1.hash])∧h.ents[1]? =some (1,some [V.int .i64 0,V.nils,V.nils])∧(∃ud um,h.ents[2]? =some (ud,some (List.map enc s.2.Dims))∧h.ents[3]? =some (um,some (List.map enc s.2.Maps))∧h.ents[4]? =some (4,some [V.int .i64 s.2.Prime,V.sl 2 ud 0 s.2.Dims.length 1,V.sl 3 um 0 s.2.Maps.length 1]))∧e.length=70∧e.at 0=V.ptr 0 0 0∧e.at 1=V.int .i64 a1∧e.at 2=V.isl (a2.map enc)∧e.at 6=V.ptr 1 1 0∧e.at 7=V.ptr 4 4 0∧e.at 8=V.int .i64 n) ?_ ?_ ?_
 ·refine⟨rfl,rfl,⟨2,3,rfl,rfl,rfl⟩,?_⟩
  simp only[simprocAttr, -Int.reduceNatCast',R0,hl_0,h0_0,h1_0,h2_0]
 ·clear hl_0 h0_0 h1_0 h2_0 gt
  rintro n ⟨s,x⟩ e ⟨E,c⟩ ⟨g0,g1,⟨ud,um,g2,g3,g4⟩,hl_1,h0_1,h1_1,h2_1,h6_1,h7_1,h8_1⟩ hlt hw oo ho;simp only at g0 g1 g2 g3 g4;unfold F417_1_B at ho;simp only at ho;obtain⟨m,gm,ho⟩:=bS ho;have wm:=qy gm;obtain⟨cyc,gc,ho⟩:=bS ho;have wc:tans A 98 [1,1] [(eC x),V.int .i64 m]=some (V.isl (cyc.map enc)):=x98 x m gc;obtain⟨⟨s',rows⟩,gl,ho⟩:=bS ho;obtain⟨d,gd,ho⟩:=bS ho;obtain⟨dda,ddb⟩:=qh gd;obtain⟨ds,gds,ho⟩:=bS ho;obtain⟨ms,gms,ho⟩:=bS ho;have hE:=wA ho; subst hE;have hE4:4 < E.length:=(List.getElem?_eq_some_iff.1 g4).1;have z2:frz ⟨E,c⟩ 15 (V.sl 2 ud 0 x.Dims.length 1)=some (V.isl (x.Dims.map enc)):=frzE (α:=Int) g2 10;have z3:frz ⟨E,c⟩ 15 (V.sl 3 um 0 x.Maps.length 1)=some (V.isl (x.Maps.map enc)):=frzE (α:=List (List Int)) g3 10;obtain⟨v,⟨E1,c1⟩,K,t1,t2,t3,t4,t5⟩:=thawD (α:=List (List Int)) (by decide) cyc ⟨E,c⟩;have t1':thaw 16 [1,1] (V.isl (cyc.map enc)) ⟨E,c⟩=some (v,⟨E1,c1⟩):=t1;have bw:bare 16 [1,1] (V.isl (cyc.map enc))=true:=bareD (α:=List (List Int)) (by decide) cyc;simp only at t3 t4 t5;simp only[simprocAttr, -Int.reduceNatCast',R0,b417_1,hl_1,h0_1,h1_1,h2_1,h6_1,h7_1,h8_1,eq_true hlt,hw,wm,g4,z2,z3,qI,wc,bw,Bool.or_true,t1',qB];refine W.mono (Q:=fun x' e h=> x'= .normal∧∃uq,h.ents[0]? =some (0,some [V.isl (List.map enc s'.code),V.int .i64 s'.at_,V.int .u64 s'.hash])∧h.ents[1]? =E[1]?∧h.ents[2]? =E[2]?∧h.ents[3]? =E[3]?∧h.ents[4]? =E[4]?∧h.ents[E1.length]? =some (uq,some (rows.map enc))∧e.length=70∧e.at 0=V.ptr 0 0 0∧e.at 1=V.int .i64 a1∧e.at 2=V.isl (a2.map enc)∧e.at 6=V.ptr 1 1 0∧e.at 7=V.ptr 4 4 0∧e.at 8=V.int .i64 n∧e.at 10=V.sl E1.length uq 0 rows.length 1) ?_ ?_
  rotate_left
  ·rintro _ e ⟨E2,c2⟩ ⟨rfl,uq,q0,q1,q2,q3,q4,q6,hl_2,h0_2,h1_2,h2_2,h6_2,h7_2,h8_2,h10_2⟩
   simp only at q0 q1 q2 q3 q4 q6;rw[g1]at q1; rw[g2]at q2; rw[g3]at q3; rw[g4]at q4;have hE2:E1.length < E2.length:=(List.getElem?_eq_some_iff.1 q6).1;have n4:∀y z,((E2++[y]).set 2 z)[4]? =_:=fun y z=>(qK (by omega) (by omega)).trans q4;have p1:∀y c,qQ 1 8 (.sl 2 ud 0 x.Dims.length 1) 1 [V.int .i64 d] ⟨E2++[y],c⟩=_:=fun y c=> appE (α:=Int) (a:=d) (l2:=ds) ((List.getElem?_append_left (by omega)).trans q2) gds;have b4:∀ (y z w:Nat×Option (List V)),(((E2++[y]).set 2 z).set 4 w)[4]? =some w:=fun y z w=> qk (by simp; omega);have tq:∀y z w c,take 16 [] (.sl E1.length uq 0 rows.length 1) ⟨((E2++[y]).set 2 z).set 4 w,c⟩=_:=fun y z w c=> takeE (α:=List Int) ((qo (by omega)).trans ((qK (by omega) (by omega)).trans q6)) 11;have p2:∀y z w u y' c,qQ 1 24 (.sl 3 um 0 x.Maps.length 1) 1 [V.isl (rows.map enc)] ⟨(((E2++[y]).set 2 z).set 4 w).set E1.length u++[y'],c⟩=_:=fun y z w u y' c=> appE (α:=List (List Int)) (a:=rows) (l2:=ms) ((List.getElem?_append_left (by simp; omega)).trans ((qo (by omega)).trans ((qo (by omega)).trans ((qK (by omega) (by omega)).trans q3)))) gms;have c4:∀ (y z w u y' z':Nat×Option (List V)),(((((E2++[y]).set 2 z).set 4 w).set E1.length u++[y']).set 3 z')[4]? =some w:=fun y z w u y' z'=>(qo (by omega)).trans ((List.getElem?_append_left (by simp; omega)).trans ((qo (by omega)).trans (b4 y z w)));simp only[simprocAttr, -Int.reduceNatCast',R0,hl_2,h0_2,h1_2,h2_2,h6_2,h7_2,h8_2,h10_2,dda,ddb,q4,n4,p1,b4,tq,p2,c4,qB,hw];refine ai rfl ⟨?_,?_,⟨c2+1,c2+1+1+1,?_,?_,?_⟩,?_⟩
   ·exact(qo (by omega)).trans ((qo (by omega)).trans ((List.getElem?_append_left (by simp <;> omega)).trans ((qo (by omega)).trans ((qo (by omega)).trans ((qK (by omega) (by omega)).trans q0)))))
   ·exact(qo (by omega)).trans ((qo (by omega)).trans ((List.getElem?_append_left (by simp <;> omega)).trans ((qo (by omega)).trans ((qo (by omega)).trans ((qK (by omega) (by omega)).trans q1)))))
   ·exact(qo (by omega)).trans ((qo (by omega)).trans ((List.getElem?_append_left (by simp <;> omega)).trans ((qo (by omega)).trans ((qo (by omega)).trans (qk (by simp; omega))))))
   ·exact(qo (by omega)).trans (qk (by simp; omega))
   ·exact qk (by simp; omega)
   simp only[simprocAttr, -Int.reduceNatCast',R0,hl_2,h0_2,h1_2,h2_2,h6_2,h7_2,h8_2,h10_2,hw]
  show W A (.block 2 (.loop true b417_2)) _ _ _;rw[qm];refine jG gl _ rfl (fun s e h=>∃uq,h.ents[0]? =some (0,some [V.isl (List.map enc s.1.1.code),V.int .i64 s.1.1.at_,V.int .u64 s.1.1.hash])∧h.ents[1]? =E[1]?∧h.ents[2]? =E[2]?∧h.ents[3]? =E[3]?∧h.ents[4]? =E[4]?∧Deep.rep h v cyc K∧h.ents[E1.length]? =some (uq,some (List.map enc s.1.2))∧e.length=70∧e.at 0=V.ptr 0 0 0∧e.at 1=V.int .i64 a1∧e.at 2=V.isl (a2.map enc)∧e.at 6=V.ptr 1 1 0∧e.at 7=V.ptr 4 4 0∧e.at 8=V.int .i64 n∧e.at 9=v∧e.at 10=V.sl E1.length uq 0 s.1.2.length 1∧e.at 11=V.int .i64 s.2) ?_ ?_
  ·have o:∀k,k < E.length→(E1++[(c1,some [])])[k]? =E[k]?:=fun k hk=>(List.getElem?_append_left (by omega)).trans (t5 k hk)
   refine⟨c1,(o 0 (by omega)).trans g0,o 1 (by omega),o 2 (by omega),o 3 (by omega),o 4 hE4,Deep.frame t2 fun k q=> List.getElem?_append_left (t3 k q).2,qB _ _,?_⟩;simp only[simprocAttr, -Int.reduceNatCast',R0,hl_1,h0_1,h1_1,h2_1,h6_1,h7_1,h8_1]
  ·clear g0 g2 g3 g4 z2 z3 hl_1 h0_1 h1_1 h2_1 h6_1 h7_1 h8_1 t1 t1' t2 t5 bw wc gl
   rintro⟨⟨s,rows⟩,i⟩ e ⟨E2,c2⟩ ⟨uq,g0,q1,q2,q3,q4,q5,q6,hl_1,h0_1,h1_1,h2_1,h6_1,h7_1,h8_1,h9_1,h10_1,h11_1⟩ oo ho;simp only at g0 q1 q2 q3 q4 q6 h10_1 h11_1;unfold F417_2_S at ho;simp only at ho;obtain⟨d,gd,ho⟩:=bS ho;obtain⟨dda,ddb⟩:=qh gd;have hE2:E1.length < E2.length:=(List.getElem?_eq_some_iff.1 q6).1;by_cases c1:i < d
   ·rw[if_pos c1]at ho
    obtain⟨z,gz,ho⟩:=bS ho;have wz:xans A 424 [V.isl (s.code.map enc),V.int .i64 s.at_,V.int .u64 s.hash] [V.int .i64 a1,V.int .i64 (cyc.length:Int)]=some (V.isl (z.a.map enc),[V.isl (z.b.code.map enc),V.int .i64 z.b.at_,V.int .u64 z.b.hash]):=s424 s a1 (cyc.length:Int) gz;obtain⟨m,gm,ho⟩:=bS ho;have wm:=qy gm;obtain⟨w,gw,ho⟩:=bS ho;obtain⟨wwa,wwb⟩:=qh gw;obtain⟨y,gy,ho⟩:=bS ho;have wy:tans A 80 [1] [V.int .i64 a1,V.isl (cyc.map enc),V.isl (z.a.map enc),V.int .i64 w]=some (V.isl (y.map enc)):=t80 a1 cyc z.a w gy;obtain⟨l,gl,ho⟩:=bS ho;obtain⟨i',gi,ho⟩:=bS ho;have wi:=qy gi;have hE:=wA ho; subst hE;have hlen:=rep_len q5;have zf:∀u c,frz ⟨E2.set 0 u,c⟩ 16 v=some (V.isl (cyc.map enc)):=fun u c=> Deep.fz (α:=List (List Int)) (K:=K) (Deep.frame q5 fun k q=> qo (by have:=t3 k q; omega)) 10;have tq:∀u c,take 16 [] (.sl (E2.set 0 u).length c2 0 y.length 1) ⟨E2.set 0 u++[(c2,some (y.map enc))],c⟩=_:=fun u c=> takeE (α:=Int) (qB _ _) 11;have p1:∀u a b c,qQ 1 24 (.sl E1.length uq 0 rows.length 1) 1 [V.isl (y.map enc)] ⟨E2.set 0 u++[a]++[b],c⟩=_:=fun u a b c=> appE (α:=List Int) (a:=y) (l2:=l) (by rw[wP]; exact(List.getElem?_append_left (by simp; omega)).trans ((qo (by omega)).trans q6)) gl;simp only[simprocAttr, -Int.reduceNatCast',R0,b417_2,hl_1,h0_1,h1_1,h2_1,h6_1,h7_1,h8_1,h9_1,h10_1,h11_1,dda,ddb,eq_true c1,hlen,qf,wz,g0,wm,wwa,wwb,qI,zf,wy,bare_one (α:=Int) y,Bool.or_true,zb,tq,jw,qB,p1,wi];have o:∀u a b z k,k < E2.length→k≠E1.length→((E2.set 0 u++[a]++[b]).set E1.length z)[k]? =(E2.set 0 u)[k]?:=fun u a b z k h1 h2=>(qo h2).trans (by rw[wP]; exact List.getElem?_append_left (by simp; omega));refine ai rfl ⟨_,(o _ _ _ _ 0 (by omega) (by omega)).trans (qk (by omega)),(o _ _ _ _ 1 (by omega) (by omega)).trans ((qo (by omega)).trans q1),(o _ _ _ _ 2 (by omega) (by omega)).trans ((qo (by omega)).trans q2),(o _ _ _ _ 3 (by omega) (by omega)).trans ((qo (by omega)).trans q3),(o _ _ _ _ 4 (by omega) (by omega)).trans ((qo (by omega)).trans q4),Deep.frame q5 fun k q=>(o _ _ _ _ k (by have:=t3 k q; omega) (by have:=t3 k q; omega)).trans (qo (by have:=t3 k q; omega)),qk (by simp; omega),?_⟩;simp only[simprocAttr, -Int.reduceNatCast',R0,hl_1,h0_1,h1_1,h2_1,h6_1,h7_1,h8_1,h9_1,h10_1,h11_1,wi]
   ·rw[if_neg c1]at ho
    have hE:=wA ho; subst hE;simp only[simprocAttr, -Int.reduceNatCast',R0,b417_2,hl_1,h0_1,h1_1,h2_1,h6_1,h7_1,h8_1,h9_1,h10_1,h11_1,dda,ddb,eq_false c1];intro ht; cases ht;refine ai rfl ⟨uq,g0,q1,q2,q3,q4,q6,?_⟩;simp only[simprocAttr, -Int.reduceNatCast',R0,hl_1,h0_1,h1_1,h2_1,h6_1,h7_1,h8_1,h9_1,h10_1,h11_1]
 ·clear hl_0 h0_0 h1_0 h2_0
  rintro n ⟨s,x⟩ e ⟨E,c⟩ ⟨g0,g1,⟨ud,um,g2,g3,g4⟩,hl_1,h0_1,h1_1,h2_1,h6_1,h7_1,h8_1⟩ hge t1 ho;simp only at g0 g1 g2 g3 g4;unfold F417_1_D at ho;have hE:=wA ho; subst hE;have hE4:4 < E.length:=(List.getElem?_eq_some_iff.1 g4).1;simp only[simprocAttr, -Int.reduceNatCast',R0,b417_1,hl_1,h0_1,h1_1,h2_1,h6_1,h7_1,h8_1,eq_false hge,g4,g1];intro ht; subst ht;have r1:∀w:Nat×Option (List V),(E.set 1 w)[1]? =some w:=fun w=> qk (by omega);have r0:∀w:Nat×Option (List V),(E.set 1 w)[0]? =_:=fun w=>(qo (by omega)).trans g0;have r2:∀ (w u:Nat×Option (List V)) c,frz ⟨(E.set 1 w).set 0 u,c⟩ 15 (V.sl 2 ud 0 x.Dims.length 1)=some (V.isl (x.Dims.map enc)):=fun w u c=> frzE (α:=Int) ((qo (by omega)).trans ((qo (by omega)).trans g2)) 10;have r3:∀ (w u:Nat×Option (List V)) c,frz ⟨(E.set 1 w).set 0 u,c⟩ 15 (V.sl 3 um 0 x.Maps.length 1)=some (V.isl (x.Maps.map enc)):=fun w u c=> frzE (α:=List (List Int)) ((qo (by omega)).trans ((qo (by omega)).trans g3)) 10;exact zp (by simp only[simprocAttr, -Int.reduceNatCast',R0,qe,p417,Rs.ev,hl_1,h6_1,r1,r0,r2,r3])
def F423(src:qi):Option (T2 Int qi):=
 (F412 src [2,2,3,3,5,7]).bind fun x1=>
 some ⟨x1.a,x1.b⟩
theorem s423(src:qi){r:T2 Int qi}(hF:F423 src=some r):xans A 423 [V.isl (src.code.map enc),V.int .i64 src.at_,V.int .u64 src.hash] []=some (V.int .i64 r.a,[V.isl (r.b.code.map enc),V.int .i64 r.b.at_,V.int .u64 r.b.hash]):=by
 refine xN (f:=p423) rfl rfl rfl fun e hl h0 he=>?_;have h0_0:e.at 0=V.ptr 0 0 0:=h0;have hl_0:e.length=6:=hl;clear h0 he hl;show W A b423 e ⟨[(0,some [V.isl (src.code.map enc),V.int .i64 src.at_,V.int .u64 src.hash])],1⟩ _;unfold F423 at hF;obtain⟨x1,gx1,hF⟩:=bS hF;have w2:xans A 412 [V.isl (src.code.map enc),V.int .i64 src.at_,V.int .u64 src.hash] [V.isl [V.int .i64 2,V.int .i64 2,V.int .i64 3,V.int .i64 3,V.int .i64 5,V.int .i64 7]]=some (V.int .i64 x1.a,[V.isl (x1.b.code.map enc),V.int .i64 x1.b.at_,V.int .u64 x1.b.hash]):=s412 src [2,2,3,3,5,7] gx1;cases hF;simp only[simprocAttr,R0,b423,qf, *];exact zp (by simp only[simprocAttr,R0,qe,p423,Rs.ev,qb,qf, *])
def F415_1_S(x1:T2 Int qi)(s:(List U8)×Int×Int×(List Int)×Int):Option (((List U8)×Int×Int×(List Int)×Int)⊕((List U8)×Int×Int×(List Int))):=
 match s with
 |(q0_0_1,q0_1_1,q0_2_1,o2_1,v5_1)=>
  if 0 < v5_1 then
   (F416 ⟨q0_0_1,q0_1_1,q0_2_1⟩ 9).bind fun x13=>
   (F412 x13.b [0,1,1,2,2,3,4,x13.a]).bind fun x15=>
   (app 8 o2_1 [x15.a]).bind fun l18=>
   (chk (v5_1 - 1)).bind fun x19=>
   some (.inl (x15.b.code,x15.b.at_,x15.b.hash,l18,x19))
  else
   some (.inr (q0_0_1,q0_1_1,q0_2_1,o2_1))
def F415(src:qi):Option (T2 qa qi):=
 (F423 src).bind fun x1=>
 (F416 x1.b 6).bind fun x3=>
 (F412 x3.b [0,1,2,2,3,x3.a]).bind fun x5=>
 (chk (1+x5.a)).bind fun x7=>
 (ze (F415_1_S x1) (x5.b.code,x5.b.at_,x5.b.hash,[],x7)).bind fun t20=> match t20 with
  |(zq0_0_1,zq0_1_1,zq0_2_1,zo2_1)=>
   (F417 ⟨zq0_0_1,zq0_1_1,zq0_2_1⟩ x1.a zo2_1).bind fun x21=>
   some ⟨x21.a,x21.b⟩
def I415_1(x1:T2 Int qi)(s:(List U8)×Int×Int×(List Int)×Int)(e:Env)(h:Heap):Prop:=
 match s with
 |(q0_0_1,q0_1_1,q0_2_1,o2_1,v5_1)=>
  ∃u9 k10:Nat,h=⟨[(0,some [V.isl (q0_0_1.map enc),V.int .i64 q0_1_1,V.int .u64 q0_2_1]),(1,some [V.int .i64 0,V.nils,V.nils]),(u9,some (o2_1.map enc))],k10⟩∧e.length=31∧e.at 0=V.ptr 0 0 0∧e.at 2=V.ptr 1 1 0∧e.at 3=V.int .i64 x1.a∧e.at 4=V.sl 2 u9 0 o2_1.length 1∧e.at 5=V.int .i64 v5_1
def P415_1(x1:T2 Int qi)(t:(List U8)×Int×Int×(List Int))(x:Ex)(e:Env)(h:Heap):Prop:=
 match t with
 |(zq0_0_1,zq0_1_1,zq0_2_1,zo2_1)=>
  x= .normal∧∃u9 k10:Nat,h=⟨[(0,some [V.isl (zq0_0_1.map enc),V.int .i64 zq0_1_1,V.int .u64 zq0_2_1]),(1,some [V.int .i64 0,V.nils,V.nils]),(u9,some (zo2_1.map enc))],k10⟩∧e.length=31∧e.at 0=V.ptr 0 0 0∧e.at 2=V.ptr 1 1 0∧e.at 3=V.int .i64 x1.a∧e.at 4=V.sl 2 u9 0 zo2_1.length 1
theorem l415_1(x1:T2 Int qi){s:(List U8)×Int×Int×(List Int)×Int}{t:(List U8)×Int×Int×(List Int)}(hF:ze (F415_1_S x1) s=some t){e:Env}{h:Heap}(hI:I415_1 x1 s e h):W A c415_1 e h (P415_1 x1 t):=by
 show W A (.block 0 (.loop false b415_1)) e h _;rw[qm];refine jG hF 3 (by rcases s with⟨_,_,_,_,_⟩; obtain⟨_,_,rfl,_⟩:=hI; rfl) (I415_1 x1) hI ?_
 ·rintro⟨q0_0_1,q0_1_1,q0_2_1,o2_1,v5_1⟩ e h ⟨u9,k10,rfl,h_8⟩ o ho
  unfold F415_1_S at ho;dsimp only at ho;by_cases c12:0 < v5_1
  ·rw[if_pos c12]at ho
   obtain⟨x13,gx13,ho⟩:=bS ho;have w14:xans A 416 [V.isl (q0_0_1.map enc),V.int .i64 q0_1_1,V.int .u64 q0_2_1] [V.int .i64 9]=some (V.int .i64 x13.a,[V.isl (x13.b.code.map enc),V.int .i64 x13.b.at_,V.int .u64 x13.b.hash]):=s416 ⟨q0_0_1,q0_1_1,q0_2_1⟩ 9 gx13;obtain⟨x15,gx15,ho⟩:=bS ho;have w16:xans A 412 [V.isl (x13.b.code.map enc),V.int .i64 x13.b.at_,V.int .u64 x13.b.hash] [V.isl [V.int .i64 0,V.int .i64 1,V.int .i64 1,V.int .i64 2,V.int .i64 2,V.int .i64 3,V.int .i64 4,V.int .i64 x13.a]]=some (V.int .i64 x15.a,[V.isl (x15.b.code.map enc),V.int .i64 x15.b.at_,V.int .u64 x15.b.hash]):=s412 x13.b [0,1,1,2,2,3,4,x13.a] gx15;obtain⟨l18,gl18,ho⟩:=bS ho;have w17:=fun a b c d e=> qD (α:=Int) (n:=o2_1.length) (m:=1) (ds:=[V.int .i64 x15.a]) gl18 (by first|rfl|simp) (by first|rfl|simp) rfl a b c d e;have w17l:=qR gl18;obtain⟨x19,gx19,ho⟩:=bS ho;have wx19:=qy gx19;cases ho;simp only[simprocAttr,R0,b415_1,qf,qf, *];refine ai rfl (ei _ (ei _ (ai rfl ?_)));simp only[simprocAttr,R0,qf,qf, *]
  ·rw[if_neg c12]at ho
   cases ho;simp only[simprocAttr,R0,b415_1, *];intro ht; subst ht;simp only[simprocAttr,RR,RB];refine ai rfl (ei _ (ei _ (ai rfl ?_)));simp only[simprocAttr,R0, *]
theorem s415(src:qi){r:T2 qa qi}(hF:F415 src=some r):xans A 415 [V.isl (src.code.map enc),V.int .i64 src.at_,V.int .u64 src.hash] []=some ((eC r.a),[V.isl (r.b.code.map enc),V.int .i64 r.b.at_,V.int .u64 r.b.hash]):=by
 refine xN (f:=p415) rfl rfl rfl fun e hl h0 he=>?_;have h0_0:e.at 0=V.ptr 0 0 0:=h0;have hl_0:e.length=31:=hl;clear h0 he hl;show W A b415 e ⟨[(0,some [V.isl (src.code.map enc),V.int .i64 src.at_,V.int .u64 src.hash])],1⟩ _;unfold F415 at hF;obtain⟨x1,gx1,hF⟩:=bS hF;have w2:xans A 423 [V.isl (src.code.map enc),V.int .i64 src.at_,V.int .u64 src.hash] []=some (V.int .i64 x1.a,[V.isl (x1.b.code.map enc),V.int .i64 x1.b.at_,V.int .u64 x1.b.hash]):=s423 src gx1;obtain⟨x3,gx3,hF⟩:=bS hF;have w4:xans A 416 [V.isl (x1.b.code.map enc),V.int .i64 x1.b.at_,V.int .u64 x1.b.hash] [V.int .i64 6]=some (V.int .i64 x3.a,[V.isl (x3.b.code.map enc),V.int .i64 x3.b.at_,V.int .u64 x3.b.hash]):=s416 x1.b 6 gx3;obtain⟨x5,gx5,hF⟩:=bS hF;have w6:xans A 412 [V.isl (x3.b.code.map enc),V.int .i64 x3.b.at_,V.int .u64 x3.b.hash] [V.isl [V.int .i64 0,V.int .i64 1,V.int .i64 2,V.int .i64 2,V.int .i64 3,V.int .i64 x3.a]]=some (V.int .i64 x5.a,[V.isl (x5.b.code.map enc),V.int .i64 x5.b.at_,V.int .u64 x5.b.hash]):=s412 x3.b [0,1,2,2,3,x3.a] gx5;obtain⟨x7,gx7,hF⟩:=bS hF;have wx7:=qy gx7;obtain⟨⟨zq0_0_1,zq0_1_1,zq0_2_1,zo2_1⟩,gt20,hF⟩:=bS hF;dsimp only at hF;simp only[simprocAttr,R0,b415,qf,qf,qf, *];refine W.mono (l415_1 x1 gt20 (ei _ (ei _ (ai rfl ?_)))) ?_
 ·simp only[simprocAttr,R0,qf,qf,qf, *]
 rintro _ e _ ⟨rfl,u9,k10,rfl,h_11⟩;obtain⟨x21,gx21,hF⟩:=bS hF;have w22:xans A 417 [V.isl (zq0_0_1.map enc),V.int .i64 zq0_1_1,V.int .u64 zq0_2_1] [V.int .i64 x1.a,V.isl (zo2_1.map enc)]=some ((eC x21.a),[V.isl (x21.b.code.map enc),V.int .i64 x21.b.at_,V.int .u64 x21.b.hash]):=s417 ⟨zq0_0_1,zq0_1_1,zq0_2_1⟩ x1.a zo2_1 gx21;cases hF;simp only[simprocAttr,R0,zk (α:=Int) zo2_1,qf, *];exact zp (by simp only[simprocAttr,R0,qe,p415,Rs.ev,qb,zk (α:=Int) zo2_1,qf, *])
def F95_1_B(a0:List (List Int))(v4_1:Int)(o0_1:(List (List Int))):Option (((List (List Int)))⊕((List (List Int)))):=
 (getI a0 v4_1).bind fun x5=>
(F94 x5).bind fun x7=>
(app 24 o0_1 [x7]).bind fun l10=>
some (.inl l10)
def F95_1_D(a0:List (List Int))(v4_1:Int)(o0_1:(List (List Int))):Option ((List (List Int))):=
 some o0_1
def F95(a0:List (List Int)):Option (List (List Int)):=
 (forR 0 (a0.length:Int) (F95_1_B a0) (F95_1_D a0) ([]:(List (List Int)))).bind fun zo0_1=>
 some zo0_1
theorem d95(a0:List (List Int)){r:List (List Int)}(hF:F95 a0=some r):∃v h',res A 95 [V.isl (a0.map enc)] Heap.empty=some (v,h')∧∃K,Deep.rep h' v r K:=by
 refine res_dp (f:=p95) rfl rfl rfl fun e hl he=>?_;have h0_0:e.at 0=V.isl (a0.map enc):=he 0 _ rfl;have hl_0:e.length=21:=hl;clear he hl;show W A b95 e ⟨[],0⟩ _;unfold F95 at hF;obtain⟨zo0_1,gt11,hF⟩:=bS hF;have hE:=wA hF; subst hE;simp only[simprocAttr, -Int.reduceNatCast',R1,b95, *];show W A (.block 0 (.loop true b95_1)) _ _ _;rw[qm];refine qJ gt11 _ rfl (fun i l e h=>∃u vs K,h.ents[0]? =some (u,some vs)∧reps h vs l K∧¬K 0∧e.length=21∧e.at 0=V.isl (a0.map enc)∧e.at 3=V.sl 0 u 0 l.length 1∧e.at 4=V.int .i64 i) ?_ ?_ ?_
 ·refine⟨0,[],fun _=> False,rfl,fun _ x=> x,fun x=> x,?_⟩
  simp only[simprocAttr, -Int.reduceNatCast',R1, *]
 ·rintro i l e ⟨E,c⟩ ⟨u,vs,K,g1,g2,g3,hl_1,h0_1,h3_1,h4_1⟩ hlt hw o ho
  unfold F95_1_B at ho;obtain⟨x5,gx5,ho⟩:=bS ho;obtain⟨w6a,w6b⟩:=qh gx5;obtain⟨x7,gx7,ho⟩:=bS ho;have w8:=t94 x5 gx7;obtain⟨l10,gl10,ho⟩:=bS ho;obtain⟨q1,q2,rfl⟩:=app_w gl10;have hE:=wA ho; subst hE;have hln:=g2.len;have hE0:0 < E.length:=(List.getElem?_eq_some_iff.1 g1).1;have w9:∀x y c',qQ 1 24 (.sl 0 u 0 l.length 1) 1 [V.sl E.length c 0 x7.length 1] ⟨E++[x]++[y],c'⟩=_:=fun x y c'=> qZ (E:=E++[x]++[y]) (vs:=vs) (by rw[List.getElem?_append_left (by simp),List.getElem?_append_left hE0]; exact g1) hln (by simpa using q1) (by simpa using q2);simp only[simprocAttr, -Int.reduceNatCast',R1,b95_1,qI,zb,qB, *];have r1:=xI (h:=⟨E,c⟩) (h1:=⟨E++[(c,some (x7.map enc))],c+1⟩) (h2:=⟨(E++[(c,some (x7.map enc))]++[(c+1,some [V.sl E.length c 0 x7.length 1])]).set 0 (c+1+1,some (vs++[V.sl E.length c 0 x7.length 1])),c+1+1+1⟩) g2
   (js (l:=x7) (K:=fun k=> k=E.length) (qB _ _) fun k=> vY) (fun k q=> by show E.length≤k; omega) (fun k q=> List.getElem?_append_left q) (fun k p q=> qK (fun e=> by subst e; exact q.elim g3 (fun q=> by omega)) p) (by simp)
  refine ai rfl ⟨_,_,_,qk (by simp),r1,fun q=> q.elim g3 (fun q=> by omega),?_⟩;simp only[simprocAttr, -Int.reduceNatCast',R1,wL, *]
 ·rintro i l e ⟨E,c⟩ ⟨u,vs,K,g1,g2,g3,hl_1,h0_1,h3_1,h4_1⟩ hge t1 ho
  unfold F95_1_D at ho;have hE:=wA ho; subst hE;simp only[simprocAttr, -Int.reduceNatCast',R1,b95_1, *];intro ht; subst ht;refine ai (fun _=> trivial) ⟨_,by simp only[simprocAttr, -Int.reduceNatCast',R1,qe,p95,Rs.ev, *],fun k=> k=0∨K k,.inr ⟨0,u,vs,K,rfl,g1,g2,g3,fun k=> vY⟩⟩
theorem x95(a0:List (List Int)){r:List (List Int)}(hF:F95 a0=some r):tans A 95 [1,1] [V.isl (a0.map enc)]=some (enc r):=xn (α:=List (List Int)) (by decide) (d95 a0 hF)
theorem t95(a0:List (List Int)){r:List (List Int)}(hF:F95 a0=some r):tans A 95 [1] [V.isl (a0.map enc)]=some (V.isl (r.map enc)):=tans_one2 (d95 a0 hF)
def F55_1_B(a0:qa)(v4_1:Int)(s:(List (List (List Int)))×Int×(List Int)):Option (((List (List (List Int)))×Int×(List Int))⊕((List (List (List Int)))×Int×(List Int))):=
 match s with
 |(o2_1,q3_0_1,q3_1_1)=>
  (getI a0.Maps v4_1).bind fun x7=>
  (F95 x7).bind fun x9=>
  (app 24 o2_1 [x9]).bind fun l12=>
  some (.inl (l12,q3_0_1,q3_1_1))
def F55_1_D(a0:qa)(v4_1:Int)(s:(List (List (List Int)))×Int×(List Int)):Option ((List (List (List Int)))×Int×(List Int)):=
 match s with
 |(o2_1,q3_0_1,q3_1_1)=>
  some (o2_1,q3_0_1,q3_1_1)
def F55(a0:qa):Option qa:=
 (F94 a0.Dims).bind fun x1=>
 (forR 0 (a0.Maps.length:Int) (F55_1_B a0) (F55_1_D a0) ([],a0.Prime,x1)).bind fun t13=> match t13 with
  |(zo2_1,zq3_0_1,zq3_1_1)=>
   some ⟨zq3_0_1,zq3_1_1,zo2_1⟩
theorem d55(x:qa){r:qa}(hF:F55 x=some r):∃v h',res A 55 [(eC x)] Heap.empty=some (v,h')∧∃m K,v=V.agg [V.int .i64 r.Prime,V.isl (r.Dims.map enc),m]∧Deep.rep h' m r.Maps K:=by
 refine res_dp (f:=p55) rfl rfl rfl fun e hl he=>?_;have h0_0:e.at 0=(eC x):=he 0 _ rfl;have hl_0:e.length=31:=hl;clear he hl;show W A b55 e ⟨[],0⟩ _;unfold F55 at hF;obtain⟨x1,gx1,hF⟩:=bS hF;have w1:=s94 x.Dims gx1;obtain⟨t13,gt13,hF⟩:=bS hF;simp only[simprocAttr,R0,b55, *];show W A (.block 0 (.loop true b55_1)) _ _ _;rw[qm];refine qJ gt13 _ rfl (fun i s e h=> s.2=(x.Prime,x1)∧∃u vs K,h.ents[1]? =some (1,some [V.int .i64 0,V.nils,V.nils])∧h.ents[2]? =some (u,some vs)∧h.ents[3]? =some (3,some [V.int .i64 x.Prime,V.isl (x1.map enc),V.sl 2 u 0 s.1.length 1])∧reps h vs s.1 K∧(∀k,K k→4≤k)∧e.length=31∧e.at 1=V.iptr [V.int .i64 x.Prime,V.isl (x.Dims.map enc),V.isl (x.Maps.map enc)]∧e.at 2=V.ptr 1 1 0∧e.at 3=V.ptr 3 3 0∧e.at 4=V.int .i64 i) ?_ ?_ ?_
 ·refine⟨rfl,2,[],fun _=> False,rfl,rfl,rfl,fun _ x=> x,fun _ x=> x.elim,?_⟩
  simp only[simprocAttr,R0, *]
 ·rintro i ⟨l,q⟩ e ⟨E,c⟩ ⟨rfl,u,vs,K,g1,g2,g3,g4,g5,h_1⟩ hlt hw o ho
  unfold F55_1_B at ho;simp only at ho g3;obtain⟨x5,gx5,ho⟩:=bS ho;obtain⟨w6a,w6b⟩:=qh gx5;obtain⟨x7,gx7,ho⟩:=bS ho;have w8:=x95 x5 gx7;obtain⟨l10,gl10,ho⟩:=bS ho;obtain⟨q1,q2,rfl⟩:=app_w gl10;cases ho;have hln:=g4.len;have hE0:3 < E.length:=(List.getElem?_eq_some_iff.1 g3).1;obtain⟨v,⟨E1,c1⟩,t1,t2,t3,t4⟩:=thaw_deep (α:=List (List Int)) (by decide) x7 ⟨E,c⟩;have t1':thaw 16 [1,1] (V.isl (x7.map enc)) ⟨E,c⟩=some (v,⟨E1,c1⟩):=t1;simp only at t2 t3 t4 g1 g2 g3;have m1:=(t4 1 (by omega)).trans g1;have m2:=(t4 2 (by omega)).trans g2;have m3:=(t4 3 (by omega)).trans g3;have n1:∀y z,(((E1++[y]).set 2 z))[1]? =_:=fun y z=>(qK (by decide) (by omega)).trans m1;have n3:∀y z,(((E1++[y]).set 2 z))[3]? =_:=fun y z=>(qK (by decide) (by omega)).trans m3;obtain⟨v1,v2⟩:=rep_one t2;have w9:∀y c',qQ 1 24 (.sl 2 u 0 l.length 1) 1 [v] ⟨E1++[y],c'⟩=_:=fun y c'=> qZ (E:=E1++[y]) (vs:=vs) (by rw[List.getElem?_append_left (by omega)]; exact m2) hln (by simpa using q1) (by simpa using q2);simp only[simprocAttr,R0,b55_1,qI,t1',v1,v2,m1,m2,m3,qB,n1,n3, *];have r1:=xI (h:=⟨E,c⟩) (h1:=⟨E1,c1⟩) (h2:=⟨((E1++[(c1,some [v])]).set 2 (c1+1,some (vs++[v]))).set 3 (3,some [V.int .i64 x.Prime,V.isl (x1.map enc),V.sl 2 (c1+1) 0 (l.length+1) 1]),c1+1+1⟩) (K:=K) g4
   t2 (fun k q=> q.1) t4 (fun k p q=> by
    have hk:4≤k:=q.elim (g5 _) (fun q=> by omega);rw[qo (by omega)];exact qK (by omega) p) t3
  refine ai rfl (ai rfl ⟨c1+1,vs++[v],fun k=> K k∨(E.length≤k∧k < E1.length),?_,?_,?_,r1,fun k q=> q.elim (g5 _) (fun q=> by omega),?_⟩)
  rotate_left
  ·exact(qo (by decide)).trans (qk (by simp; omega))
  ·simp only[wL,vD,vF,wS]
   exact qk (by simp; omega)
  ·simp only[simprocAttr,R0, *]
  ·exact(qo (by decide)).trans (n1 _ _)
 ·rintro i ⟨l,q⟩ e ⟨E,c⟩ ⟨rfl,u,vs,K,g1,g2,g3,g4,g5,h_1⟩ hge t1 ho
  unfold F55_1_D at ho;cases ho;simp only at hF g1 g2 g3;simp only[simprocAttr,R0,b55_1, *];intro ht; subst ht;cases hF;have hE0:3 < E.length:=(List.getElem?_eq_some_iff.1 g3).1;refine ai (fun _=> trivial) ⟨_,by simp only[simprocAttr,R0,qe,p55,Rs.ev,qk (show 1 < E.length by omega), *]; rfl,_,_,rfl,rep_at (α:=List (List Int)) (K:=K) ?_ (g4.frame fun k q=> qo (by have:=g5 k q; omega)) (fun q=> by have:=g5 _ q; omega)⟩;exact(qo (by decide)).trans g2
theorem x55(x:qa){r:qa}(hF:F55 x=some r):tans A 55 [1,1,1] [(eC x)]=some (V.agg [V.int .i64 r.Prime,V.iptr [V.isl (r.Dims.map enc)],V.isl (r.Maps.map enc)]):=by
 obtain⟨v,h',h1,m,K,rfl,h2⟩:=d55 x hF;exact tans_agg h1 h2
def F421_2_S(p:Int)(k:Int)(s:(qi×List (List (List Int)))×Int):Option (((qi×List (List (List Int)))×Int)⊕(qi×List (List (List Int)))):=
 (getI s.1.2 k).bind fun t=> if s.2 < (t.length:Int)then(getI t s.2).bind fun row=> if 0 < (row.length:Int)then(F416 s.1.1 (row.length:Int)).bind fun j=>(chk (p - 1)).bind fun q=>(F412 j.b [1,q,p]).bind fun v=>(setI row j.a v.a).bind fun row'=>(setI t s.2 row').bind fun t'=>(setI s.1.2 k t').bind fun ms=>(chk (s.2+1)).bind fun i=> some (.inl ((v.b,ms),i))
  else(chk (s.2+1)).bind fun i=> some (.inl (s.1,i))else some (.inr s.1)
def F421_1_S(p:Int)(s:(qi×List (List (List Int)))×Int):Option (((qi×List (List (List Int)))×Int)⊕(qi×List (List (List Int)))):=
 if s.2 < (s.1.2.length:Int)then(ze (F421_2_S p s.2) (s.1,0)).bind fun t=>(chk (s.2+1)).bind fun k=> some (.inl (t,k))else some (.inr s.1)
def F421(src:qi)(x:qa):Option (T2 qa qi):=(F416 src 40).bind fun k=>
 if k.a=0 then(F412 k.b [0,4,11]).bind fun v=> some ⟨⟨v.a,x.Dims,x.Maps⟩,v.b⟩
 else if k.a=1 then(F94 x.Dims).bind fun ds=>(F416 k.b (ds.length:Int)).bind fun i=>(F412 i.b [(-1),9,1]).bind fun v=>(setI ds i.a v.a).bind fun ds'=> some ⟨⟨x.Prime,ds',x.Maps⟩,v.b⟩
 else if k.a=2 then(F94 x.Dims).bind fun ds=>(app 8 ds [0]).bind fun ds'=> some ⟨⟨x.Prime,ds',x.Maps⟩,k.b⟩
 else if k.a=3 then(F55 x).bind fun y=>(ze (F421_1_S y.Prime) ((k.b,y.Maps),0)).bind fun s=> some ⟨⟨y.Prime,y.Dims,s.2⟩,s.1⟩
 else some ⟨x,k.b⟩
theorem s421(src:qi)(x:qa){r:T2 qa qi}(hF:F421 src x=some r):xans A 421 [V.isl (src.code.map enc),V.int .i64 src.at_,V.int .u64 src.hash] [(eC x)]=some ((eC r.a),[V.isl (r.b.code.map enc),V.int .i64 r.b.at_,V.int .u64 r.b.hash]):=by
 refine xN (f:=p421) rfl rfl rfl fun e hl h0 he=>?_;have h0_0:e.at 0=V.ptr 0 0 0:=h0;have h1_0:e.at 1=(eC x):=he 0 _ rfl;have hl_0:e.length=88:=hl;clear h0 he hl;show W A b421 e ⟨[(0,some [V.isl (src.code.map enc),V.int .i64 src.at_,V.int .u64 src.hash])],1⟩ _;unfold F421 at hF;obtain⟨k,gk,hF⟩:=bS hF;have wk:xans A 416 [V.isl (src.code.map enc),V.int .i64 src.at_,V.int .u64 src.hash] [V.int .i64 40]=some (V.int .i64 k.a,[V.isl (k.b.code.map enc),V.int .i64 k.b.at_,V.int .u64 k.b.hash]):=s416 src 40 gk;by_cases c0:k.a=0
 ·rw[if_pos c0]at hF
  obtain⟨v,gv,hF⟩:=bS hF;have wv:xans A 412 [V.isl (k.b.code.map enc),V.int .i64 k.b.at_,V.int .u64 k.b.hash] [V.isl [V.int .i64 0,V.int .i64 4,V.int .i64 11]]=some (V.int .i64 v.a,[V.isl (v.b.code.map enc),V.int .i64 v.b.at_,V.int .u64 v.b.hash]):=s412 k.b [0,4,11] gv;have hE:=wA hF; subst hE;simp only[simprocAttr, -Int.reduceNatCast',R0,b421,hl_0,h0_0,h1_0,qf,wk,eq_true c0,wv];exact zp (by simp only[simprocAttr, -Int.reduceNatCast',R0,qe,p421,Rs.ev,hl_0,h0_0,h1_0])
 rw[if_neg c0]at hF;by_cases c1:k.a=1
 ·rw[if_pos c1]at hF
  obtain⟨ds,gds,hF⟩:=bS hF;have wds:tans A 94 [1] [V.isl (x.Dims.map enc)]=some (V.isl (ds.map enc)):=t94 x.Dims gds;have wdt:=zb (α:=Int) ds;obtain⟨i,gi,hF⟩:=bS hF;have wi:xans A 416 [V.isl (k.b.code.map enc),V.int .i64 k.b.at_,V.int .u64 k.b.hash] [V.int .i64 (ds.length:Int)]=some (V.int .i64 i.a,[V.isl (i.b.code.map enc),V.int .i64 i.b.at_,V.int .u64 i.b.hash]):=s416 k.b (ds.length:Int) gi;obtain⟨v,gv,hF⟩:=bS hF;have wv:xans A 412 [V.isl (i.b.code.map enc),V.int .i64 i.b.at_,V.int .u64 i.b.hash] [V.isl [V.int .i64 (-1),V.int .i64 9,V.int .i64 1]]=some (V.int .i64 v.a,[V.isl (v.b.code.map enc),V.int .i64 v.b.at_,V.int .u64 v.b.hash]):=s412 i.b [(-1),9,1] gv;obtain⟨ds',gs,hF⟩:=bS hF;obtain⟨s1,s2,s3,s4,s5⟩:=xp gs;have s5':List.take i.a.toNat (ds.map enc)++[V.int .i64 v.a]++List.drop (i.a.toNat+1) (ds.map enc)=List.map enc ds':=s5;have hE:=wA hF; subst hE;simp only[simprocAttr, -Int.reduceNatCast',R0,b421,hl_0,h0_0,h1_0,qf,wk,eq_false c0,eq_true c1,qI,wds,wdt,wi,wv,s1,s2,s3,s5'];exact zp (by simp only[simprocAttr, -Int.reduceNatCast',R0,qe,p421,Rs.ev,hl_0,h0_0,h1_0,frzs (α:=Int) ds',zk (α:=Int) ds',jN (α:=Int) (l:=ds') (n:=ds.length) s4,jZ (l:=ds') (n:=ds.length) s4,s4])
 rw[if_neg c1]at hF;by_cases c2:k.a=2
 ·rw[if_pos c2]at hF
  obtain⟨ds,gds,hF⟩:=bS hF;have wds:tans A 94 [1] [V.isl (x.Dims.map enc)]=some (V.isl (ds.map enc)):=t94 x.Dims gds;have wdt:=zb (α:=Int) ds;obtain⟨ds',gs,hF⟩:=bS hF;have w15:=fun ents key uid clk he=> qD (α:=Int) (n:=ds.length) (m:=1) (ds:=[V.int .i64 0]) gs rfl rfl rfl ents key uid clk he;have hE:=wA hF; subst hE;simp only[simprocAttr, -Int.reduceNatCast',R0,b421,hl_0,h0_0,h1_0,qf,wk,eq_false c0,eq_false c1,eq_true c2,qI,wds,wdt,w15];exact zp (by simp only[simprocAttr, -Int.reduceNatCast',R0,qe,p421,Rs.ev,hl_0,h0_0,h1_0,frzs (α:=Int) ds',zk (α:=Int) ds',qb])
 rw[if_neg c2]at hF;by_cases c3:k.a=3
 ·rw[if_pos c3]at hF
  obtain⟨y,gy,hF⟩:=bS hF;have wy:=x55 x gy;obtain⟨⟨s',ms'⟩,gl,hF⟩:=bS hF;have hE:=wA hF; subst hE;obtain⟨m,⟨E1,c1'⟩,t1,t2,t3,t4⟩:=thaw_agg y.Prime y.Dims y.Maps ⟨[(0,some [V.isl (k.b.code.map enc),V.int .i64 k.b.at_,V.int .u64 k.b.hash]),(1,some [V.int .i64 x.Prime,V.isl (x.Dims.map enc),V.isl (x.Maps.map enc)]),(2,some [V.int .i64 0,V.nils,V.nils])],3⟩;simp only[vD,vF,wS,Nat.reduceAdd]at t2 t3 t4;have m0:E1[0]? =some (0,some [V.isl (k.b.code.map enc),V.int .i64 k.b.at_,V.int .u64 k.b.hash]):=t4 0 (by decide);have m1:E1[1]? =some (1,some [V.int .i64 x.Prime,V.isl (x.Dims.map enc),V.isl (x.Maps.map enc)]):=t4 1 (by decide);have m2:E1[2]? =some (2,some [V.int .i64 0,V.nils,V.nils]):=t4 2 (by decide);simp only[simprocAttr, -Int.reduceNatCast',R0,b421,hl_0,h0_0,h1_0,qf,wk,eq_false c0,eq_false c1,eq_false c2,eq_true c3,qI,wy,t1,m1];refine W.mono (Q:=fun x' e h=> x'= .normal∧h.ents[0]? =some (0,some [V.isl (List.map enc s'.code),V.int .i64 s'.at_,V.int .u64 s'.hash])∧h.ents[1]? =some (1,some [V.int .i64 y.Prime,V.isl (y.Dims.map enc),m])∧h.ents[2]? =some (2,some [V.int .i64 0,V.nils,V.nils])∧Deep.rep h m ms' (fun k=> 3≤k∧k < E1.length)∧e.length=88∧e.at 0=V.ptr 0 0 0∧e.at 3=V.ptr 1 1 0∧e.at 4=V.ptr 2 2 0) ?_ ?_
  rotate_left
  ·rintro _ e ⟨E,c⟩ ⟨rfl,g0,g1,g2,g3,hl_1,h0_1,h3_1,h4_1⟩
   simp only at g0 g1 g2;have hE2:2 < E.length:=(List.getElem?_eq_some_iff.1 g2).1;simp only[simprocAttr, -Int.reduceNatCast',R0,hl_1,h0_1,h3_1,h4_1,g1,g2];have r2:∀w:Nat×Option (List V),(E.set 2 w)[2]? =some w:=fun w=> qk (by omega);have r0:∀w:Nat×Option (List V),(E.set 2 w)[0]? =_:=fun w=>(qo (by omega)).trans g0;have r3:∀ (w u:Nat×Option (List V)) c,frz ⟨(E.set 2 w).set 0 u,c⟩ 15 m=some (V.isl (List.map enc ms')):=fun w u c=> Deep.fz (α:=List (List (List Int))) (Deep.frame g3 fun k q=>(qo (by omega)).trans (qo (by omega))) 8;exact zp (by simp only[simprocAttr, -Int.reduceNatCast',R0,qe,p421,Rs.ev,hl_1,h0_1,h3_1,h4_1,r2,r0,r3])
  show W A (.block 1 (.loop true b421_1)) _ _ _;rw[qm];refine jG gl _ rfl (fun s e h=> h.ents[0]? =some (0,some [V.isl (List.map enc s.1.1.code),V.int .i64 s.1.1.at_,V.int .u64 s.1.1.hash])∧h.ents[1]? =some (1,some [V.int .i64 y.Prime,V.isl (y.Dims.map enc),m])∧h.ents[2]? =some (2,some [V.int .i64 0,V.nils,V.nils])∧Deep.rep h m s.1.2 (fun k=> 3≤k∧k < E1.length)∧e.length=88∧e.at 0=V.ptr 0 0 0∧e.at 3=V.ptr 1 1 0∧e.at 4=V.ptr 2 2 0∧e.at 6=V.int .i64 s.2) ?_ ?_
  ·refine⟨(qo (by omega)).trans m0,qk (by omega),(qo (by omega)).trans m2,Deep.frame t2 fun k q=> qo (by omega),?_⟩
   simp only[simprocAttr, -Int.reduceNatCast',R0,hl_0,h0_0,h1_0]
  ·clear t1 t2 t4 m0 m1 m2 hl_0 h0_0 h1_0 wy wk gl
   rintro⟨⟨s,ms⟩,i⟩ e ⟨E,c⟩ ⟨g0,g1,g2,g3,hl_1,h0_1,h3_1,h4_1,h6_1⟩ oo ho;simp only at g0 g1 g2 g3 h6_1;unfold F421_1_S at ho;simp only at ho;have hlen:=rep_len g3;by_cases q1:i < (ms.length:Int)
   ·rw[if_pos q1]at ho
    obtain⟨⟨s2,ms2⟩,gl,ho⟩:=bS ho;obtain⟨i',gi,ho⟩:=bS ho;have wi:=qy gi;have hE:=wA ho; subst hE;simp only[simprocAttr, -Int.reduceNatCast',R0,b421_1,hl_1,h0_1,h3_1,h4_1,h6_1,g1,hlen,eq_true q1];refine W.mono (Q:=fun x' e h=> x'= .normal∧h.ents[0]? =some (0,some [V.isl (s2.code.map enc),V.int .i64 s2.at_,V.int .u64 s2.hash])∧h.ents[1]? =some (1,some [V.int .i64 y.Prime,V.isl (y.Dims.map enc),m])∧h.ents[2]? =some (2,some [V.int .i64 0,V.nils,V.nils])∧Deep.rep h m ms2 (fun k=> 3≤k∧k < E1.length)∧e.length=88∧e.at 0=V.ptr 0 0 0∧e.at 3=V.ptr 1 1 0∧e.at 4=V.ptr 2 2 0∧e.at 6=V.int .i64 i) ?_ ?_
    rotate_left
    ·rintro _ e ⟨E2,c2⟩ ⟨rfl,k0,k1,k2,k3,hl_2,h0_2,h3_2,h4_2,h6_2⟩
     simp only at k0 k1 k2;simp only[simprocAttr, -Int.reduceNatCast',R0,hl_2,h0_2,h3_2,h4_2,h6_2,wi];refine ai rfl ⟨k0,k1,k2,k3,?_⟩;simp only[simprocAttr, -Int.reduceNatCast',R0,hl_2,h0_2,h3_2,h4_2,h6_2,wi]
    show W A (.block 3 (.loop true b421_2)) _ _ _;rw[qm];refine jG gl _ rfl (fun s e h=> h.ents[0]? =some (0,some [V.isl (List.map enc s.1.1.code),V.int .i64 s.1.1.at_,V.int .u64 s.1.1.hash])∧h.ents[1]? =some (1,some [V.int .i64 y.Prime,V.isl (y.Dims.map enc),m])∧h.ents[2]? =some (2,some [V.int .i64 0,V.nils,V.nils])∧Deep.rep h m s.1.2 (fun k=> 3≤k∧k < E1.length)∧e.length=88∧e.at 0=V.ptr 0 0 0∧e.at 3=V.ptr 1 1 0∧e.at 4=V.ptr 2 2 0∧e.at 6=V.int .i64 i∧e.at 7=V.int .i64 s.2) ?_ ?_
    ·refine⟨g0,g1,g2,g3,?_⟩
     simp only[simprocAttr, -Int.reduceNatCast',R0,hl_1,h0_1,h3_1,h4_1,h6_1]
    ·clear g0 g1 g2 g3 hl_1 h0_1 h3_1 h4_1 h6_1 hlen gl q1
     rintro⟨⟨s,ms⟩,j⟩ e ⟨E,c⟩ ⟨g0,g1,g2,g3,hl_1,h0_1,h3_1,h4_1,h6_1,h7_1⟩ oo ho;simp only at g0 g1 g2 g3 h7_1;unfold F421_2_S at ho;simp only at ho;obtain⟨t,gt,ho⟩:=bS ho;obtain⟨ta,tb⟩:=qh gt;have tc:=qY gt;obtain⟨key,uid,vs,x1,K1,rfl,a1,a2,a3,a4,a5,a6⟩:=rep_focus g3 tb;have o1:=qx a2;simp only at a1;have hlt:=rep_len a4;have hE2:2 < E.length:=(List.getElem?_eq_some_iff.1 g2).1;by_cases q2:j < (t.length:Int)
     ·rw[if_pos q2]at ho
      obtain⟨row,gr,ho⟩:=bS ho;obtain⟨ra,rb⟩:=qh gr;have rc:=qY gr;obtain⟨key2,uid2,vs2,x2,K2,rfl,b1,b2,b3,b4,b5,b6⟩:=rep_focus a4 rb;have o2:=qx b2;simp only at b1;have hlr:=rep_len b4;by_cases q3:0 < (row.length:Int)
      ·rw[if_pos q3]at ho
       obtain⟨z,gz,ho⟩:=bS ho;have wz:xans A 416 [V.isl (s.code.map enc),V.int .i64 s.at_,V.int .u64 s.hash] [V.int .i64 (row.length:Int)]=some (V.int .i64 z.a,[V.isl (z.b.code.map enc),V.int .i64 z.b.at_,V.int .u64 z.b.hash]):=s416 s (row.length:Int) gz;obtain⟨q,gq,ho⟩:=bS ho;have wq:=qy gq;obtain⟨v,gv,ho⟩:=bS ho;have wv:xans A 412 [V.isl (z.b.code.map enc),V.int .i64 z.b.at_,V.int .u64 z.b.hash] [V.isl [V.int .i64 1,V.int .i64 q,V.int .i64 y.Prime]]=some (V.int .i64 v.a,[V.isl (v.b.code.map enc),V.int .i64 v.b.at_,V.int .u64 v.b.hash]):=s412 z.b [1,q,y.Prime] gv;obtain⟨row',gs,ho⟩:=bS ho;obtain⟨s1,s2',s3,s4,s5⟩:=xp gs;have s5':List.take z.a.toNat (row.map enc)++[V.int .i64 v.a]++List.drop (z.a.toNat+1) (row.map enc)=List.map enc row':=s5;obtain⟨t',gt',ho⟩:=bS ho;have st:=setI_eq gt';obtain⟨ms',gm',ho⟩:=bS ho;have sm:=setI_eq gm';obtain⟨j',gj,ho⟩:=bS ho;have wj:=qy gj;have hE:=wA ho; subst hE;rcases row_int b4 with⟨_,rfl,_⟩|⟨key3,uid3,rfl,d1,d2⟩
       ·exact absurd q3 (by simp)
       simp only at d1;have hk3:=a5 _ (b5 _ ((d2 key3).2 rfl));have hk3E:key3 < E.length:=(List.getElem?_eq_some_iff.1 d1).1;have n1:∀u,(E.set 0 u)[1]? =_:=fun u=>(qo (by omega)).trans g1;have n0:∀u:Nat×Option (List V),(E.set 0 u)[0]? =some u:=fun u=> qk (by omega);have nk:∀ (u z:Nat×Option (List V)),((E.set 0 u).set 0 z)[key3]? =_:=fun u z=>(qo (by omega)).trans ((qo (by omega)).trans d1);simp only[simprocAttr, -Int.reduceNatCast',R0,b421_2,hl_1,h0_1,h3_1,h4_1,h6_1,h7_1,g1,ta,eq_true tc,a1,o1,hlt,eq_true q2,ra,eq_true rc,b1,o2,hlr,eq_true q3,qf,g0,wz,n1,wq,n0,wv,nk,s1,s2',s3,s5',wj];have fr:∀ (u z y:Nat×Option (List V)) k,3≤k→k≠key3→(((E.set 0 u).set 0 z).set key3 y)[k]? =E[k]?:=fun u z y k h1 h3=>(qo h3).trans ((qo (by omega)).trans (qo (by omega)));have sl:row'.length=row.length:=s4;have f1:∀ (u z:Nat×Option (List V)) c,Deep.rep ⟨((E.set 0 u).set 0 z).set key3 (uid3,some (List.map enc row')),c⟩ (V.sl key3 uid3 0 row.length 1) row' K2:=fun u z c=> by rw[←sl]; exact js (qk (by simp; exact hk3E)) d2
       have f2:∀ (u z:Nat×Option (List V)) c,Deep.rep ⟨((E.set 0 u).set 0 z).set key3 (uid3,some (List.map enc row')),c⟩ (V.sl key2 uid2 0 t.length 1) t' K1:=fun u z c=> by rw[st]; exact b6 _ _ (f1 u z c) fun k h1 h2=> fr _ _ _ k (a5 k h1).1 fun e=> h2 ((d2 k).2 e)
       have f3:∀ (u z:Nat×Option (List V)) c,Deep.rep ⟨((E.set 0 u).set 0 z).set key3 (uid3,some (List.map enc row')),c⟩ (V.sl key uid 0 ms.length 1) ms' (fun k=> 3≤k∧k < E1.length):=fun u z c=> by rw[sm]; exact a6 _ _ (f2 u z c) fun k h1 h2=> fr _ _ _ k h1.1 fun e=> h2 (b5 k ((d2 k).2 e))
       refine ai rfl ⟨(qo (by omega)).trans (qk (by simp; omega)),(qo (by omega)).trans ((qo (by omega)).trans (n1 _)),(qo (by omega)).trans ((qo (by omega)).trans ((qo (by omega)).trans g2)),f3 _ _ _,?_⟩;simp only[simprocAttr, -Int.reduceNatCast',R0,hl_1,h0_1,h3_1,h4_1,h6_1,h7_1,wj]
      ·rw[if_neg q3]at ho
       obtain⟨j',gj,ho⟩:=bS ho;have wj:=qy gj;have hE:=wA ho; subst hE;simp only[simprocAttr, -Int.reduceNatCast',R0,b421_2,hl_1,h0_1,h3_1,h4_1,h6_1,h7_1,g1,ta,eq_true tc,a1,o1,hlt,eq_true q2,ra,eq_true rc,b1,o2,hlr,eq_false q3,wj];refine ai rfl ⟨g0,g1,g2,g3,?_⟩;simp only[simprocAttr, -Int.reduceNatCast',R0,hl_1,h0_1,h3_1,h4_1,h6_1,h7_1,wj]
     ·rw[if_neg q2]at ho
      have hE:=wA ho; subst hE;simp only[simprocAttr, -Int.reduceNatCast',R0,b421_2,hl_1,h0_1,h3_1,h4_1,h6_1,h7_1,g1,ta,eq_true tc,a1,o1,hlt,eq_false q2];intro ht; cases ht;refine ai rfl ⟨g0,g1,g2,g3,?_⟩;simp only[simprocAttr, -Int.reduceNatCast',R0,hl_1,h0_1,h3_1,h4_1,h6_1,h7_1]
   ·rw[if_neg q1]at ho
    have hE:=wA ho; subst hE;simp only[simprocAttr, -Int.reduceNatCast',R0,b421_1,hl_1,h0_1,h3_1,h4_1,h6_1,g1,hlen,eq_false q1];intro ht; cases ht;refine ai rfl ⟨g0,g1,g2,g3,?_⟩;simp only[simprocAttr, -Int.reduceNatCast',R0,hl_1,h0_1,h3_1,h4_1,h6_1]
 rw[if_neg c3]at hF;have hE:=wA hF; subst hE;simp only[simprocAttr, -Int.reduceNatCast',R0,b421,hl_0,h0_0,h1_0,qf,wk,eq_false c0,eq_false c1,eq_false c2,eq_false c3];exact zp (by simp only[simprocAttr, -Int.reduceNatCast',R0,qe,p421,Rs.ev,hl_0,h0_0,h1_0])
def F406(src:qi):Option (T2 qa qi):=
 (F415 src).bind fun x1=>
 (F421 x1.b x1.a).bind fun x3=>
 some ⟨x3.a,x3.b⟩
theorem s406(src:qi){r:T2 qa qi}(hF:F406 src=some r):xans A 406 [V.isl (src.code.map enc),V.int .i64 src.at_,V.int .u64 src.hash] []=some ((eC r.a),[V.isl (r.b.code.map enc),V.int .i64 r.b.at_,V.int .u64 r.b.hash]):=by
 refine xN (f:=p406) rfl rfl rfl fun e hl h0 he=>?_;have h0_0:e.at 0=V.ptr 0 0 0:=h0;have hl_0:e.length=7:=hl;clear h0 he hl;show W A b406 e ⟨[(0,some [V.isl (src.code.map enc),V.int .i64 src.at_,V.int .u64 src.hash])],1⟩ _;unfold F406 at hF;obtain⟨x1,gx1,hF⟩:=bS hF;have w2:xans A 415 [V.isl (src.code.map enc),V.int .i64 src.at_,V.int .u64 src.hash] []=some ((eC x1.a),[V.isl (x1.b.code.map enc),V.int .i64 x1.b.at_,V.int .u64 x1.b.hash]):=s415 src gx1;obtain⟨x3,gx3,hF⟩:=bS hF;have w4:xans A 421 [V.isl (x1.b.code.map enc),V.int .i64 x1.b.at_,V.int .u64 x1.b.hash] [(eC x1.a)]=some ((eC x3.a),[V.isl (x3.b.code.map enc),V.int .i64 x3.b.at_,V.int .u64 x3.b.hash]):=s421 x1.b x1.a gx3;cases hF;simp only[simprocAttr,R0,b406,qf,qf, *];exact zp (by simp only[simprocAttr,R0,qe,p406,Rs.ev,qb,qf,qf, *])
def F389(a0:List U8):Option qa:=
 (F405 a0).bind fun x1=>
 (F406 x1).bind fun x3=>
 some x3.a
theorem s389(a0:List U8){r:qa}(hF:F389 a0=some r):ans A 389 [V.isl (a0.map enc)]=some (enc r):=by
 refine qA (f:=p389) rfl rfl rfl fun e hl he=>?_;have h0_0:e.at 0=V.isl (a0.map enc):=he 0 _ rfl;have hl_0:e.length=6:=hl;clear he hl;show W A b389 e ⟨[],0⟩ _;unfold F389 at hF;obtain⟨x1,gx1,hF⟩:=bS hF;have w2:res A 405 [V.isl (a0.map enc)] ⟨[(0,some [V.int .i64 0,V.nils,V.nils])],1⟩=some (V.ptr 1 1 0,⟨[(0,some [V.int .i64 0,V.nils,V.nils]),(1,some [V.isl (x1.code.map enc),V.int .i64 x1.at_,V.int .u64 x1.hash])],2⟩):=by
  obtain⟨_,w,rfl⟩:=d405 a0 gx1 [(0,some [V.int .i64 0,V.nils,V.nils])] 1;exact w
 obtain⟨x3,gx3,hF⟩:=bS hF;have w4:xans A 406 [V.isl (x1.code.map enc),V.int .i64 x1.at_,V.int .u64 x1.hash] []=some ((eC x3.a),[V.isl (x3.b.code.map enc),V.int .i64 x3.b.at_,V.int .u64 x3.b.hash]):=s406 x1 gx3;cases hF;simp only[simprocAttr,R0,b389,qv,qf, *];exact qd (by simp only[simprocAttr,R0,qe,p389,Rs.ev,qb,qv,qf, *])
end
end Rv
