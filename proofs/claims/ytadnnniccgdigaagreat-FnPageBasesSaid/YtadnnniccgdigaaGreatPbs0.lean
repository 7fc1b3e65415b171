/- What the abstract code answers: typed functions, part 1. -/
import Derived.Test.YtadnnniccgdigaaGreatPbp
namespace Rv
open Enc (enc)
theorem ai{a b:Prop}(x:a)(y:b):a∧b:=⟨x,y⟩
theorem ei.{u}{α:Sort u}{p:α→Prop}(w:α)(h:p w):∃x,p x:=⟨w,h⟩
set_option linter.unusedVariables false
set_option linter.unusedSimpArgs false
set_option maxRecDepth 100000
noncomputable section
abbrev eC(x:qh):V:=V.agg [V.int .i64 x.Prime,V.isl (x.Dims.map enc),V.isl (x.Maps.map enc)]
abbrev eF(x:qd):V:=V.agg [V.int .i64 x.Complex.Prime,V.isl (x.Complex.Dims.map enc),V.isl (x.Complex.Maps.map enc),V.isl (x.Levels.map enc)]
theorem R1:type_of%(ai RR (ai RB (ai RZ (ai @ii_eq <|ai @nn_eq <|ai @oM_e <|ai @oL_e <|ai @oS_e <|ai @oF_e <|ai @oB_e <|ai @oC_e <|ai @oI_e <|ai @oN_e <|ai @oP_e <|ai @oQ_e <|ai @oR_e <|ai @oU_e <|ai @opEv.eq_1 <|ai @opEv.eq_2 <|ai @opEv.eq_3 <|ai @opEv.eq_4 <|ai @opEv.eq_5 <|ai @opEv.eq_6 <|ai @opEv.eq_7 <|ai @opEv.eq_8 <|ai @opEv.eq_9 <|ai @opEv.eq_10 <|ai @opEv.eq_11 <|ai @opEv.eq_12 <|ai @opEv.eq_13 <|ai @opEv.eq_14 <|ai @opEv.eq_15 <|ai @opEv.eq_16 <|ai @opEv.eq_17 <|ai @opEv.eq_18 <|ai @opEv.eq_19 <|ai @opEv.eq_20 <|ai @opEv.eq_21 <|ai @opEv.eq_22 <|ai @opEv.eq_23 <|ai @opEv.eq_24 <|ai @opEv.eq_25 <|ai @opEv.eq_26 <|ai @opEv.eq_27 <|ai @opEv.eq_28 <|ai @opEv.eq_29 <|ai @opEv.eq_30 <|ai @opEv.eq_31 <|ai @opEv.eq_32 <|ai @opEv.eq_33 <|ai @opEv.eq_34 <|ai @opEv.eq_35 <|ai @opEv.eq_36 <|ai @opEv.eq_37 <|ai @jS.eq_1 <|ai @jS.eq_2 <|ai @mapO.eq_1 <|ai @mapO.eq_2 <|ai @mapS.eq_1 <| @mapS.eq_2)))):=ai RR (ai RB (ai RZ (ai @ii_eq <|ai @nn_eq <|ai @oM_e <|ai @oL_e <|ai @oS_e <|ai @oF_e <|ai @oB_e <|ai @oC_e <|ai @oI_e <|ai @oN_e <|ai @oP_e <|ai @oQ_e <|ai @oR_e <|ai @oU_e <|ai @opEv.eq_1 <|ai @opEv.eq_2 <|ai @opEv.eq_3 <|ai @opEv.eq_4 <|ai @opEv.eq_5 <|ai @opEv.eq_6 <|ai @opEv.eq_7 <|ai @opEv.eq_8 <|ai @opEv.eq_9 <|ai @opEv.eq_10 <|ai @opEv.eq_11 <|ai @opEv.eq_12 <|ai @opEv.eq_13 <|ai @opEv.eq_14 <|ai @opEv.eq_15 <|ai @opEv.eq_16 <|ai @opEv.eq_17 <|ai @opEv.eq_18 <|ai @opEv.eq_19 <|ai @opEv.eq_20 <|ai @opEv.eq_21 <|ai @opEv.eq_22 <|ai @opEv.eq_23 <|ai @opEv.eq_24 <|ai @opEv.eq_25 <|ai @opEv.eq_26 <|ai @opEv.eq_27 <|ai @opEv.eq_28 <|ai @opEv.eq_29 <|ai @opEv.eq_30 <|ai @opEv.eq_31 <|ai @opEv.eq_32 <|ai @opEv.eq_33 <|ai @opEv.eq_34 <|ai @opEv.eq_35 <|ai @opEv.eq_36 <|ai @opEv.eq_37 <|ai @jS.eq_1 <|ai @jS.eq_2 <|ai @mapO.eq_1 <|ai @mapO.eq_2 <|ai @mapS.eq_1 <| @mapS.eq_2)))
theorem R0:type_of%(ai R1 RE):=ai R1 RE
def F140(a0:List U8):Option Bool:=
 some (decide (4096 < (a0.length:Int)))
theorem s140(a0:List U8){r:Bool}(hF:F140 a0=some r):ans A 140 [V.isl (a0.map enc)]=some (enc r):=by
 refine qw (f:=p140) rfl rfl rfl fun e hl he=>?_;have h0_0:e.at 0=V.isl (a0.map enc):=he 0 _ rfl;have hl_0:e.length=6:=hl;clear he hl;show W A b140 e ⟨[],0⟩ _;unfold F140 at hF;cases hF;simp only[simprocAttr,R0,b140, *];exact qf (by simp only[simprocAttr,R0,qg,p140,Rs.ev,qc, *])
def F56(a0:Int)(a1:Int)(a2:Int):Option Bool:=
 if a1≤a0 then
  some (decide (a0≤a2))
 else
  some false
theorem s56(a0:Int)(a1:Int)(a2:Int){r:Bool}(hF:F56 a0 a1 a2=some r):ans A 56 [V.int .i64 a0,V.int .i64 a1,V.int .i64 a2]=some (enc r):=by
 refine qw (f:=p56) rfl rfl rfl fun e hl he=>?_;have h0_0:e.at 0=V.int .i64 a0:=he 0 _ rfl;have h1_0:e.at 1=V.int .i64 a1:=he 1 _ rfl;have h2_0:e.at 2=V.int .i64 a2:=he 2 _ rfl;have hl_0:e.length=15:=hl;clear he hl;have h_0:=ai hl_0 (ai h0_0 (ai h1_0 h2_0));show W A b56 e ⟨[],0⟩ _;unfold F56 at hF;by_cases c1:a1≤a0
 ·rw[if_pos c1]at hF
  cases hF;simp only[simprocAttr,R0,b56, *];exact qf (by simp only[simprocAttr,R0,qg,p56,Rs.ev,qc, *])
 ·rw[if_neg c1]at hF
  cases hF;simp only[simprocAttr,R0,b56, *];exact qf (by simp only[simprocAttr,R0,qg,p56,Rs.ev,qc, *])
def F67(a0:Int):Option Bool:=
 if a0=2 then
  some true
 else
  if a0=3 then
   some true
  else
   if a0=5 then
    some true
   else
    some (decide (a0=7))
theorem s67(a0:Int){r:Bool}(hF:F67 a0=some r):ans A 67 [V.int .i64 a0]=some (enc r):=by
 refine qw (f:=p67) rfl rfl rfl fun e hl he=>?_;have h0_0:e.at 0=V.int .i64 a0:=he 0 _ rfl;have hl_0:e.length=17:=hl;clear he hl;have h_0:=ai hl_0 h0_0;show W A b67 e ⟨[],0⟩ _;unfold F67 at hF;by_cases c1:a0=2
 ·rw[if_pos c1]at hF
  cases hF;simp only[simprocAttr,R0,b67, *];exact qf (by simp only[simprocAttr,R0,qg,p67,Rs.ev,qc, *])
 ·rw[if_neg c1]at hF
  by_cases c2:a0=3
  ·rw[if_pos c2]at hF
   cases hF;simp only[simprocAttr,R0,b67, *];exact qf (by simp only[simprocAttr,R0,qg,p67,Rs.ev,qc, *])
  ·rw[if_neg c2]at hF
   by_cases c3:a0=5
   ·rw[if_pos c3]at hF
    cases hF;simp only[simprocAttr,R0,b67, *];exact qf (by simp only[simprocAttr,R0,qg,p67,Rs.ev,qc, *])
   ·rw[if_neg c3]at hF
    cases hF;simp only[simprocAttr,R0,b67, *];exact qf (by simp only[simprocAttr,R0,qg,p67,Rs.ev,qc, *])
def xO(a0:List Int)(f1:Int→Option Bool)(v8_1:Int)(s:Unit):Option ((Unit)⊕((Unit)⊕Int)):=
 (getI a0 v8_1).bind fun x4=>
(f1 x4).bind fun x6=>
if x6=true then
 some (.inr (.inr v8_1))
else
 some (.inl ())
def F115_1_D(a0:List Int)(f1:Int→Option Bool)(v8_1:Int)(s:Unit):Option ((Unit)⊕Int):=
 some (.inl ())
def F115(a0:List Int)(f1:Int→Option Bool):Option Int:=
 (forR 0 (a0.length:Int) (xO a0 f1) (F115_1_D a0 f1) ()).bind fun t8=> match t8 with
  | .inl _=>
   some (-1)
  | .inr r9=> some r9
def I115_1(a0:List Int)(f1:Int→Option Bool)(vf1:V)(v8_1:Int)(s:Unit)(e:Env)(h:Heap):Prop:=
 ∃k2:Nat,h=⟨[],k2⟩∧e.length=19∧e.at 0=V.isl (a0.map enc)∧e.at 1=vf1∧e.at 7=V.int .i64 (a0.length:Int)∧e.at 8=V.int .i64 v8_1
def P115_1(a0:List Int)(f1:Int→Option Bool)(vf1:V)(t:(Unit)⊕Int)(x:Ex)(e:Env)(h:Heap):Prop:=
 match t with
 | .inl _=> x= .normal∧∃k2:Nat,h=⟨[],k2⟩∧e.length=19
 | .inr r=> x= .ret∧Fin p115 (enc r) .ret e h
theorem l115_1(a0:List Int)(f1:Int→Option Bool)(vf1:V)(hf1:Clo1 A vf1 f1){lo:Int}{s:Unit}{t:(Unit)⊕Int}(hF:forR lo (a0.length:Int) (xO a0 f1) (F115_1_D a0 f1) s=some t){e:Env}{h:Heap}(hI:I115_1 a0 f1 vf1 lo s e h):W A c115_1 e h (P115_1 a0 f1 vf1 t):=by
 obtain⟨g_f1,fs_f1,cs_f1,hv_f1,hc_f1⟩:=id hf1;show W A (.block 0 (.loop false b115_1)) e h _;rw[qr];refine qD hF 0 (by obtain⟨_,rfl,_⟩:=hI; rfl) (I115_1 a0 f1 vf1) hI ?_ ?_
 ·rintro v8_1 _ e h ⟨k2,rfl,h_1⟩ hlt hw o ho
  unfold xO at ho;obtain⟨x4,gx4,ho⟩:=bS ho;obtain⟨w5a,w5b⟩:=qk gx4;obtain⟨x6,gx6,ho⟩:=bS ho;have w7a:∀h,mapO (frz h 16) (fs_f1++[V.int .i64 x4]++cs_f1)=some (fs_f1++[V.int .i64 x4]++cs_f1):=fun h=> hc_f1.zf x4 h;have w7b:List.all (fs_f1++[V.int .i64 x4]++cs_f1) (qu 16)=true:=hc_f1.zr x4;have w7c:ans A g_f1 (fs_f1++[V.int .i64 x4]++cs_f1)=some (V.bool x6):=hc_f1.ka x4 _ gx6;cases x6 with
  |true=>
   rw[if_pos rfl]at ho;cases ho;simp only[simprocAttr,R0,b115_1, *];intro ht; subst ht;simp only[simprocAttr,RR,RB];exact ai rfl (qf (by simp only[simprocAttr,R0,qg,p115,Rs.ev,qc, *]))
  |false=>
   rw[if_neg wE]at ho;cases ho;simp only[simprocAttr,R0,b115_1, *];refine ai rfl (ei _ (ai rfl ?_));simp only[simprocAttr,R0, *]
 ·rintro v8_1 _ e h ⟨k2,rfl,h_1⟩ hge t1 ho
  unfold F115_1_D at ho;cases ho;simp only[simprocAttr,R0,b115_1, *];intro ht; subst ht;refine ai rfl (ei _ (ai rfl ?_));simp only[simprocAttr,R0, *]
theorem s115(a0:List Int)(f1:Int→Option Bool){vf1:V}(hf1:Clo1 A vf1 f1){r:Int}(hF:F115 a0 f1=some r):ans A 115 [V.isl (a0.map enc),vf1]=some (enc r):=by
 refine qw (f:=p115) rfl rfl rfl fun e hl he=>?_;have h0_0:e.at 0=V.isl (a0.map enc):=he 0 _ rfl;have h1_0:e.at 1=vf1:=he 1 _ rfl;obtain⟨g_f1,fs_f1,cs_f1,hv_f1,hc_f1⟩:=id hf1;have hl_0:e.length=19:=hl;clear he hl;have h_0:=ai hl_0 (ai h0_0 h1_0);show W A b115 e ⟨[],0⟩ _;unfold F115 at hF;obtain⟨t8,gt8,hF⟩:=bS hF;rcases t8 with _|r9
 ·dsimp only at hF
  simp only[simprocAttr,R0,b115, *];refine W.mono (l115_1 a0 f1 vf1 hf1 gt8 (ei _ (ai rfl ?_))) ?_
  ·simp only[simprocAttr,R0, *]
  rintro _ e _ ⟨rfl,k2,rfl,hl_3⟩;cases hF;simp only[simprocAttr,R0, *];exact qf (by simp only[simprocAttr,R0,qg,p115,Rs.ev,qc, *])
 ·dsimp only at hF
  cases hF;simp only[simprocAttr,R0,b115, *];refine W.mono (l115_1 a0 f1 vf1 hf1 gt8 (ei _ (ai rfl ?_))) ?_
  ·simp only[simprocAttr,R0, *]
  rintro _ e h ⟨rfl,hq⟩;simp only[simprocAttr,RR,RB];exact hq
def F82(a0:List Int)(f1:Int→Option Bool):Option Bool:=
 (F115 a0 f1).bind fun x1=>
 some (decide (0≤x1))
theorem s82(a0:List Int)(f1:Int→Option Bool){vf1:V}(hf1:Clo1 A vf1 f1){r:Bool}(hF:F82 a0 f1=some r):ans A 82 [V.isl (a0.map enc),vf1]=some (enc r):=by
 refine qw (f:=p82) rfl rfl rfl fun e hl he=>?_;have h0_0:e.at 0=V.isl (a0.map enc):=he 0 _ rfl;have h1_0:e.at 1=vf1:=he 1 _ rfl;obtain⟨g_f1,fs_f1,cs_f1,hv_f1,hc_f1⟩:=id hf1;have hl_0:e.length=9:=hl;clear he hl;show W A b82 e ⟨[],0⟩ _;unfold F82 at hF;obtain⟨x1,gx1,hF⟩:=bS hF;have w2:ans A 115 [V.isl (a0.map enc),vf1]=some (V.int .i64 x1):=s115 a0 f1 hf1 gx1;cases hF;simp only[simprocAttr,R0,b82,hl_0,h0_0,h1_0,hf1.fz,hf1.rl,w2];exact qf (by simp only[simprocAttr,R0,qg,p82,Rs.ev,qc,hl_0,h0_0,h1_0,hf1.fz,hf1.rl,w2])
def F73(a0:List Int):Option Int:=
 some (a0.length:Int)
theorem s73(a0:List Int){r:Int}(hF:F73 a0=some r):ans A 73 [V.isl (a0.map enc)]=some (enc r):=by
 refine qw (f:=p73) rfl rfl rfl fun e hl he=>?_;have h0_0:e.at 0=V.isl (a0.map enc):=he 0 _ rfl;have hl_0:e.length=5:=hl;clear he hl;show W A b73 e ⟨[],0⟩ _;unfold F73 at hF;cases hF;simp only[simprocAttr,R0,b73, *];exact qf (by simp only[simprocAttr,R0,qg,p73,Rs.ev,qc, *])
def F86(a0:qh):Option Int:=
 (chk ((a0.Dims.length:Int) - 1)).bind fun x3=>
 some x3
theorem s86(a0:qh){r:Int}(hF:F86 a0=some r):ans A 86 [(eC a0)]=some (enc r):=by
 refine qw (f:=p86) rfl rfl rfl fun e hl he=>?_;have h0_0:e.at 0=(eC a0):=he 0 _ rfl;have hl_0:e.length=7:=hl;clear he hl;show W A b86 e ⟨[],0⟩ _;unfold F86 at hF;have w2:=s73 a0.Dims rfl;obtain⟨x3,gx3,hF⟩:=bS hF;have wx3:=qz gx3;cases hF;simp only[simprocAttr,R0,b86, *];exact qf (by simp only[simprocAttr,R0,qg,p86,Rs.ev,qc, *])
def F87(a0:List (List (List Int))):Option Int:=
 some (a0.length:Int)
theorem s87(a0:List (List (List Int))){r:Int}(hF:F87 a0=some r):ans A 87 [V.isl (a0.map enc)]=some (enc r):=by
 refine qw (f:=p87) rfl rfl rfl fun e hl he=>?_;have h0_0:e.at 0=V.isl (a0.map enc):=he 0 _ rfl;have hl_0:e.length=5:=hl;clear he hl;show W A b87 e ⟨[],0⟩ _;unfold F87 at hF;cases hF;simp only[simprocAttr,R0,b87, *];exact qf (by simp only[simprocAttr,R0,qg,p87,Rs.ev,qc, *])
def F88(a0:Int):Option Bool:=
 (F56 a0 0 8).bind fun x1=>
 some (!x1)
theorem s88(a0:Int){r:Bool}(hF:F88 a0=some r):ans A 88 [V.int .i64 a0]=some (enc r):=by
 refine qw (f:=p88) rfl rfl rfl fun e hl he=>?_;have h0_0:e.at 0=V.int .i64 a0:=he 0 _ rfl;have hl_0:e.length=6:=hl;clear he hl;show W A b88 e ⟨[],0⟩ _;unfold F88 at hF;obtain⟨x1,gx1,hF⟩:=bS hF;have w2:=s56 a0 0 8 gx1;cases hF;simp only[simprocAttr,R0,b88, *];exact qf (by simp only[simprocAttr,R0,qg,p88,Rs.ev,qc, *])
def F89(a0:List (List Int)):Option Int:=
 some (a0.length:Int)
theorem s89(a0:List (List Int)){r:Int}(hF:F89 a0=some r):ans A 89 [V.isl (a0.map enc)]=some (enc r):=by
 refine qw (f:=p89) rfl rfl rfl fun e hl he=>?_;have h0_0:e.at 0=V.isl (a0.map enc):=he 0 _ rfl;have hl_0:e.length=5:=hl;clear he hl;show W A b89 e ⟨[],0⟩ _;unfold F89 at hF;cases hF;simp only[simprocAttr,R0,b89, *];exact qf (by simp only[simprocAttr,R0,qg,p89,Rs.ev,qc, *])
def F130(a0:Int)(d0:Int):Option Bool:=
 (chk (d0 - 1)).bind fun x1=>
 (F56 a0 0 x1).bind fun x2=>
 some (!x2)
theorem s130(a0:Int)(d0:Int){r:Bool}(hF:F130 a0 d0=some r):ans A 130 [V.int .i64 a0,V.iptr [V.int .i64 d0]]=some (enc r):=by
 refine qw (f:=p130) rfl rfl rfl fun e hl he=>?_;have h0_0:e.at 0=V.int .i64 a0:=he 0 _ rfl;have h1_0:e.at 1=V.iptr [V.int .i64 d0]:=he 1 _ rfl;have hl_0:e.length=9:=hl;clear he hl;show W A b130 e ⟨[],0⟩ _;unfold F130 at hF;obtain⟨x1,gx1,hF⟩:=bS hF;have wx1:=qz gx1;obtain⟨x2,gx2,hF⟩:=bS hF;have w3:=s56 a0 0 x1 gx2;cases hF;simp only[simprocAttr,R0,b130, *];exact qf (by simp only[simprocAttr,R0,qg,p130,Rs.ev,qc, *])
def F129(a0:Int)(a1:Int)(a2:List Int):Option Bool:=
 if(a2.length:Int)=a1 then
  (F82 a2 (fun x=> F130 x a0)).bind fun x4=>
  some (!x4)
 else
  some false
theorem s129(a0:Int)(a1:Int)(a2:List Int){r:Bool}(hF:F129 a0 a1 a2=some r):ans A 129 [V.int .i64 a0,V.int .i64 a1,V.isl (a2.map enc)]=some (enc r):=by
 refine qw (f:=p129) rfl rfl rfl fun e hl he=>?_;have h0_0:e.at 0=V.int .i64 a0:=he 0 _ rfl;have h1_0:e.at 1=V.int .i64 a1:=he 1 _ rfl;have h2_0:e.at 2=V.isl (a2.map enc):=he 2 _ rfl;have hl_0:e.length=17:=hl;clear he hl;have h_0:=ai hl_0 (ai h0_0 (ai h1_0 h2_0));show W A b129 e ⟨[],0⟩ _;unfold F129 at hF;have w2:ans A 73 [V.isl (a2.map enc)]=some (V.int .i64 (a2.length:Int)):=s73 a2 rfl;by_cases c3:(a2.length:Int)=a1
 ·rw[if_pos c3]at hF
  obtain⟨x4,gx4,hF⟩:=bS hF;have w5:ans A 82 [V.isl (a2.map enc),V.fn 130 [] [V.iptr [V.int .i64 a0]]]=some (V.bool x4):=s82 a2 (fun x=> F130 x a0) (Clo1.of (by intro h f; simp only[RZ,mapO]) (by intro h f; simp only[RZ,mapO]) (by intro f; simp only[RZ,RB]) (by intro f; simp only[RZ,RB]) (fun x _ hr=> s130 x a0 hr)) gx4;cases hF;simp only[simprocAttr,R0,b129, *];exact qf (by simp only[simprocAttr,R0,qg,p129,Rs.ev,qc, *])
 ·rw[if_neg c3]at hF
  cases hF;simp only[simprocAttr,R0,b129, *];exact qf (by simp only[simprocAttr,R0,qg,p129,Rs.ev,qc, *])
def F116(a0:List Int)(d0:Int)(d1:Int):Option Bool:=
 (F129 d0 d1 a0).bind fun x1=>
 some (!x1)
theorem s116(a0:List Int)(d0:Int)(d1:Int){r:Bool}(hF:F116 a0 d0 d1=some r):ans A 116 [V.isl (a0.map enc),V.iptr [V.int .i64 d0],V.iptr [V.int .i64 d1]]=some (enc r):=by
 refine qw (f:=p116) rfl rfl rfl fun e hl he=>?_;have h0_0:e.at 0=V.isl (a0.map enc):=he 0 _ rfl;have h1_0:e.at 1=V.iptr [V.int .i64 d0]:=he 1 _ rfl;have h2_0:e.at 2=V.iptr [V.int .i64 d1]:=he 2 _ rfl;have hl_0:e.length=10:=hl;clear he hl;show W A b116 e ⟨[],0⟩ _;unfold F116 at hF;obtain⟨x1,gx1,hF⟩:=bS hF;have w2:=s129 d0 d1 a0 gx1;cases hF;simp only[simprocAttr,R0,b116, *];exact qf (by simp only[simprocAttr,R0,qg,p116,Rs.ev,qc, *])
def xM(a0:List (List Int))(f1:(List Int)→Option Bool)(v8_1:Int)(s:Unit):Option ((Unit)⊕((Unit)⊕Int)):=
 (getI a0 v8_1).bind fun x4=>
(f1 x4).bind fun x6=>
if x6=true then
 some (.inr (.inr v8_1))
else
 some (.inl ())
def F128_1_D(a0:List (List Int))(f1:(List Int)→Option Bool)(v8_1:Int)(s:Unit):Option ((Unit)⊕Int):=
 some (.inl ())
def F128(a0:List (List Int))(f1:(List Int)→Option Bool):Option Int:=
 (forR 0 (a0.length:Int) (xM a0 f1) (F128_1_D a0 f1) ()).bind fun t8=> match t8 with
  | .inl _=>
   some (-1)
  | .inr r9=> some r9
def I128_1(a0:List (List Int))(f1:(List Int)→Option Bool)(vf1:V)(v8_1:Int)(s:Unit)(e:Env)(h:Heap):Prop:=
 ∃k2:Nat,h=⟨[],k2⟩∧e.length=19∧e.at 0=V.isl (a0.map enc)∧e.at 1=vf1∧e.at 7=V.int .i64 (a0.length:Int)∧e.at 8=V.int .i64 v8_1
def P128_1(a0:List (List Int))(f1:(List Int)→Option Bool)(vf1:V)(t:(Unit)⊕Int)(x:Ex)(e:Env)(h:Heap):Prop:=
 match t with
 | .inl _=> x= .normal∧∃k2:Nat,h=⟨[],k2⟩∧e.length=19
 | .inr r=> x= .ret∧Fin p128 (enc r) .ret e h
theorem l128_1(a0:List (List Int))(f1:(List Int)→Option Bool)(vf1:V)(hf1:Clo1 A vf1 f1){lo:Int}{s:Unit}{t:(Unit)⊕Int}(hF:forR lo (a0.length:Int) (xM a0 f1) (F128_1_D a0 f1) s=some t){e:Env}{h:Heap}(hI:I128_1 a0 f1 vf1 lo s e h):W A c128_1 e h (P128_1 a0 f1 vf1 t):=by
 obtain⟨g_f1,fs_f1,cs_f1,hv_f1,hc_f1⟩:=id hf1;show W A (.block 0 (.loop false b128_1)) e h _;rw[qr];refine qD hF 0 (by obtain⟨_,rfl,_⟩:=hI; rfl) (I128_1 a0 f1 vf1) hI ?_ ?_
 ·rintro v8_1 _ e h ⟨k2,rfl,h_1⟩ hlt hw o ho
  unfold xM at ho;obtain⟨x4,gx4,ho⟩:=bS ho;obtain⟨w5a,w5b⟩:=qk gx4;obtain⟨x6,gx6,ho⟩:=bS ho;have w7a:∀h,mapO (frz h 16) (fs_f1++[V.isl (x4.map enc)]++cs_f1)=some (fs_f1++[V.isl (x4.map enc)]++cs_f1):=fun h=> hc_f1.zf x4 h;have w7b:List.all (fs_f1++[V.isl (x4.map enc)]++cs_f1) (qu 16)=true:=hc_f1.zr x4;have w7c:ans A g_f1 (fs_f1++[V.isl (x4.map enc)]++cs_f1)=some (V.bool x6):=hc_f1.ka x4 _ gx6;cases x6 with
  |true=>
   rw[if_pos rfl]at ho;cases ho;simp only[simprocAttr,R0,b128_1, *];intro ht; subst ht;simp only[simprocAttr,RR,RB];exact ai rfl (qf (by simp only[simprocAttr,R0,qg,p128,Rs.ev,qc, *]))
  |false=>
   rw[if_neg wE]at ho;cases ho;simp only[simprocAttr,R0,b128_1, *];refine ai rfl (ei _ (ai rfl ?_));simp only[simprocAttr,R0, *]
 ·rintro v8_1 _ e h ⟨k2,rfl,h_1⟩ hge t1 ho
  unfold F128_1_D at ho;cases ho;simp only[simprocAttr,R0,b128_1, *];intro ht; subst ht;refine ai rfl (ei _ (ai rfl ?_));simp only[simprocAttr,R0, *]
theorem s128(a0:List (List Int))(f1:(List Int)→Option Bool){vf1:V}(hf1:Clo1 A vf1 f1){r:Int}(hF:F128 a0 f1=some r):ans A 128 [V.isl (a0.map enc),vf1]=some (enc r):=by
 refine qw (f:=p128) rfl rfl rfl fun e hl he=>?_;have h0_0:e.at 0=V.isl (a0.map enc):=he 0 _ rfl;have h1_0:e.at 1=vf1:=he 1 _ rfl;obtain⟨g_f1,fs_f1,cs_f1,hv_f1,hc_f1⟩:=id hf1;have hl_0:e.length=19:=hl;clear he hl;have h_0:=ai hl_0 (ai h0_0 h1_0);show W A b128 e ⟨[],0⟩ _;unfold F128 at hF;obtain⟨t8,gt8,hF⟩:=bS hF;rcases t8 with _|r9
 ·dsimp only at hF
  simp only[simprocAttr,R0,b128, *];refine W.mono (l128_1 a0 f1 vf1 hf1 gt8 (ei _ (ai rfl ?_))) ?_
  ·simp only[simprocAttr,R0, *]
  rintro _ e _ ⟨rfl,k2,rfl,hl_3⟩;cases hF;simp only[simprocAttr,R0, *];exact qf (by simp only[simprocAttr,R0,qg,p128,Rs.ev,qc, *])
 ·dsimp only at hF
  cases hF;simp only[simprocAttr,R0,b128, *];refine W.mono (l128_1 a0 f1 vf1 hf1 gt8 (ei _ (ai rfl ?_))) ?_
  ·simp only[simprocAttr,R0, *]
  rintro _ e h ⟨rfl,hq⟩;simp only[simprocAttr,RR,RB];exact hq
def F117(a0:List (List Int))(f1:(List Int)→Option Bool):Option Bool:=
 (F128 a0 f1).bind fun x1=>
 some (decide (0≤x1))
theorem s117(a0:List (List Int))(f1:(List Int)→Option Bool){vf1:V}(hf1:Clo1 A vf1 f1){r:Bool}(hF:F117 a0 f1=some r):ans A 117 [V.isl (a0.map enc),vf1]=some (enc r):=by
 refine qw (f:=p117) rfl rfl rfl fun e hl he=>?_;have h0_0:e.at 0=V.isl (a0.map enc):=he 0 _ rfl;have h1_0:e.at 1=vf1:=he 1 _ rfl;obtain⟨g_f1,fs_f1,cs_f1,hv_f1,hc_f1⟩:=id hf1;have hl_0:e.length=9:=hl;clear he hl;show W A b117 e ⟨[],0⟩ _;unfold F117 at hF;obtain⟨x1,gx1,hF⟩:=bS hF;have w2:ans A 128 [V.isl (a0.map enc),vf1]=some (V.int .i64 x1):=s128 a0 f1 hf1 gx1;cases hF;simp only[simprocAttr,R0,b117,hl_0,h0_0,h1_0,hf1.fz,hf1.rl,w2];exact qf (by simp only[simprocAttr,R0,qg,p117,Rs.ev,qc,hl_0,h0_0,h1_0,hf1.fz,hf1.rl,w2])
def F90(a0:Int)(a1:Int)(a2:List (List Int)):Option Bool:=
 (F117 a2 (fun x=> F116 x a0 a1)).bind fun x1=>
 some (!x1)
theorem s90(a0:Int)(a1:Int)(a2:List (List Int)){r:Bool}(hF:F90 a0 a1 a2=some r):ans A 90 [V.int .i64 a0,V.int .i64 a1,V.isl (a2.map enc)]=some (enc r):=by
 refine qw (f:=p90) rfl rfl rfl fun e hl he=>?_;have h0_0:e.at 0=V.int .i64 a0:=he 0 _ rfl;have h1_0:e.at 1=V.int .i64 a1:=he 1 _ rfl;have h2_0:e.at 2=V.isl (a2.map enc):=he 2 _ rfl;have hl_0:e.length=11:=hl;clear he hl;show W A b90 e ⟨[],0⟩ _;unfold F90 at hF;obtain⟨x1,gx1,hF⟩:=bS hF;have w2:ans A 117 [V.isl (a2.map enc),V.fn 116 [] [V.iptr [V.int .i64 a0],V.iptr [V.int .i64 a1]]]=some (V.bool x1):=s117 a2 (fun x=> F116 x a0 a1) (Clo1.of (by intro h f; simp only[RZ,mapO]) (by intro h f; simp only[RZ,mapO]) (by intro f; simp only[RZ,RB]) (by intro f; simp only[RZ,RB]) (fun x _ hr=> s116 x a0 a1 hr)) gx1;cases hF;simp only[simprocAttr,R0,b90, *];exact qf (by simp only[simprocAttr,R0,qg,p90,Rs.ev,qc, *])
def F119_2_B(a0:Int)(a2:List Int)(a3:List (List Int))(v18_1:Int)(x7:Int)(x9:List Int)(v28_2:Int)(o0_2:(List Int)):Option (((List Int))⊕((List Int))):=
 (getI x9 v28_2).bind fun x15=>
(getI o0_2 v28_2).bind fun x17=>
(chk (x7*x15)).bind fun x19=>
(chk (x17+x19)).bind fun x20=>
(remI x20 a0).bind fun x21=>
(setI o0_2 v28_2 x21).bind fun l23=>
some (.inl l23)
def F119_2_D(a0:Int)(a2:List Int)(a3:List (List Int))(v18_1:Int)(x7:Int)(x9:List Int)(v28_2:Int)(o0_2:(List Int)):Option ((List Int)):=
 some o0_2
def F119_1_B(a0:Int)(a2:List Int)(a3:List (List Int))(v18_1:Int)(o0_1:(List Int)):Option (((List Int))⊕((List Int))):=
 (getI a2 v18_1).bind fun x7=>
(getI a3 v18_1).bind fun x9=>
(forR 0 (x9.length:Int) (F119_2_B a0 a2 a3 v18_1 x7 x9) (F119_2_D a0 a2 a3 v18_1 x7 x9) o0_1).bind fun zo0_2=>
some (.inl zo0_2)
def F119_1_D(a0:Int)(a2:List Int)(a3:List (List Int))(v18_1:Int)(o0_1:(List Int)):Option ((List Int)):=
 some o0_1
def F119(a0:Int)(a1:Int)(a2:List Int)(a3:List (List Int)):Option (List Int):=
 (mkL 8 a1 0).bind fun l1=>
 (forR 0 (a2.length:Int) (F119_1_B a0 a2 a3) (F119_1_D a0 a2 a3) l1).bind fun zo0_1=>
 some zo0_1
def I119_2(a0:Int)(a2:List Int)(a3:List (List Int))(v18_1:Int)(x7:Int)(x9:List Int)(v28_2:Int)(o0_2:(List Int))(e:Env)(h:Heap):Prop:=
 ∃u12 k13:Nat,h=⟨[(u12,some (o0_2.map enc))],k13⟩∧e.length=49∧e.at 0=V.int .i64 a0∧e.at 3=V.isl (a3.map enc)∧e.at 9=V.sl 0 u12 0 o0_2.length 1∧e.at 11=V.int .i64 x7∧e.at 16=V.isl (a2.map enc)∧e.at 17=V.int .i64 (a2.length:Int)∧e.at 18=V.int .i64 v18_1∧e.at 26=V.isl (x9.map enc)∧e.at 27=V.int .i64 (x9.length:Int)∧e.at 28=V.int .i64 v28_2
def P119_2(a0:Int)(a2:List Int)(a3:List (List Int))(v18_1:Int)(x7:Int)(x9:List Int)(zo0_2:(List Int))(x:Ex)(e:Env)(h:Heap):Prop:=
 x= .normal∧∃u12 k13:Nat,h=⟨[(u12,some (zo0_2.map enc))],k13⟩∧e.length=49∧e.at 0=V.int .i64 a0∧e.at 3=V.isl (a3.map enc)∧e.at 9=V.sl 0 u12 0 zo0_2.length 1∧e.at 16=V.isl (a2.map enc)∧e.at 17=V.int .i64 (a2.length:Int)∧e.at 18=V.int .i64 v18_1
theorem l119_2(a0:Int)(a2:List Int)(a3:List (List Int))(v18_1:Int)(x7:Int)(x9:List Int){lo:Int}{s:(List Int)}{t:(List Int)}(hF:forR lo (x9.length:Int) (F119_2_B a0 a2 a3 v18_1 x7 x9) (F119_2_D a0 a2 a3 v18_1 x7 x9) s=some t){e:Env}{h:Heap}(hI:I119_2 a0 a2 a3 v18_1 x7 x9 lo s e h):W A c119_2 e h (P119_2 a0 a2 a3 v18_1 x7 x9 t):=by
 show W A (.block 2 (.loop false b119_2)) e h _;rw[qr];refine qD hF 1 (by obtain⟨_,_,rfl,_⟩:=hI; rfl) (I119_2 a0 a2 a3 v18_1 x7 x9) hI ?_ ?_
 ·rintro v28_2 o0_2 e h ⟨u12,k13,rfl,h_11⟩ hlt hw o ho
  unfold F119_2_B at ho;obtain⟨x15,gx15,ho⟩:=bS ho;obtain⟨w16a,w16b⟩:=qk gx15;obtain⟨x17,gx17,ho⟩:=bS ho;obtain⟨w18a,w18b⟩:=qk gx17;have w18c:=za gx17;have w18d:List.drop (Int.toNat v28_2) (o0_2.map enc)=(V.int .i64 x17)::List.drop ((Int.toNat v28_2)+1) (o0_2.map enc):=jx w18b;obtain⟨x19,gx19,ho⟩:=bS ho;have wx19:=qz gx19;obtain⟨x20,gx20,ho⟩:=bS ho;have wx20:=qz gx20;obtain⟨x21,gx21,ho⟩:=bS ho;obtain⟨w22a,w22b⟩:=rem_w gx21;obtain⟨l23,gl23,ho⟩:=bS ho;obtain⟨w24a,w24b,w24c,w24d,w24e⟩:=jV gl23;replace w24e:List.take (Int.toNat v28_2) (o0_2.map enc)++[V.int .i64 x21]++List.drop (Int.toNat v28_2+1) (o0_2.map enc)=List.map enc l23:=w24e;cases ho;simp only[simprocAttr,R0,b119_2, *];refine ai rfl (ei _ (ei _ (ai rfl ?_)));simp only[simprocAttr,R0, *]
 ·rintro v28_2 o0_2 e h ⟨u12,k13,rfl,h_11⟩ hge t1 ho
  unfold F119_2_D at ho;cases ho;simp only[simprocAttr,R0,b119_2, *];intro ht; subst ht;refine ai rfl (ei _ (ei _ (ai rfl ?_)));simp only[simprocAttr,R0, *]
def I119_1(a0:Int)(a2:List Int)(a3:List (List Int))(v18_1:Int)(o0_1:(List Int))(e:Env)(h:Heap):Prop:=
 ∃u4 k5:Nat,h=⟨[(u4,some (o0_1.map enc))],k5⟩∧e.length=49∧e.at 0=V.int .i64 a0∧e.at 3=V.isl (a3.map enc)∧e.at 9=V.sl 0 u4 0 o0_1.length 1∧e.at 16=V.isl (a2.map enc)∧e.at 17=V.int .i64 (a2.length:Int)∧e.at 18=V.int .i64 v18_1
def P119_1(a0:Int)(a2:List Int)(a3:List (List Int))(zo0_1:(List Int))(x:Ex)(e:Env)(h:Heap):Prop:=
 x= .normal∧∃u4 k5:Nat,h=⟨[(u4,some (zo0_1.map enc))],k5⟩∧e.length=49∧e.at 9=V.sl 0 u4 0 zo0_1.length 1
theorem l119_1(a0:Int)(a2:List Int)(a3:List (List Int)){lo:Int}{s:(List Int)}{t:(List Int)}(hF:forR lo (a2.length:Int) (F119_1_B a0 a2 a3) (F119_1_D a0 a2 a3) s=some t){e:Env}{h:Heap}(hI:I119_1 a0 a2 a3 lo s e h):W A c119_1 e h (P119_1 a0 a2 a3 t):=by
 show W A (.block 0 (.loop false b119_1)) e h _;rw[qr];refine qD hF 1 (by obtain⟨_,_,rfl,_⟩:=hI; rfl) (I119_1 a0 a2 a3) hI ?_ ?_
 ·rintro v18_1 o0_1 e h ⟨u4,k5,rfl,h_3⟩ hlt hw o ho
  unfold F119_1_B at ho;obtain⟨x7,gx7,ho⟩:=bS ho;obtain⟨w8a,w8b⟩:=qk gx7;obtain⟨x9,gx9,ho⟩:=bS ho;obtain⟨w10a,w10b⟩:=qk gx9;obtain⟨zo0_2,gt25,ho⟩:=bS ho;simp only[simprocAttr,R0,b119_1, *];refine W.mono (l119_2 a0 a2 a3 v18_1 x7 x9 gt25 (ei _ (ei _ (ai rfl ?_)))) ?_
  ·simp only[simprocAttr,R0, *]
  rintro _ e _ ⟨rfl,u12,k13,rfl,h_14⟩;cases ho;simp only[simprocAttr,R0, *];refine ai rfl (ei _ (ei _ (ai rfl ?_)));simp only[simprocAttr,R0, *]
 ·rintro v18_1 o0_1 e h ⟨u4,k5,rfl,h_3⟩ hge t1 ho
  unfold F119_1_D at ho;cases ho;simp only[simprocAttr,R0,b119_1, *];intro ht; subst ht;refine ai rfl (ei _ (ei _ (ai rfl ?_)));simp only[simprocAttr,R0, *]
theorem s119(a0:Int)(a1:Int)(a2:List Int)(a3:List (List Int)){r:List Int}(hF:F119 a0 a1 a2 a3=some r):ans A 119 [V.int .i64 a0,V.int .i64 a1,V.isl (a2.map enc),V.isl (a3.map enc)]=some (enc r):=by
 refine qw (f:=p119) rfl rfl rfl fun e hl he=>?_;have h0_0:e.at 0=V.int .i64 a0:=he 0 _ rfl;have h1_0:e.at 1=V.int .i64 a1:=he 1 _ rfl;have h2_0:e.at 2=V.isl (a2.map enc):=he 2 _ rfl;have h3_0:e.at 3=V.isl (a3.map enc):=he 3 _ rfl;have hl_0:e.length=49:=hl;clear he hl;show W A b119 e ⟨[],0⟩ _;unfold F119 at hF;obtain⟨l1,gl1,hF⟩:=bS hF;obtain⟨w2a,w2b,w2c,w2d,w2e⟩:=mkL_w gl1;replace w2e:(List.replicate (Int.toNat a1) [V.int .i64 0]).flatten=List.map enc l1:=w2e;obtain⟨zo0_1,gt26,hF⟩:=bS hF;simp only[simprocAttr, -Int.reduceNatCast',R0,b119, *];refine W.mono (l119_1 a0 a2 a3 gt26 (ei _ (ei _ (ai rfl ?_)))) ?_
 ·simp only[simprocAttr, -Int.reduceNatCast',R0, *]
 rintro _ e _ ⟨rfl,u4,k5,rfl,hl_6,h9_6⟩;have hE:=wA hF; subst hE;simp only[simprocAttr, -Int.reduceNatCast',R0, *];exact qf (by simp only[simprocAttr, -Int.reduceNatCast',R0,qg,p119,Rs.ev,qc,frzs (α:=Int) zo0_1,qO (α:=Int) zo0_1, *])
def F91(a0:qh)(a1:Int)(a2:List Int):Option (List Int):=
 if a1≤0 then
  some ([]:List Int)
 else
  (F86 a0).bind fun x2=>
  if x2 < a1 then
   some ([]:List Int)
  else
   (chk (a1 - 1)).bind fun x5=>
   (getI a0.Dims x5).bind fun x6=>
   (getI a0.Maps x5).bind fun x8=>
   (F119 a0.Prime x6 a2 x8).bind fun x10=>
   some x10
theorem s91(a0:qh)(a1:Int)(a2:List Int){r:List Int}(hF:F91 a0 a1 a2=some r):ans A 91 [(eC a0),V.int .i64 a1,V.isl (a2.map enc)]=some (enc r):=by
 refine qw (f:=p91) rfl rfl rfl fun e hl he=>?_;have h0_0:e.at 0=(eC a0):=he 0 _ rfl;have h1_0:e.at 1=V.int .i64 a1:=he 1 _ rfl;have h2_0:e.at 2=V.isl (a2.map enc):=he 2 _ rfl;have hl_0:e.length=31:=hl;clear he hl;have h_0:=ai hl_0 (ai h0_0 (ai h1_0 h2_0));show W A b91 e ⟨[],0⟩ _;unfold F91 at hF;by_cases c1:a1≤0
 ·rw[if_pos c1]at hF
  cases hF;simp only[simprocAttr,R0,b91, *];exact qf (by simp only[simprocAttr,R0,qg,p91,Rs.ev,qc, *])
 ·rw[if_neg c1]at hF
  obtain⟨x2,gx2,hF⟩:=bS hF;have w3:=s86 a0 gx2;by_cases c4:x2 < a1
  ·rw[if_pos c4]at hF
   cases hF;simp only[simprocAttr,R0,b91, *];exact qf (by simp only[simprocAttr,R0,qg,p91,Rs.ev,qc, *])
  ·rw[if_neg c4]at hF
   obtain⟨x5,gx5,hF⟩:=bS hF;have wx5:=qz gx5;obtain⟨x6,gx6,hF⟩:=bS hF;obtain⟨w7a,w7b⟩:=qk gx6;obtain⟨x8,gx8,hF⟩:=bS hF;obtain⟨w9a,w9b⟩:=qk gx8;obtain⟨x10,gx10,hF⟩:=bS hF;have w11:=s119 a0.Prime x6 a2 x8 gx10;cases hF;simp only[simprocAttr,R0,b91, *];exact qf (by simp only[simprocAttr,R0,qg,p91,Rs.ev,qc, *])
def F118(a0:Int):Option Bool:=
 some (!(decide (a0=0)))
theorem s118(a0:Int){r:Bool}(hF:F118 a0=some r):ans A 118 [V.int .i64 a0]=some (enc r):=by
 refine qw (f:=p118) rfl rfl rfl fun e hl he=>?_;have h0_0:e.at 0=V.int .i64 a0:=he 0 _ rfl;have hl_0:e.length=5:=hl;clear he hl;show W A b118 e ⟨[],0⟩ _;unfold F118 at hF;cases hF;simp only[simprocAttr,R0,b118, *];exact qf (by simp only[simprocAttr,R0,qg,p118,Rs.ev,qc, *])
def F92(a0:List Int):Option Bool:=
 (F82 a0 (fun x=> F118 x)).bind fun x1=>
 some (!x1)
theorem s92(a0:List Int){r:Bool}(hF:F92 a0=some r):ans A 92 [V.isl (a0.map enc)]=some (enc r):=by
 refine qw (f:=p92) rfl rfl rfl fun e hl he=>?_;have h0_0:e.at 0=V.isl (a0.map enc):=he 0 _ rfl;have hl_0:e.length=6:=hl;clear he hl;show W A b92 e ⟨[],0⟩ _;unfold F92 at hF;obtain⟨x1,gx1,hF⟩:=bS hF;have w2:ans A 82 [V.isl (a0.map enc),V.fn 118 [] []]=some (V.bool x1):=s82 a0 (fun x=> F118 x) (Clo1.of (by intro h f; simp only[RZ,mapO]) (by intro h f; simp only[RZ,mapO]) (by intro f; simp only[RZ,RB]) (by intro f; simp only[RZ,RB]) (fun x _ hr=> s118 x hr)) gx1;cases hF;simp only[simprocAttr,R0,b92, *];exact qf (by simp only[simprocAttr,R0,qg,p92,Rs.ev,qc, *])
def F42_1_B(a0:qh)(v34_1:Int)(s:Unit):Option ((Unit)⊕((Unit)⊕Bool)):=
 (getI a0.Maps v34_1).bind fun x15=>
(getI a0.Dims (v34_1+1)).bind fun x19=>
if(x15.length:Int)=x19 then
 (getI a0.Dims v34_1).bind fun x22=>
 (F90 a0.Prime x22 x15).bind fun x24=>
 if x24=true then
  some (.inl ())
 else
  some (.inr (.inr false))
else
 some (.inr (.inr false))
def F42_1_D(a0:qh)(v34_1:Int)(s:Unit):Option ((Unit)⊕Bool):=
 some (.inl ())
def F42_3_B(a0:qh)(v5_2:Int)(x34:List (List Int))(v74_3:Int)(s:Unit):Option ((Unit)⊕((Unit)⊕Bool)):=
 (getI x34 v74_3).bind fun x39=>
(chk (v5_2 - 1)).bind fun x41=>
(F91 a0 x41 x39).bind fun x42=>
(F92 x42).bind fun x44=>
if x44=true then
 some (.inl ())
else
 some (.inr (.inr false))
def F42_3_D(a0:qh)(v5_2:Int)(x34:List (List Int))(v74_3:Int)(s:Unit):Option ((Unit)⊕Bool):=
 some (.inl ())
def F42_2_S(a0:qh)(v5_2:Int):Option ((Int)⊕((Unit)⊕Bool)):=
 (F86 a0).bind fun x30=>
if v5_2≤x30 then
 (chk (v5_2 - 1)).bind fun x33=>
 (getI a0.Maps x33).bind fun x34=>
 (forR 0 (x34.length:Int) (F42_3_B a0 v5_2 x34) (F42_3_D a0 v5_2 x34) ()).bind fun t46=> match t46 with
  | .inl _=>
   (chk (v5_2+1)).bind fun x47=>
   some (.inl x47)
  | .inr r48=> some (.inr (.inr r48))
else
 some (.inr (.inl ()))
def F42(a0:qh):Option Bool:=
 (F67 a0.Prime).bind fun x1=>
 if x1=true then
  (F86 a0).bind fun x3=>
  (F56 x3 0 5).bind fun x5=>
  if x5=true then
   if(a0.Maps.length:Int)=x3 then
    (F82 a0.Dims (fun x=> F88 x)).bind fun x10=>
    if x10=true then
     some false
    else
     (forR 0 (a0.Maps.length:Int) (F42_1_B a0) (F42_1_D a0) ()).bind fun t26=> match t26 with
      | .inl _=>
       (qV (F42_2_S a0) 2).bind fun t49=> match t49 with
        | .inl _=>
         some true
        | .inr r50=> some r50
      | .inr r51=> some r51
   else
    some false
  else
   some false
 else
  some false
def I42_1(a0:qh)(v34_1:Int)(s:Unit)(e:Env)(h:Heap):Prop:=
 ∃k13:Nat,h=⟨[(0,none)],k13⟩∧e.length=86∧e.at 1=V.iptr [V.int .i64 a0.Prime,V.isl (a0.Dims.map enc),V.isl (a0.Maps.map enc)]∧e.at 32=V.isl (a0.Maps.map enc)∧e.at 33=V.int .i64 (a0.Maps.length:Int)∧e.at 34=V.int .i64 v34_1
def P42_1(a0:qh)(t:(Unit)⊕Bool)(x:Ex)(e:Env)(h:Heap):Prop:=
 match t with
 | .inl _=> x= .normal∧∃k13:Nat,h=⟨[(0,none)],k13⟩∧e.length=86∧e.at 1=V.iptr [V.int .i64 a0.Prime,V.isl (a0.Dims.map enc),V.isl (a0.Maps.map enc)]
 | .inr r=> x= .ret∧Fin p42 (enc r) .ret e h
theorem l42_1(a0:qh){lo:Int}{s:Unit}{t:(Unit)⊕Bool}(hF:forR lo (a0.Maps.length:Int) (F42_1_B a0) (F42_1_D a0) s=some t){e:Env}{h:Heap}(hI:I42_1 a0 lo s e h):W A c42_1 e h (P42_1 a0 t):=by
 show W A (.block 0 (.loop false b42_1)) e h _;rw[qr];refine qD hF 1 (by obtain⟨_,rfl,_⟩:=hI; rfl) (I42_1 a0) hI ?_ ?_
 ·rintro v34_1 _ e h ⟨k13,rfl,h_12⟩ hlt hw o ho
  unfold F42_1_B at ho;obtain⟨x15,gx15,ho⟩:=bS ho;obtain⟨w16a,w16b⟩:=qk gx15;have w18:=s89 x15 rfl;obtain⟨x19,gx19,ho⟩:=bS ho;obtain⟨w20a,w20b⟩:=qk gx19;by_cases c21:(x15.length:Int)=x19
  ·rw[if_pos c21]at ho
   obtain⟨x22,gx22,ho⟩:=bS ho;obtain⟨w23a,w23b⟩:=qk gx22;obtain⟨x24,gx24,ho⟩:=bS ho;have w25:=s90 a0.Prime x22 x15 gx24;cases x24 with
   |true=>
    rw[if_pos rfl]at ho;cases ho;simp only[simprocAttr,R0,b42_1, *];refine ai rfl (ei _ (ai rfl ?_));simp only[simprocAttr,R0, *]
   |false=>
    rw[if_neg wE]at ho;cases ho;simp only[simprocAttr,R0,b42_1, *];intro ht; subst ht;simp only[simprocAttr,RR,RB];exact ai rfl (qf (by simp only[simprocAttr,R0,qg,p42,Rs.ev,qc, *]))
  ·rw[if_neg c21]at ho
   cases ho;simp only[simprocAttr,R0,b42_1, *];intro ht; subst ht;simp only[simprocAttr,RR,RB];exact ai rfl (qf (by simp only[simprocAttr,R0,qg,p42,Rs.ev,qc, *]))
 ·rintro v34_1 _ e h ⟨k13,rfl,h_12⟩ hge t1 ho
  unfold F42_1_D at ho;cases ho;simp only[simprocAttr,R0,b42_1, *];intro ht; subst ht;refine ai rfl (ei _ (ai rfl ?_));simp only[simprocAttr,R0, *]
def I42_3(a0:qh)(v5_2:Int)(x34:List (List Int))(v74_3:Int)(s:Unit)(e:Env)(h:Heap):Prop:=
 ∃k37:Nat,h=⟨[(0,none)],k37⟩∧e.length=86∧e.at 1=V.iptr [V.int .i64 a0.Prime,V.isl (a0.Dims.map enc),V.isl (a0.Maps.map enc)]∧e.at 5=V.int .i64 v5_2∧e.at 72=V.isl (x34.map enc)∧e.at 73=V.int .i64 (x34.length:Int)∧e.at 74=V.int .i64 v74_3
def P42_3(a0:qh)(v5_2:Int)(x34:List (List Int))(t:(Unit)⊕Bool)(x:Ex)(e:Env)(h:Heap):Prop:=
 match t with
 | .inl _=> x= .normal∧∃k37:Nat,h=⟨[(0,none)],k37⟩∧e.length=86∧e.at 1=V.iptr [V.int .i64 a0.Prime,V.isl (a0.Dims.map enc),V.isl (a0.Maps.map enc)]∧e.at 5=V.int .i64 v5_2
 | .inr r=> x= .ret∧Fin p42 (enc r) .ret e h
theorem l42_3(a0:qh)(v5_2:Int)(x34:List (List Int)){lo:Int}{s:Unit}{t:(Unit)⊕Bool}(hF:forR lo (x34.length:Int) (F42_3_B a0 v5_2 x34) (F42_3_D a0 v5_2 x34) s=some t){e:Env}{h:Heap}(hI:I42_3 a0 v5_2 x34 lo s e h):W A c42_3 e h (P42_3 a0 v5_2 x34 t):=by
 show W A (.block 4 (.loop false b42_3)) e h _;rw[qr];refine qD hF 1 (by obtain⟨_,rfl,_⟩:=hI; rfl) (I42_3 a0 v5_2 x34) hI ?_ ?_
 ·rintro v74_3 _ e h ⟨k37,rfl,h_36⟩ hlt hw o ho
  unfold F42_3_B at ho;obtain⟨x39,gx39,ho⟩:=bS ho;obtain⟨w40a,w40b⟩:=qk gx39;obtain⟨x41,gx41,ho⟩:=bS ho;have wx41:=qz gx41;obtain⟨x42,gx42,ho⟩:=bS ho;have w43:=s91 a0 x41 x39 gx42;obtain⟨x44,gx44,ho⟩:=bS ho;have w45:=s92 x42 gx44;cases x44 with
  |true=>
   rw[if_pos rfl]at ho;cases ho;simp only[simprocAttr,R0,b42_3, *];refine ai rfl (ei _ (ai rfl ?_));simp only[simprocAttr,R0, *]
  |false=>
   rw[if_neg wE]at ho;cases ho;simp only[simprocAttr,R0,b42_3, *];intro ht; subst ht;simp only[simprocAttr,RR,RB];exact ai rfl (qf (by simp only[simprocAttr,R0,qg,p42,Rs.ev,qc, *]))
 ·rintro v74_3 _ e h ⟨k37,rfl,h_36⟩ hge t1 ho
  unfold F42_3_D at ho;cases ho;simp only[simprocAttr,R0,b42_3, *];intro ht; subst ht;refine ai rfl (ei _ (ai rfl ?_));simp only[simprocAttr,R0, *]
def I42_2(a0:qh)(v5_2:Int)(e:Env)(h:Heap):Prop:=
 ∃k28:Nat,h=⟨[(0,none)],k28⟩∧e.length=86∧e.at 1=V.iptr [V.int .i64 a0.Prime,V.isl (a0.Dims.map enc),V.isl (a0.Maps.map enc)]∧e.at 5=V.int .i64 v5_2
def P42_2(a0:qh)(t:(Unit)⊕Bool)(x:Ex)(e:Env)(h:Heap):Prop:=
 match t with
 | .inl _=> x= .normal∧∃k28:Nat,h=⟨[(0,none)],k28⟩∧e.length=86
 | .inr r=> x= .ret∧Fin p42 (enc r) .ret e h
theorem l42_2(a0:qh){s:Int}{t:(Unit)⊕Bool}(hF:qV (F42_2_S a0) s=some t){e:Env}{h:Heap}(hI:I42_2 a0 s e h):W A c42_2 e h (P42_2 a0 t):=by
 show W A (.block 2 (.loop false b42_2)) e h _;rw[qr];refine jh hF 1 (by obtain⟨_,rfl,_⟩:=hI; rfl) (I42_2 a0) hI ?_
 ·rintro v5_2 e h ⟨k28,rfl,h_27⟩ o ho
  unfold F42_2_S at ho;obtain⟨x30,gx30,ho⟩:=bS ho;have w31:=s86 a0 gx30;by_cases c32:v5_2≤x30
  ·rw[if_pos c32]at ho
   obtain⟨x33,gx33,ho⟩:=bS ho;have wx33:=qz gx33;obtain⟨x34,gx34,ho⟩:=bS ho;obtain⟨w35a,w35b⟩:=qk gx34;obtain⟨t46,gt46,ho⟩:=bS ho;rcases t46 with _|r48
   ·dsimp only at ho
    simp only[simprocAttr,R0,b42_2, *];refine W.mono (l42_3 a0 v5_2 x34 gt46 (ei _ (ai rfl ?_))) ?_
    ·simp only[simprocAttr,R0, *]
    rintro _ e _ ⟨rfl,k37,rfl,h_38⟩;obtain⟨x47,gx47,ho⟩:=bS ho;have wx47:=qz gx47;cases ho;simp only[simprocAttr,R0, *];refine ai rfl (ei _ (ai rfl ?_));simp only[simprocAttr,R0, *]
   ·dsimp only at ho
    cases ho;simp only[simprocAttr,R0,b42_2, *];refine W.mono (l42_3 a0 v5_2 x34 gt46 (ei _ (ai rfl ?_))) ?_
    ·simp only[simprocAttr,R0, *]
    rintro _ e h ⟨rfl,hq⟩;simp only[simprocAttr,RR,RB];intro ht; subst ht;simp only[simprocAttr,RR,RB];exact ai rfl hq
  ·rw[if_neg c32]at ho
   cases ho;simp only[simprocAttr,R0,b42_2, *];intro ht; subst ht;simp only[simprocAttr,RR,RB];refine ai rfl (ei _ (ai rfl ?_));simp only[simprocAttr,R0, *]
set_option maxHeartbeats 8000000 in
theorem s42(a0:qh){r:Bool}(hF:F42 a0=some r):ans A 42 [(eC a0)]=some (enc r):=by
 refine qw (f:=p42) rfl rfl rfl fun e hl he=>?_;have h0_0:e.at 0=(eC a0):=he 0 _ rfl;have hl_0:e.length=86:=hl;clear he hl;have h_0:=ai hl_0 h0_0;show W A b42 e ⟨[],0⟩ _;unfold F42 at hF;obtain⟨x1,gx1,hF⟩:=bS hF;have w2:ans A 67 [V.int .i64 a0.Prime]=some (V.bool x1):=s67 a0.Prime gx1;cases x1 with
 |true=>
  rw[if_pos rfl]at hF;obtain⟨x3,gx3,hF⟩:=bS hF;have w4:ans A 86 [(eC a0)]=some (V.int .i64 x3):=s86 a0 gx3;obtain⟨x5,gx5,hF⟩:=bS hF;have w6:ans A 56 [V.int .i64 x3,V.int .i64 0,V.int .i64 5]=some (V.bool x5):=s56 x3 0 5 gx5;cases x5 with
  |true=>
   rw[if_pos rfl]at hF;have w8:ans A 87 [V.isl (a0.Maps.map enc)]=some (V.int .i64 (a0.Maps.length:Int)):=s87 a0.Maps rfl;by_cases c9:(a0.Maps.length:Int)=x3
   ·rw[if_pos c9]at hF
    obtain⟨x10,gx10,hF⟩:=bS hF;have w11:ans A 82 [V.isl (a0.Dims.map enc),V.fn 88 [] []]=some (V.bool x10):=s82 a0.Dims (fun x=> F88 x) (Clo1.of (by intro h f; simp only[RZ,mapO]) (by intro h f; simp only[RZ,mapO]) (by intro f; simp only[RZ,RB]) (by intro f; simp only[RZ,RB]) (fun x _ hr=> s88 x hr)) gx10;cases x10 with
    |true=>
     rw[if_pos rfl]at hF;cases hF;simp only[simprocAttr,R0,b42, *];exact qf (by simp only[simprocAttr,R0,qg,p42,Rs.ev,qc, *])
    |false=>
     rw[if_neg wE]at hF;obtain⟨t26,gt26,hF⟩:=bS hF;rcases t26 with _|r51
     ·dsimp only at hF
      simp only[simprocAttr,R0,b42, *];refine W.mono (l42_1 a0 gt26 (ei _ (ai rfl ?_))) ?_
      ·simp only[simprocAttr,R0, *]
      rintro _ e _ ⟨rfl,k13,rfl,h_14⟩;obtain⟨t49,gt49,hF⟩:=bS hF;rcases t49 with _|r50
      ·dsimp only at hF
       simp only[simprocAttr,R0, *];refine W.mono (l42_2 a0 gt49 (ei _ (ai rfl ?_))) ?_
       ·simp only[simprocAttr,R0, *]
       rintro _ e _ ⟨rfl,k28,rfl,hl_29⟩;cases hF;simp only[simprocAttr,R0, *];exact qf (by simp only[simprocAttr,R0,qg,p42,Rs.ev,qc, *])
      ·dsimp only at hF
       cases hF;simp only[simprocAttr,R0, *];refine W.mono (l42_2 a0 gt49 (ei _ (ai rfl ?_))) ?_
       ·simp only[simprocAttr,R0, *]
       rintro _ e h ⟨rfl,hq⟩;simp only[simprocAttr,RR,RB];exact hq
     ·dsimp only at hF
      cases hF;simp only[simprocAttr,R0,b42, *];refine W.mono (l42_1 a0 gt26 (ei _ (ai rfl ?_))) ?_
      ·simp only[simprocAttr,R0, *]
      rintro _ e h ⟨rfl,hq⟩;simp only[simprocAttr,RR,RB];exact hq
   ·rw[if_neg c9]at hF
    cases hF;simp only[simprocAttr,R0,b42, *];exact qf (by simp only[simprocAttr,R0,qg,p42,Rs.ev,qc, *])
  |false=>
   rw[if_neg wE]at hF;cases hF;simp only[simprocAttr,R0,b42, *];exact qf (by simp only[simprocAttr,R0,qg,p42,Rs.ev,qc, *])
 |false=>
  rw[if_neg wE]at hF;cases hF;simp only[simprocAttr,R0,b42, *];exact qf (by simp only[simprocAttr,R0,qg,p42,Rs.ev,qc, *])
def F83(a0:Int):Option Bool:=
 (F56 a0 0 5).bind fun x1=>
 some (!x1)
theorem s83(a0:Int){r:Bool}(hF:F83 a0=some r):ans A 83 [V.int .i64 a0]=some (enc r):=by
 refine qw (f:=p83) rfl rfl rfl fun e hl he=>?_;have h0_0:e.at 0=V.int .i64 a0:=he 0 _ rfl;have hl_0:e.length=6:=hl;clear he hl;show W A b83 e ⟨[],0⟩ _;unfold F83 at hF;obtain⟨x1,gx1,hF⟩:=bS hF;have w2:=s56 a0 0 5 gx1;cases hF;simp only[simprocAttr,R0,b83, *];exact qf (by simp only[simprocAttr,R0,qg,p83,Rs.ev,qc, *])
def F84(a0:Int)(a1:Int)(a2:Int)(a3:Int)(d0:Bool)(d1:qd):Option Bool:=
 if d0=true then
  if a3=0 then
   some true
  else
   (chk (a0 - 1)).bind fun x2=>
   (getI d1.Levels x2).bind fun x3=>
   (getI x3 a2).bind fun x5=>
   (getI d1.Levels a0).bind fun x7=>
   (getI x7 a1).bind fun x9=>
   some (decide (x5≤x9))
 else
  some false
theorem q84(r0:Nat×Option (List V))(r1:Nat×Option (List V))(uid clk:Nat)(G:List (Nat×Option (List V)))(a0:Int)(a1:Int)(a2:Int)(a3:Int)(d0:Bool)(d1:qd){r:Bool}(hF:F84 a0 a1 a2 a3 d0 d1=some r):res A 84 [V.int .i64 a0,V.int .i64 a1,V.int .i64 a2,V.int .i64 a3,V.ptr 2 uid 0,V.iptr [V.int .i64 d1.Complex.Prime,V.isl (d1.Complex.Dims.map enc),V.isl (d1.Complex.Maps.map enc),V.isl (d1.Levels.map enc)]] ⟨r0::r1::(uid,some [V.bool d0])::G,clk⟩=some (V.undef,⟨r0::r1::(uid,some [V.bool r])::G,clk⟩):=by
 refine res_of (f:=p84) rfl rfl rfl fun e hl he=>?_;have h0_0:e.at 0=V.int .i64 a0:=he 0 _ rfl;have h1_0:e.at 1=V.int .i64 a1:=he 1 _ rfl;have h2_0:e.at 2=V.int .i64 a2:=he 2 _ rfl;have h3_0:e.at 3=V.int .i64 a3:=he 3 _ rfl;have h4_0:e.at 4=V.ptr 2 uid 0:=he 4 _ rfl;have h5_0:e.at 5=V.iptr [V.int .i64 d1.Complex.Prime,V.isl (d1.Complex.Dims.map enc),V.isl (d1.Complex.Maps.map enc),V.isl (d1.Levels.map enc)]:=he 5 _ rfl;have hl_0:e.length=35:=hl;clear he hl;have h_0:=ai hl_0 (ai h0_0 (ai h1_0 (ai h2_0 (ai h3_0 (ai h4_0 h5_0)))));show W A b84 e _ _;unfold F84 at hF;cases d0 with
 |true=>
  rw[if_pos rfl]at hF;by_cases c1:a3=0
  ·rw[if_pos c1]at hF
   cases hF;simp only[simprocAttr,R0,b84, *];refine rfin_normal ?_ ?_
   ·simp only[simprocAttr,R0,qg,p84,mapO]; rfl
   ·simp only[simprocAttr,R0, *]
  ·rw[if_neg c1]at hF
   obtain⟨x2,gx2,hF⟩:=bS hF;have wx2:=qz gx2;obtain⟨x3,gx3,hF⟩:=bS hF;obtain⟨w4a,w4b⟩:=qk gx3;obtain⟨x5,gx5,hF⟩:=bS hF;obtain⟨w6a,w6b⟩:=qk gx5;obtain⟨x7,gx7,hF⟩:=bS hF;obtain⟨w8a,w8b⟩:=qk gx7;obtain⟨x9,gx9,hF⟩:=bS hF;obtain⟨w10a,w10b⟩:=qk gx9;cases hF;simp only[simprocAttr,R0,b84, *];refine rfin_normal ?_ ?_
   ·simp only[simprocAttr,R0,qg,p84,mapO]; rfl
   ·simp only[simprocAttr,R0, *]
 |false=>
  rw[if_neg wE]at hF;cases hF;simp only[simprocAttr,R0,b84, *];refine rfin_normal ?_ ?_
  ·simp only[simprocAttr,R0,qg,p84,mapO]; rfl
  ·simp only[simprocAttr,R0, *]
def F85{σ:Type}(ms:List (List (List Int)))(f:Int→Int→Int→Int→σ→Option σ)(s:σ):Option σ:=
 forR 0 (ms.length:Int) (fun k s=>(getI ms k).bind fun rows=>(forR 0 (rows.length:Int) (fun i s=>(getI rows i).bind fun row=>
  (forR 0 (row.length:Int) (fun j s=>(getI row j).bind fun v=>(chk (k+1)).bind fun n=>(f n i j v s).bind fun s'=> some (.inl s')) (fun _ s=> some s) s).bind fun s'=> some (.inl s')) (fun _ s=> some s) s).bind fun s'=> some (.inl s')) (fun _ s=> some s) s
structure Step4 (g:Nat) (fs cs:List V) {σ:Type} (S:σ→List (Nat×Option (List V))→Prop) (f:Int→Int→Int→Int→σ→Option σ):Prop where
 call:∀n r p v s s',f n r p v s=some s'→∀E c,S s E→∃E' c',res A g (fs++[V.int .i64 n,V.int .i64 r,V.int .i64 p,V.int .i64 v]++cs) ⟨E,c⟩=some (V.undef,⟨E',c'⟩)∧S s' E'
 pad:∀s E x,S s E→S s (E++[x])
set_option maxHeartbeats 8000000 in
theorem e85{g:Nat}{fs cs:List V}{σ:Type}{S:σ→List (Nat×Option (List V))→Prop}{f:Int→Int→Int→Int→σ→Option σ}(st:Step4 g fs cs S f)(x:qh){s s':σ}(hF:F85 x.Maps f s=some s')(E:List (Nat×Option (List V)))(c:Nat)(hS:S s E):
  ∃h',res A 85 [V.agg [V.int .i64 x.Prime,V.isl (List.map enc x.Dims),V.isl (List.map enc x.Maps)],V.fn g fs cs] ⟨E,c⟩=some (V.undef,h')∧S s' h'.ents:=by
 refine res_ex (f:=p85) rfl rfl rfl fun e hl he=>?_;have h0:e.at 0=V.agg [V.int .i64 x.Prime,V.isl (List.map enc x.Dims),V.isl (List.map enc x.Maps)]:=he 0 _ rfl;have h1:e.at 1=V.fn g fs cs:=he 1 _ rfl;have hl_0:e.length=42:=hl;clear he hl;show W A b85 e ⟨E,c⟩ _;unfold F85 at hF;simp only[simprocAttr, -Int.reduceNatCast',R0,b85,h0,h1,qF,set_last, *];show W A (.block 0 (.loop true b85_1)) _ _ _;rw[qr];refine qD hF _ rfl (fun i s e h=> S s h.ents∧e.length=42∧e.at 1=V.fn g fs cs∧e.at 11=V.isl (List.map enc x.Maps)∧e.at 12=V.int .i64 (x.Maps.length:Int)∧e.at 13=V.int .i64 i) ?_ ?_ ?_
 ·refine ai (st.pad _ _ _ hS) ?_
  simp only[simprocAttr, -Int.reduceNatCast',R0,h0,h1, *]
 ·rintro i s e ⟨E,c⟩ ⟨hS,hl_1,h1_1,h11_1,h12_1,h13_1⟩ hlt hw o ho
  obtain⟨rows,g1,ho⟩:=bS ho;obtain⟨w1a,w1b⟩:=qk g1;obtain⟨z,g2,ho⟩:=bS ho;have hE:=wA ho; subst hE;simp only[simprocAttr, -Int.reduceNatCast',R0,b85_1, *];refine W.mono (Q:=fun x' e h=> x'= .normal∧S z h.ents∧e.length=42∧e.at 1=V.fn g fs cs∧e.at 11=V.isl (List.map enc x.Maps)∧e.at 12=V.int .i64 (x.Maps.length:Int)∧e.at 13=V.int .i64 i) ?_ ?_
  rotate_left
  ·rintro _ e ⟨E2,c2⟩ ⟨rfl,hS2,hl_2,h1_2,h11_2,h12_2,h13_2⟩
   simp only[simprocAttr, -Int.reduceNatCast',R0, *];refine ai rfl (ai hS2 ?_);simp only[simprocAttr, -Int.reduceNatCast',R0, *]
  show W A (.block 2 (.loop true b85_2)) _ _ _;rw[qr];refine qD g2 _ rfl (fun j s e h=> S s h.ents∧e.length=42∧e.at 1=V.fn g fs cs∧e.at 11=V.isl (List.map enc x.Maps)∧e.at 12=V.int .i64 (x.Maps.length:Int)∧e.at 13=V.int .i64 i∧e.at 4=V.int .i64 i∧e.at 18=V.isl (List.map enc rows)∧e.at 19=V.int .i64 (rows.length:Int)∧e.at 20=V.int .i64 j) ?_ ?_ ?_
  ·refine ai hS ?_
   simp only[simprocAttr, -Int.reduceNatCast',R0, *]
  ·clear hl_1 h1_1 h11_1 h12_1 h13_1
   rintro j s e ⟨E,c⟩ ⟨hS,hl_1,h1_1,h11_1,h12_1,h13_1,h4_1,h18_1,h19_1,h20_1⟩ hlt2 hw2 o ho;obtain⟨row,g3,ho⟩:=bS ho;obtain⟨w3a,w3b⟩:=qk g3;obtain⟨z2,g4,ho⟩:=bS ho;have hE:=wA ho; subst hE;simp only[simprocAttr, -Int.reduceNatCast',R0,b85_2, *];refine W.mono (Q:=fun x' e h=> x'= .normal∧S z2 h.ents∧e.length=42∧e.at 1=V.fn g fs cs∧e.at 11=V.isl (List.map enc x.Maps)∧e.at 12=V.int .i64 (x.Maps.length:Int)∧e.at 13=V.int .i64 i∧e.at 4=V.int .i64 i∧e.at 18=V.isl (List.map enc rows)∧e.at 19=V.int .i64 (rows.length:Int)∧e.at 20=V.int .i64 j) ?_ ?_
   rotate_left
   ·rintro _ e ⟨E2,c2⟩ ⟨rfl,hS2,hl_2,h1_2,h11_2,h12_2,h13_2,h4_2,h18_2,h19_2,h20_2⟩
    simp only[simprocAttr, -Int.reduceNatCast',R0, *];refine ai rfl (ai hS2 ?_);simp only[simprocAttr, -Int.reduceNatCast',R0, *]
   show W A (.block 4 (.loop true b85_3)) _ _ _;rw[qr];refine qD g4 _ rfl (fun k s e h=> S s h.ents∧e.length=42∧e.at 1=V.fn g fs cs∧e.at 11=V.isl (List.map enc x.Maps)∧e.at 12=V.int .i64 (x.Maps.length:Int)∧e.at 13=V.int .i64 i∧e.at 4=V.int .i64 i∧e.at 18=V.isl (List.map enc rows)∧e.at 19=V.int .i64 (rows.length:Int)∧e.at 20=V.int .i64 j∧e.at 6=V.int .i64 j∧e.at 25=V.isl (List.map enc row)∧e.at 26=V.int .i64 (row.length:Int)∧e.at 27=V.int .i64 k) ?_ ?_ ?_
   ·refine ai hS ?_
    simp only[simprocAttr, -Int.reduceNatCast',R0, *]
   ·clear hl_1 h1_1 h11_1 h12_1 h13_1 h4_1 h18_1 h19_1 h20_1
    rintro k s e ⟨E,c⟩ ⟨hS,hl_1,h1_1,h11_1,h12_1,h13_1,h4_1,h18_1,h19_1,h20_1,h6_1,h25_1,h26_1,h27_1⟩ hlt3 hw3 o ho;obtain⟨v,g5,ho⟩:=bS ho;obtain⟨w5a,w5b⟩:=qk g5;obtain⟨n,g6,ho⟩:=bS ho;have w6:=qz g6;obtain⟨s2,g7,ho⟩:=bS ho;have hE:=wA ho; subst hE;obtain⟨E2,c2,hr,hS2⟩:=st.call _ _ _ _ _ _ g7 E c hS;simp only[simprocAttr, -Int.reduceNatCast',R0,b85_3,hl_1,h1_1,h11_1,h12_1,h13_1,h4_1,h18_1,h19_1,h20_1,h6_1,h25_1,h26_1,h27_1,eq_true hlt3,hw3,w5a,w5b,w6,zk,wR]at hr ⊢;simp only[simprocAttr, -Int.reduceNatCast',R0,hr, *];refine ai rfl (ai hS2 ?_);simp only[simprocAttr, -Int.reduceNatCast',R0, *]
   ·clear hl_1 h1_1 h11_1 h12_1 h13_1 h4_1 h18_1 h19_1 h20_1
    rintro k s e ⟨E,c⟩ ⟨hS,hl_1,h1_1,h11_1,h12_1,h13_1,h4_1,h18_1,h19_1,h20_1,h6_1,h25_1,h26_1,h27_1⟩ hge t1 ho;have hE:=wA ho; subst hE;simp only[simprocAttr, -Int.reduceNatCast',R0,b85_3, *];intro ht; subst ht;exact hS
  ·clear hl_1 h1_1 h11_1 h12_1 h13_1
   rintro j s e ⟨E,c⟩ ⟨hS,hl_1,h1_1,h11_1,h12_1,h13_1,h4_1,h18_1,h19_1,h20_1⟩ hge t1 ho;have hE:=wA ho; subst hE;simp only[simprocAttr, -Int.reduceNatCast',R0,b85_2, *];intro ht; subst ht;exact hS
 ·rintro i s e ⟨E,c⟩ ⟨hS,hl_1,h1_1,h11_1,h12_1,h13_1⟩ hge t1 ho
  have hE:=wA ho; subst hE;simp only[simprocAttr, -Int.reduceNatCast',R0,b85_1, *];intro ht; subst ht;refine ai (fun i=> by simp only[ne_eq,reduceCtorEq,not_false_eq_true]) (ai ?_ hS);simp only[simprocAttr, -Int.reduceNatCast',R1,qg,p85,mapO];rfl
def F41_1_B(a0:qd)(v24_1:Int)(s:Unit):Option ((Unit)⊕((Unit)⊕Bool)):=
 (getI a0.Levels v24_1).bind fun x7=>
(getI a0.Complex.Dims v24_1).bind fun x11=>
if(x7.length:Int)=x11 then
 (F82 x7 (fun x=> F83 x)).bind fun x14=>
 if x14=true then
  some (.inr (.inr false))
 else
  some (.inl ())
else
 some (.inr (.inr false))
def F41_1_D(a0:qd)(v24_1:Int)(s:Unit):Option ((Unit)⊕Bool):=
 some (.inl ())
def F41(a0:qd):Option Bool:=
 (F42 a0.Complex).bind fun x1=>
 if x1=true then
  if(a0.Levels.length:Int)=(a0.Complex.Dims.length:Int)then
   (forR 0 (a0.Levels.length:Int) (F41_1_B a0) (F41_1_D a0) ()).bind fun t16=> match t16 with
    | .inl _=>
     (F85 a0.Complex.Maps (fun n r p v s=> F84 n r p v s a0) true).bind fun y17=>
     some y17
    | .inr r21=> some r21
  else
   some false
 else
  some false
def I41_1(a0:qd)(v24_1:Int)(s:Unit)(e:Env)(h:Heap):Prop:=
 ∃k5:Nat,h=⟨[(0,none),(1,some [V.int .i64 a0.Complex.Prime,V.isl (a0.Complex.Dims.map enc),V.isl (a0.Complex.Maps.map enc)])],k5⟩∧e.length=46∧e.at 1=V.iptr [V.int .i64 a0.Complex.Prime,V.isl (a0.Complex.Dims.map enc),V.isl (a0.Complex.Maps.map enc),V.isl (a0.Levels.map enc)]∧e.at 3=V.ptr 1 1 0∧e.at 22=V.isl (a0.Levels.map enc)∧e.at 23=V.int .i64 (a0.Levels.length:Int)∧e.at 24=V.int .i64 v24_1
def P41_1(a0:qd)(t:(Unit)⊕Bool)(x:Ex)(e:Env)(h:Heap):Prop:=
 match t with
 | .inl _=> x= .normal∧∃k5:Nat,h=⟨[(0,none),(1,some [V.int .i64 a0.Complex.Prime,V.isl (a0.Complex.Dims.map enc),V.isl (a0.Complex.Maps.map enc)])],k5⟩∧e.length=46∧e.at 1=V.iptr [V.int .i64 a0.Complex.Prime,V.isl (a0.Complex.Dims.map enc),V.isl (a0.Complex.Maps.map enc),V.isl (a0.Levels.map enc)]∧e.at 3=V.ptr 1 1 0
 | .inr r=> x= .ret∧Fin p41 (enc r) .ret e h
theorem l41_1(a0:qd){lo:Int}{s:Unit}{t:(Unit)⊕Bool}(hF:forR lo (a0.Levels.length:Int) (F41_1_B a0) (F41_1_D a0) s=some t){e:Env}{h:Heap}(hI:I41_1 a0 lo s e h):W A c41_1 e h (P41_1 a0 t):=by
 show W A (.block 0 (.loop false b41_1)) e h _;rw[qr];refine qD hF 2 (by obtain⟨_,rfl,_⟩:=hI; rfl) (I41_1 a0) hI ?_ ?_
 ·rintro v24_1 _ e h ⟨k5,rfl,h_4⟩ hlt hw o ho
  unfold F41_1_B at ho;obtain⟨x7,gx7,ho⟩:=bS ho;obtain⟨w8a,w8b⟩:=qk gx7;have w10:ans A 73 [V.isl (x7.map enc)]=some (V.int .i64 (x7.length:Int)):=s73 x7 rfl;obtain⟨x11,gx11,ho⟩:=bS ho;obtain⟨w12a,w12b⟩:=qk gx11;by_cases c13:(x7.length:Int)=x11
  ·rw[if_pos c13]at ho
   obtain⟨x14,gx14,ho⟩:=bS ho;have w15:ans A 82 [V.isl (x7.map enc),V.fn 83 [] []]=some (V.bool x14):=s82 x7 (fun x=> F83 x) (Clo1.of (by intro h f; simp only[RZ,mapO]) (by intro h f; simp only[RZ,mapO]) (by intro f; simp only[RZ,RB]) (by intro f; simp only[RZ,RB]) (fun x _ hr=> s83 x hr)) gx14;cases x14 with
   |true=>
    rw[if_pos rfl]at ho;cases ho;simp only[simprocAttr,R0,b41_1, *];intro ht; subst ht;simp only[simprocAttr,RR,RB];exact ai rfl (qf (by simp only[simprocAttr,R0,qg,p41,Rs.ev,qc, *]))
   |false=>
    rw[if_neg wE]at ho;cases ho;simp only[simprocAttr,R0,b41_1, *];refine ai rfl (ei _ (ai rfl ?_));simp only[simprocAttr,R0, *]
  ·rw[if_neg c13]at ho
   cases ho;simp only[simprocAttr,R0,b41_1, *];intro ht; subst ht;simp only[simprocAttr,RR,RB];exact ai rfl (qf (by simp only[simprocAttr,R0,qg,p41,Rs.ev,qc, *]))
 ·rintro v24_1 _ e h ⟨k5,rfl,h_4⟩ hge t1 ho
  unfold F41_1_D at ho;cases ho;simp only[simprocAttr,R0,b41_1, *];intro ht; subst ht;refine ai rfl (ei _ (ai rfl ?_));simp only[simprocAttr,R0, *]
theorem s41(a0:qd){r:Bool}(hF:F41 a0=some r):ans A 41 [(eF a0)]=some (enc r):=by
 refine qw (f:=p41) rfl rfl rfl fun e hl he=>?_;have h0_0:e.at 0=(eF a0):=he 0 _ rfl;have hl_0:e.length=46:=hl;clear he hl;have h_0:=ai hl_0 h0_0;show W A b41 e ⟨[],0⟩ _;unfold F41 at hF;obtain⟨x1,gx1,hF⟩:=bS hF;have w2:=s42 a0.Complex gx1;cases x1 with
 |true=>
  rw[if_pos rfl]at hF;by_cases c3:(a0.Levels.length:Int)=(a0.Complex.Dims.length:Int)
  ·rw[if_pos c3]at hF
   obtain⟨t16,gt16,hF⟩:=bS hF;rcases t16 with _|r21
   ·dsimp only at hF
    simp only[simprocAttr,R0,b41, *];refine W.mono (l41_1 a0 gt16 (ei _ (ai rfl ?_))) ?_
    ·simp only[simprocAttr,R0, *]
    rintro _ e _ ⟨rfl,k5,rfl,h_6⟩;obtain⟨y17,gy17,hF⟩:=bS hF;have w18:=e85 (g:=84) (fs:=[]) (cs:=[V.ptr 2 k5 0,V.iptr [V.int .i64 a0.Complex.Prime,V.isl (a0.Complex.Dims.map enc),V.isl (a0.Complex.Maps.map enc),V.isl (a0.Levels.map enc)]]) (S:=(fun(s:Bool) E=>∃G,E=(0,none)::(1,some [V.int .i64 a0.Complex.Prime,V.isl (a0.Complex.Dims.map enc),V.isl (a0.Complex.Maps.map enc)])::(k5,some [V.bool s])::G)) (f:=(fun n r p v s=> F84 n r p v s a0)) ⟨fun n r p v s s' hs E c hS=>(by obtain⟨G,rfl⟩:=hS; exact⟨_,_,q84 (0,none) (1,some [V.int .i64 a0.Complex.Prime,V.isl (a0.Complex.Dims.map enc),V.isl (a0.Complex.Maps.map enc)]) k5 _ _ n r p v s a0 hs,G,rfl⟩),fun s E x hS=>(by obtain⟨G,rfl⟩:=hS; exact⟨G++[x],rfl⟩)⟩ a0.Complex gy17 _ (k5+1) ⟨[],rfl⟩;obtain⟨⟨w18E,k20⟩,w18,G19,w18h⟩:=w18;dsimp only at w18h;subst w18h;cases hF;simp only[simprocAttr,R0,zk, *];exact qf (by simp only[simprocAttr,R0,qg,p41,Rs.ev,qc,zk, *])
   ·dsimp only at hF
    cases hF;simp only[simprocAttr,R0,b41, *];refine W.mono (l41_1 a0 gt16 (ei _ (ai rfl ?_))) ?_
    ·simp only[simprocAttr,R0, *]
    rintro _ e h ⟨rfl,hq⟩;simp only[simprocAttr,RR,RB];exact hq
  ·rw[if_neg c3]at hF
   cases hF;simp only[simprocAttr,R0,b41, *];exact qf (by simp only[simprocAttr,R0,qg,p41,Rs.ev,qc, *])
 |false=>
  rw[if_neg wE]at hF;cases hF;simp only[simprocAttr,R0,b41, *];exact qf (by simp only[simprocAttr,R0,qg,p41,Rs.ev,qc, *])
def F166(a0:qd)(a1:Int)(a2:Int)(a3:Int):Option Int:=
 (F41 a0).bind fun x1=>
 if x1=true then
  (F56 a1 0 8).bind fun x3=>
  if x3=true then
   (F86 a0.Complex).bind fun x5=>
   (F56 a2 0 x5).bind fun x7=>
   if x7=true then
    (F56 a3 0 5).bind fun x9=>
    if x9=true then
     some 0
    else
     some 2
   else
    some 2
  else
   some 2
 else
  some 1
theorem s166(a0:qd)(a1:Int)(a2:Int)(a3:Int){r:Int}(hF:F166 a0 a1 a2 a3=some r):ans A 166 [(eF a0),V.int .i64 a1,V.int .i64 a2,V.int .i64 a3]=some (enc r):=by
 refine qw (f:=p166) rfl rfl rfl fun e hl he=>?_;have h0_0:e.at 0=(eF a0):=he 0 _ rfl;have h1_0:e.at 1=V.int .i64 a1:=he 1 _ rfl;have h2_0:e.at 2=V.int .i64 a2:=he 2 _ rfl;have h3_0:e.at 3=V.int .i64 a3:=he 3 _ rfl;have hl_0:e.length=30:=hl;clear he hl;have h_0:=ai hl_0 (ai h0_0 (ai h1_0 (ai h2_0 h3_0)));show W A b166 e ⟨[],0⟩ _;unfold F166 at hF;obtain⟨x1,gx1,hF⟩:=bS hF;have w2:=s41 a0 gx1;cases x1 with
 |true=>
  rw[if_pos rfl]at hF;obtain⟨x3,gx3,hF⟩:=bS hF;have w4:=s56 a1 0 8 gx3;cases x3 with
  |true=>
   rw[if_pos rfl]at hF;obtain⟨x5,gx5,hF⟩:=bS hF;have w6:=s86 a0.Complex gx5;obtain⟨x7,gx7,hF⟩:=bS hF;have w8:=s56 a2 0 x5 gx7;cases x7 with
   |true=>
    rw[if_pos rfl]at hF;obtain⟨x9,gx9,hF⟩:=bS hF;have w10:=s56 a3 0 5 gx9;cases x9 with
    |true=>
     rw[if_pos rfl]at hF;cases hF;simp only[simprocAttr,R0,b166, *];exact qf (by simp only[simprocAttr,R0,qg,p166,Rs.ev,qc, *])
    |false=>
     rw[if_neg wE]at hF;cases hF;simp only[simprocAttr,R0,b166, *];exact qf (by simp only[simprocAttr,R0,qg,p166,Rs.ev,qc, *])
   |false=>
    rw[if_neg wE]at hF;cases hF;simp only[simprocAttr,R0,b166, *];exact qf (by simp only[simprocAttr,R0,qg,p166,Rs.ev,qc, *])
  |false=>
   rw[if_neg wE]at hF;cases hF;simp only[simprocAttr,R0,b166, *];exact qf (by simp only[simprocAttr,R0,qg,p166,Rs.ev,qc, *])
 |false=>
  rw[if_neg wE]at hF;cases hF;simp only[simprocAttr,R0,b166, *];exact qf (by simp only[simprocAttr,R0,qg,p166,Rs.ev,qc, *])
def F102(a0:qh)(a1:Int):Option Int:=
 (F86 a0).bind fun x1=>
 (F56 a1 0 x1).bind fun x3=>
 if x3=true then
  (getI a0.Dims a1).bind fun x5=>
  some x5
 else
  some 0
theorem s102(a0:qh)(a1:Int){r:Int}(hF:F102 a0 a1=some r):ans A 102 [(eC a0),V.int .i64 a1]=some (enc r):=by
 refine qw (f:=p102) rfl rfl rfl fun e hl he=>?_;have h0_0:e.at 0=(eC a0):=he 0 _ rfl;have h1_0:e.at 1=V.int .i64 a1:=he 1 _ rfl;have hl_0:e.length=15:=hl;clear he hl;have h_0:=ai hl_0 (ai h0_0 h1_0);show W A b102 e ⟨[],0⟩ _;unfold F102 at hF;obtain⟨x1,gx1,hF⟩:=bS hF;have w2:=s86 a0 gx1;obtain⟨x3,gx3,hF⟩:=bS hF;have w4:=s56 a1 0 x1 gx3;cases x3 with
 |true=>
  rw[if_pos rfl]at hF;obtain⟨x5,gx5,hF⟩:=bS hF;obtain⟨w6a,w6b⟩:=qk gx5;cases hF;simp only[simprocAttr,R0,b102, *];exact qf (by simp only[simprocAttr,R0,qg,p102,Rs.ev,qc, *])
 |false=>
  rw[if_neg wE]at hF;cases hF;simp only[simprocAttr,R0,b102, *];exact qf (by simp only[simprocAttr,R0,qg,p102,Rs.ev,qc, *])
def F96(a0:List Int):Option (List Int):=app 8 [] a0
theorem t96(a0:List Int){r:List Int}(hF:F96 a0=some r):tans A 96 [1] [V.isl (a0.map enc)]=some (enc r):=clone_tans rfl hF
def F137(a0:List Int)(d0:Int):Option Bool:=
 (getI a0 d0).bind fun x1=>
 some (!(decide (x1=0)))
theorem s137(a0:List Int)(d0:Int){r:Bool}(hF:F137 a0 d0=some r):ans A 137 [V.isl (a0.map enc),V.iptr [V.int .i64 d0]]=some (enc r):=by
 refine qw (f:=p137) rfl rfl rfl fun e hl he=>?_;have h0_0:e.at 0=V.isl (a0.map enc):=he 0 _ rfl;have h1_0:e.at 1=V.iptr [V.int .i64 d0]:=he 1 _ rfl;have hl_0:e.length=9:=hl;clear he hl;show W A b137 e ⟨[],0⟩ _;unfold F137 at hF;obtain⟨x1,gx1,hF⟩:=bS hF;obtain⟨w2a,w2b⟩:=qk gx1;cases hF;simp only[simprocAttr,R0,b137, *];exact qf (by simp only[simprocAttr,R0,qg,p137,Rs.ev,qc, *])
def F138_1_S(a0:Int)(a1:Int)(v5_1:Int):Option ((Int)⊕(Int)):=
 (chk (v5_1*a1)).bind fun x4=>
(remI x4 a0).bind fun x5=>
if x5=1 then
 some (.inr v5_1)
else
 (chk (v5_1+1)).bind fun x8=>
 some (.inl x8)
def F138(a0:Int)(a1:Int):Option Int:=
 (qV (F138_1_S a0 a1) 1).bind fun zv5_1=>
 some zv5_1
def I138_1(a0:Int)(a1:Int)(v5_1:Int)(e:Env)(h:Heap):Prop:=
 ∃k2:Nat,h=⟨[],k2⟩∧e.length=15∧e.at 0=V.int .i64 a0∧e.at 1=V.int .i64 a1∧e.at 5=V.int .i64 v5_1
def P138_1(a0:Int)(a1:Int)(zv5_1:Int)(x:Ex)(e:Env)(h:Heap):Prop:=
 x= .normal∧∃k2:Nat,h=⟨[],k2⟩∧e.length=15∧e.at 5=V.int .i64 zv5_1
theorem l138_1(a0:Int)(a1:Int){s:Int}{t:Int}(hF:qV (F138_1_S a0 a1) s=some t){e:Env}{h:Heap}(hI:I138_1 a0 a1 s e h):W A c138_1 e h (P138_1 a0 a1 t):=by
 show W A (.block 0 (.loop false b138_1)) e h _;rw[qr];refine jh hF 0 (by obtain⟨_,rfl,_⟩:=hI; rfl) (I138_1 a0 a1) hI ?_
 ·rintro v5_1 e h ⟨k2,rfl,h_1⟩ o ho
  unfold F138_1_S at ho;obtain⟨x4,gx4,ho⟩:=bS ho;have wx4:=qz gx4;obtain⟨x5,gx5,ho⟩:=bS ho;obtain⟨w6a,w6b⟩:=rem_w gx5;by_cases c7:x5=1
  ·rw[if_pos c7]at ho
   cases ho;simp only[simprocAttr,R0,b138_1, *];intro ht; subst ht;simp only[simprocAttr,RR,RB];refine ai rfl (ei _ (ai rfl ?_));simp only[simprocAttr,R0, *]
  ·rw[if_neg c7]at ho
   obtain⟨x8,gx8,ho⟩:=bS ho;have wx8:=qz gx8;cases ho;simp only[simprocAttr,R0,b138_1, *];refine ai rfl (ei _ (ai rfl ?_));simp only[simprocAttr,R0, *]
theorem s138(a0:Int)(a1:Int){r:Int}(hF:F138 a0 a1=some r):ans A 138 [V.int .i64 a0,V.int .i64 a1]=some (enc r):=by
 refine qw (f:=p138) rfl rfl rfl fun e hl he=>?_;have h0_0:e.at 0=V.int .i64 a0:=he 0 _ rfl;have h1_0:e.at 1=V.int .i64 a1:=he 1 _ rfl;have hl_0:e.length=15:=hl;clear he hl;show W A b138 e ⟨[],0⟩ _;unfold F138 at hF;obtain⟨zv5_1,gt9,hF⟩:=bS hF;simp only[simprocAttr,R0,b138, *];refine W.mono (l138_1 a0 a1 gt9 (ei _ (ai rfl ?_))) ?_
 ·simp only[simprocAttr,R0, *]
 rintro _ e _ ⟨rfl,k2,rfl,h_3⟩;cases hF;simp only[simprocAttr,R0, *];exact qf (by simp only[simprocAttr,R0,qg,p138,Rs.ev,qc, *])
def F139_1_B(other:List Int)(p by_:Int)(i:Int)(row:List Int):Option (List Int⊕List Int):=
 (getI other i).bind fun y=>(getI row i).bind fun r=>(chk (p - by_)).bind fun q=>(chk (q*y)).bind fun m=>(chk (r+m)).bind fun s=>(remI s p).bind fun z=>(setI row i z).bind fun row'=> some (.inl row')
def F139_1_D(i:Int)(row:List Int):Option (List Int):=some row
def F139(row other:List Int)(p by_:Int):Option (List Int):=forR 0 (other.length:Int) (F139_1_B other p by_) F139_1_D row
theorem d139{row other row':List Int}{p by_:Int}(hF:F139 row other p by_=some row')(E:List (Nat×Option (List V)))(c:Nat){key uid key2 uid2:Nat}(g1:E[key]? =some (uid,some (row.map enc)))(g2:E[key2]? =some (uid2,some (other.map enc)))(hne:key2≠key):
  res A 139 [V.sl key uid 0 row.length 1,V.sl key2 uid2 0 other.length 1,V.int .i64 p,V.int .i64 by_] ⟨E,c⟩=some (V.undef,⟨E.set key (uid,some (List.map enc row')),c⟩)∧row'.length=row.length:=by
 have hk:key < E.length:=(List.getElem?_eq_some_iff.1 g1).1
 suffices∃h',res A 139 [V.sl key uid 0 row.length 1,V.sl key2 uid2 0 other.length 1,V.int .i64 p,V.int .i64 by_] ⟨E,c⟩=some (V.undef,h')∧h'=⟨E.set key (uid,some (List.map enc row')),c⟩∧row'.length=row.length by
  obtain⟨h',q1,rfl,q2⟩:=this;exact⟨q1,q2⟩
 refine res_ex (f:=p139) rfl rfl rfl fun e hl he=>?_;have h0_0:e.at 0=V.sl key uid 0 row.length 1:=he 0 _ rfl;have h1_0:e.at 1=V.sl key2 uid2 0 other.length 1:=he 1 _ rfl;have h2_0:e.at 2=V.int .i64 p:=he 2 _ rfl;have h3_0:e.at 3=V.int .i64 by_:=he 3 _ rfl;have hl_0:e.length=33:=hl;clear he hl;show W A b139 e ⟨E,c⟩ _;unfold F139 at hF;simp only[simprocAttr,R1,b139,hl_0,h0_0,h1_0,h2_0,h3_0];show W A (.block 0 (.loop true b139_1)) _ _ _;rw[qr];refine qD hF _ rfl (fun i s e h=> s.length=row.length∧h=⟨E.set key (uid,some (s.map enc)),c⟩∧e.length=33∧e.at 0=V.sl key uid 0 row.length 1∧e.at 2=V.int .i64 p∧e.at 3=V.int .i64 by_∧e.at 10=V.sl key2 uid2 0 other.length 1∧e.at 11=V.int .i64 (other.length:Int)∧e.at 12=V.int .i64 i) ?_ ?_ ?_
 ·refine⟨rfl,?_,?_⟩
  ·rw[set_self g1]
  ·simp only[simprocAttr,R1,hl_0,h0_0,h1_0,h2_0,h3_0]
 ·clear hl_0 h0_0 h1_0 h2_0 h3_0
  rintro i s e h ⟨hs,rfl,h_1⟩ hlt hw s' ho;unfold F139_1_B at ho;obtain⟨y,gy,ho⟩:=bS ho;obtain⟨ya,yb⟩:=qk gy;have yc:=za gy;obtain⟨r,gr,ho⟩:=bS ho;obtain⟨ra,rb⟩:=qk gr;have rc:=za gr;obtain⟨q,gq,ho⟩:=bS ho;have wq:=qz gq;obtain⟨m,gm,ho⟩:=bS ho;have wm:=qz gm;obtain⟨t,gt,ho⟩:=bS ho;have wt:=qz gt;obtain⟨z,gz,ho⟩:=bS ho;obtain⟨wz0,wz⟩:=rem_w gz;obtain⟨row2,gs,ho⟩:=bS ho;obtain⟨s1,s2,s3,s4,s5⟩:=jV gs;cases ho;have oy:zd none (List.drop (Int.toNat i) (other.map enc))=some (V.int .i64 y):=qC (by rw[List.getElem?_map,yb]; rfl);have orr:zd none (List.drop (Int.toNat i) (s.map enc))=some (V.int .i64 r):=qC (by rw[List.getElem?_map,rb]; rfl);have n1:∀x,(E.set key x)[key]? =some x:=fun x=> qp hk;have n2:∀x,(E.set key x)[key2]? =some (uid2,some (other.map enc)):=fun x=>(qi hne).trans g2;have s5':List.take (Int.toNat i) (s.map enc)++[V.int .i64 z]++List.drop (Int.toNat i+1) (s.map enc)=List.map enc row2:=s5;have rc':i < (row.length:Int):=by omega
  simp only[simprocAttr,R1,b139_1,h_1,eq_true hlt,hw,ya,eq_true yc,oy,ra,eq_true rc',orr,n1,n2,wq,wm,wt,wz0,wz,s3,s5',List.set_set];refine ai rfl ⟨by omega,rfl,?_⟩;simp only[simprocAttr,R1,h_1,hw]
 ·clear hl_0 h0_0 h1_0 h2_0 h3_0
  rintro i s e h ⟨hs,rfl,h_1⟩ hge t1 ho;unfold F139_1_D at ho;cases ho;simp only[simprocAttr,R1,b139_1,h_1,eq_false hge];intro ht; subst ht;refine ai (fun _=> trivial) ⟨?_,rfl,hs⟩;simp only[simprocAttr,R1,qg,p139,mapO];rfl
theorem i139{row other row':List Int}{p by_:Int}(hF:F139 row other p by_=some row')(E:List (Nat×Option (List V)))(c:Nat){key uid:Nat}(g1:E[key]? =some (uid,some (row.map enc))):
  res A 139 [V.sl key uid 0 row.length 1,V.isl (other.map enc),V.int .i64 p,V.int .i64 by_] ⟨E,c⟩=some (V.undef,⟨E.set key (uid,some (List.map enc row')),c⟩)∧row'.length=row.length:=by
 have hk:key < E.length:=(List.getElem?_eq_some_iff.1 g1).1
 suffices∃h',res A 139 [V.sl key uid 0 row.length 1,V.isl (other.map enc),V.int .i64 p,V.int .i64 by_] ⟨E,c⟩=some (V.undef,h')∧h'=⟨E.set key (uid,some (List.map enc row')),c⟩∧row'.length=row.length by
  obtain⟨h',q1,rfl,q2⟩:=this;exact⟨q1,q2⟩
 refine res_ex (f:=p139) rfl rfl rfl fun e hl he=>?_;have h0_0:e.at 0=V.sl key uid 0 row.length 1:=he 0 _ rfl;have h1_0:e.at 1=V.isl (other.map enc):=he 1 _ rfl;have h2_0:e.at 2=V.int .i64 p:=he 2 _ rfl;have h3_0:e.at 3=V.int .i64 by_:=he 3 _ rfl;have hl_0:e.length=33:=hl;clear he hl;show W A b139 e ⟨E,c⟩ _;unfold F139 at hF;simp only[simprocAttr,R1,b139,hl_0,h0_0,h1_0,h2_0,h3_0];show W A (.block 0 (.loop true b139_1)) _ _ _;rw[qr];refine qD hF _ rfl (fun i s e h=> s.length=row.length∧h=⟨E.set key (uid,some (s.map enc)),c⟩∧e.length=33∧e.at 0=V.sl key uid 0 row.length 1∧e.at 2=V.int .i64 p∧e.at 3=V.int .i64 by_∧e.at 10=V.isl (other.map enc)∧e.at 11=V.int .i64 (other.length:Int)∧e.at 12=V.int .i64 i) ?_ ?_ ?_
 ·refine⟨rfl,?_,?_⟩
  ·rw[set_self g1]
  ·simp only[simprocAttr,R1,hl_0,h0_0,h1_0,h2_0,h3_0]
 ·clear hl_0 h0_0 h1_0 h2_0 h3_0
  rintro i s e h ⟨hs,rfl,h_1⟩ hlt hw s' ho;unfold F139_1_B at ho;obtain⟨y,gy,ho⟩:=bS ho;obtain⟨ya,yb⟩:=qk gy;have yc:=za gy;obtain⟨r,gr,ho⟩:=bS ho;obtain⟨ra,rb⟩:=qk gr;have rc:=za gr;obtain⟨q,gq,ho⟩:=bS ho;have wq:=qz gq;obtain⟨m,gm,ho⟩:=bS ho;have wm:=qz gm;obtain⟨t,gt,ho⟩:=bS ho;have wt:=qz gt;obtain⟨z,gz,ho⟩:=bS ho;obtain⟨wz0,wz⟩:=rem_w gz;obtain⟨row2,gs,ho⟩:=bS ho;obtain⟨s1,s2,s3,s4,s5⟩:=jV gs;cases ho;have orr:zd none (List.drop (Int.toNat i) (s.map enc))=some (V.int .i64 r):=qC (by rw[List.getElem?_map,rb]; rfl);have n1:∀x,(E.set key x)[key]? =some x:=fun x=> qp hk;have s5':List.take (Int.toNat i) (s.map enc)++[V.int .i64 z]++List.drop (Int.toNat i+1) (s.map enc)=List.map enc row2:=s5;have rc':i < (row.length:Int):=by omega
  simp only[simprocAttr,R1,b139_1,h_1,eq_true hlt,hw,ya,yb,ra,eq_true rc',orr,n1,wq,wm,wt,wz0,wz,s3,s5',List.set_set];refine ai rfl ⟨by omega,rfl,?_⟩;simp only[simprocAttr,R1,h_1,hw]
 ·clear hl_0 h0_0 h1_0 h2_0 h3_0
  rintro i s e h ⟨hs,rfl,h_1⟩ hge t1 ho;unfold F139_1_D at ho;cases ho;simp only[simprocAttr,R1,b139_1,h_1,eq_false hge];intro ht; subst ht;refine ai (fun _=> trivial) ⟨?_,rfl,hs⟩;simp only[simprocAttr,R1,qg,p139,mapO];rfl
def F133_1_B(rows:List (List Int))(i:Int)(s:List (List Int)):Option (List (List Int)⊕List (List Int)):=(getI rows i).bind fun r=>(F96 r).bind fun d=>(app 24 s [d]).bind fun l=> some (.inl l)
def F133_1_D(i:Int)(s:List (List Int)):Option (List (List Int)):=some s
def F133_3_B(p b:Int)(k:Int)(row:List Int):Option (List Int⊕List Int):=(getI row k).bind fun x=>(chk (x*b)).bind fun m=>(remI m p).bind fun z=>(setI row k z).bind fun r=> some (.inl r)
def F133_3_D(k:Int)(row:List Int):Option (List Int):=some row
def F133_4_B(p c done:Int)(i:Int)(l:List (List Int)):Option (List (List Int)⊕List (List Int)):=
 if i=done then some (.inl l)else(getI l i).bind fun r=>(getI l done).bind fun o=>(getI r c).bind fun x=>(F139 r o p x).bind fun r'=>(setI l i r').bind fun l'=> some (.inl l')
def F133_4_D(i:Int)(l:List (List Int)):Option (List (List Int)):=some l
def F133_2_B(p:Int)(c:Int)(s:List (List Int)×Int):Option ((List (List Int)×Int)⊕(List (List Int)×Int)):=
 if 0≤s.2∧s.2≤s.1.length then
  (F128 (s.1.drop s.2.toNat) (fun r=> F137 r c)).bind fun at_=>
  if at_ < 0 then some (.inl s)else
  (chk (s.2+at_)).bind fun j=>(getI s.1 j).bind fun a=>(getI s.1 s.2).bind fun b=>(setI s.1 s.2 a).bind fun l1=>(setI l1 j b).bind fun l2=>
  (getI l2 s.2).bind fun row=>(getI row c).bind fun x=>(F138 p x).bind fun by_=>
  (forR 0 (row.length:Int) (F133_3_B p by_) F133_3_D row).bind fun row'=>(setI l2 s.2 row').bind fun l3=>
  (forR 0 (l3.length:Int) (F133_4_B p c s.2) F133_4_D l3).bind fun l4=>(chk (s.2+1)).bind fun d=> if d=(l4.length:Int)then some (.inr (l4,d))else some (.inl (l4,d))
 else none
def F133_2_D(c:Int)(s:List (List Int)×Int):Option (List (List Int)×Int):=some s
def F133(p:Int)(rows:List (List Int)):Option (List (List Int)):=
 (forR 0 (rows.length:Int) (F133_1_B rows) F133_1_D []).bind fun l=> if(l.length:Int)=0 then some l else(getI l 0).bind fun r0=>
 (forR 0 (r0.length:Int) (F133_2_B p) F133_2_D (l,0)).bind fun t=> if 0≤t.2∧t.2≤t.1.length then some (t.1.take t.2.toNat)else none
set_option maxHeartbeats 8000000 in
theorem d133(p:Int)(rows:List (List Int)){r:List (List Int)}(hF:F133 p rows=some r):∃v h',res A 133 [V.int .i64 p,V.isl (rows.map enc)] Heap.empty=some (v,h')∧
  ∃u vs l,v=V.sl 0 u 0 r.length 1∧h'.ents[0]? =some (u,some vs)∧zS h'.ents vs l (fun k=> 1≤k)∧r=l.take r.length:=by
 refine jW (f:=p133) rfl rfl rfl fun e hl he=>?_;have h0_0:e.at 0=V.int .i64 p:=he 0 _ rfl;have h1_0:e.at 1=V.isl (rows.map enc):=he 1 _ rfl;have hl_0:e.length=134:=hl;clear he hl;show W A b133 e ⟨[],0⟩ _;unfold F133 at hF;obtain⟨l0,gl0,hF⟩:=bS hF;simp only[simprocAttr, -Int.reduceNatCast',R1,b133,hl_0,h0_0,h1_0];show W A (.block 0 (.loop true b133_1)) _ _ _;rw[qr];refine qD gl0 _ rfl (fun i s e h=>∃u vs,h.ents[0]? =some (u,some vs)∧zS h.ents vs s (fun k=> 1≤k)∧e.length=134∧e.at 0=V.int .i64 p∧e.at 5=V.sl 0 u 0 s.length 1∧e.at 15=V.isl (rows.map enc)∧e.at 16=V.int .i64 (rows.length:Int)∧e.at 17=V.int .i64 i) ?_ ?_ ?_
 ·refine⟨0,[],rfl,.nil,?_⟩
  simp only[simprocAttr, -Int.reduceNatCast',R1,hl_0,h0_0,h1_0]
 ·clear hl_0 h0_0 h1_0
  rintro i s e ⟨E,c⟩ ⟨u,vs,g1,g2,hl_1,h0_1,h5_1,h15_1,h16_1,h17_1⟩ hlt hw s' ho;unfold F133_1_B at ho;simp only at g1 g2;obtain⟨x,gx,ho⟩:=bS ho;obtain⟨xa,xb⟩:=qk gx;obtain⟨d,gd,ho⟩:=bS ho;have wd:=t96 x gd;obtain⟨l,gl,ho⟩:=bS ho;obtain⟨q1,q2,rfl⟩:=app_w gl;have hE:=wA ho; subst hE;have hE0:0 < E.length:=(List.getElem?_eq_some_iff.1 g1).1;have w9:∀x y c',qS 1 24 (.sl 0 u 0 s.length 1) 1 [V.sl E.length c 0 d.length 1] ⟨E++[x]++[y],c'⟩=_:=fun x y c'=> zq (E:=E++[x]++[y]) (vs:=vs) (by rw[wR,List.getElem?_append_left hE0]; exact g1) g2.len (by simpa using q1) (by simpa using q2);simp only[simprocAttr, -Int.reduceNatCast',R1,b133_1,hl_1,h0_1,h5_1,h15_1,h16_1,h17_1,eq_true hlt,hw,xa,xb,wd,qE,zb,le1,qF,ge2a,ge2b,w9];refine ai rfl ⟨_,_,qp (by simp),?_,?_⟩
  ·refine(zS.snoc (k:=E.length) (u:=c) (r:=d) (E:=((E++[(c,some (d.map enc))]++[(c+1,some [V.sl E.length c 0 d.length 1])]).set 0 (c+1+1,some (vs++[V.sl E.length c 0 d.length 1])))) (g2.frame fun k hk hb=>?_) ?_ (by omega) fun i k' u' n hv e=>?_)
   ·rw[qi (by omega),wR,List.getElem?_append_left hk]
   ·rw[qi (by omega)]; exact ge2a ..
   ·subst e
    obtain⟨r,hr⟩:∃r,s[i]? =some r:=⟨s[i]'(by have:=(List.getElem?_eq_some_iff.1 hv).1; have:=g2.len; omega),by simp⟩;obtain⟨k2,u2,e2,g,_⟩:=g2.row i _ r hv hr;cases e2;have:=(List.getElem?_eq_some_iff.1 g).1;omega
  ·simp only[simprocAttr, -Int.reduceNatCast',R1,hl_1,h0_1,h5_1,h15_1,h16_1,h17_1,hw,wP]
 ·clear hl_0 h0_0 h1_0
  rintro i s e ⟨E,c⟩ ⟨u,vs,g1,g2,hl_1,h0_1,h5_1,h15_1,h16_1,h17_1⟩ hge t1 ho;unfold F133_1_D at ho;have hE:=wA ho; subst hE;simp only at g1 g2;simp only[simprocAttr, -Int.reduceNatCast',R1,b133_1,hl_1,h0_1,h5_1,h15_1,h16_1,h17_1,eq_false hge];intro ht; subst ht;by_cases hz:(s.length:Int)=0
  ·rw[if_pos hz]at hF ⊢
   have hE:=wA hF; subst hE;refine ai (fun _=> trivial) ⟨_,?_,u,vs,s,rfl,g1,g2,by rw[vH]⟩;simp only[simprocAttr, -Int.reduceNatCast',R1,qg,p133,Rs.ev,hl_1,h5_1]
  ·rw[if_neg hz]at hF ⊢
   obtain⟨r0,gr0,hF⟩:=bS hF;obtain⟨ra,rb⟩:=qk gr0;have rc:=za gr0;obtain⟨t,gt,hF⟩:=bS hF;obtain⟨k0,u0,v1,v2,v3⟩:=g2.get rb;have o1:=qC v1;simp only[Int.toNat_zero,vI]at o1;simp only[simprocAttr, -Int.reduceNatCast',R1,hl_1,h0_1,h5_1,h15_1,h16_1,h17_1,eq_true rc,g1,o1,Int.toNat_zero,yC];show W A (.block 2 (.loop true b133_2)) _ _ _;rw[qr];refine qD gt _ rfl (fun i s e h=>∃u vs,h.ents[0]? =some (u,some vs)∧zS h.ents vs s.1 (fun k=> 1≤k)∧e.length=134∧e.at 0=V.int .i64 p∧e.at 5=V.sl 0 u 0 s.1.length 1∧e.at 8=V.int .i64 s.2∧e.at 34=V.int .i64 (r0.length:Int)∧e.at 35=V.int .i64 i) ?_ ?_ ?_
   ·refine⟨u,vs,g1,g2,?_⟩
    simp only[simprocAttr, -Int.reduceNatCast',R1,hl_1,h0_1,h5_1,h15_1,h16_1,h17_1]
   ·clear hl_1 h0_1 h5_1 h15_1 h16_1 h17_1 g1 g2 k0 u0 v1 v2 v3 o1
    rintro cc ⟨l,done⟩ e ⟨E,c⟩ ⟨u,vs,g1,g2,hl_1,h0_1,h5_1,h8_1,h34_1,h35_1⟩ hlt hw s' ho;unfold F133_2_B at ho;simp only at g1 g2 h5_1 h8_1 ho;have hE0:0 < E.length:=(List.getElem?_eq_some_iff.1 g1).1;split at ho
    case isFalse=> cases ho
    rename_i hdn;obtain⟨hd0,hd1⟩:=hdn;have hdn:done.toNat≤l.length:=by omega
    obtain⟨at_,gat,ho⟩:=bS ho;have wat:ans A 128 [V.isl (List.map enc (l.drop done.toNat)),V.fn 137 [] [V.iptr [V.int .i64 cc]]]=some (V.int .i64 at_):=s128 (l.drop done.toNat) (fun r=> F137 r cc)
     (Clo1.of (by intro h f; simp only[RZ,mapO]) (by intro h f; simp only[RZ,mapO]) (by intro f; simp only[RZ,RB]) (by intro f; simp only[RZ,RB]) (fun x _ hr=> s137 x cc hr)) gat
    have g1':∀x,(E++[x])[0]? =some (u,some vs):=fun x=>(List.getElem?_append_left hE0).trans g1;have g2':∀x,zS (E++[x]) vs l (fun k=> 1≤k∧k < E.length):=fun x=>(g2.mono (fun k hk h=> ai h hk)).frame fun k hk _=> List.getElem?_append_left hk;have wfz:∀x c,frz ⟨E++[x],c⟩ 16 (V.sl 0 u done.toNat (l.length - done.toNat) 1)=some (V.isl (List.map enc (l.drop done.toNat))):=fun x c=> by
     have:=(g2' x).fz c (g1' x) (off:=done.toNat) (n:=l.length - done.toNat) (by omega)
     rwa[wQ (by simp)]at this
    have wsl:=slice_lo (key:=0) (uid:=u) (n:=l.length) hd0 (by omega);by_cases hat:at_ < 0
    ·rw[if_pos hat]at ho
     have hE:=wA ho; subst hE;simp only[simprocAttr, -Int.reduceNatCast',R1,b133_2,hl_1,h0_1,h5_1,h8_1,h34_1,h35_1,eq_true hlt,hw,vO,yU,wsl,wfz,wat,qF,set_last,eq_true hat];refine ai rfl ⟨u,vs,g1' _,(g2' _).mono fun k _ h=> h.1,?_⟩;simp only[simprocAttr, -Int.reduceNatCast',R1,hl_1,h0_1,h5_1,h8_1,h34_1,h35_1,hw]
    ·rw[if_neg hat]at ho
     obtain⟨j,gj,ho⟩:=bS ho;have wj:=qz gj;obtain⟨a,ga,ho⟩:=bS ho;obtain⟨aa,ab⟩:=qk ga;have ac:=za ga;obtain⟨b,gb,ho⟩:=bS ho;obtain⟨ba,bb⟩:=qk gb;have bc:=za gb;obtain⟨l1,gl1,ho⟩:=bS ho;have e1:=setI_eq gl1;obtain⟨l2,gl2,ho⟩:=bS ho;have e2:=setI_eq gl2;subst e1; subst e2;obtain⟨row,grow,ho⟩:=bS ho;obtain⟨rowa,rowb⟩:=qk grow;obtain⟨x,gx,ho⟩:=bS ho;obtain⟨xa,xb⟩:=qk gx;have xc:=za gx;obtain⟨by_,gby,ho⟩:=bS ho;have wby:ans A 138 [V.int .i64 p,V.int .i64 x]=some (V.int .i64 by_):=s138 p x gby;obtain⟨row',gr',ho⟩:=bS ho;obtain⟨l3,gl3,ho⟩:=bS ho;have e3:=setI_eq gl3;subst e3;obtain⟨l4,gl4,ho⟩:=bS ho;obtain⟨d1,gd1,ho⟩:=bS ho;have wd1:=qz gd1;obtain⟨ka,ua,va1,va2,va3⟩:=(g2' (c,some [V.int .i64 cc])).get ab;obtain⟨kb,ub,vb1,vb2,vb3⟩:=(g2' (c,some [V.int .i64 cc])).get bb;have hml:=g2.len;have hsw:=(g2' (c,some [V.int .i64 cc])).swap vb1 va1 bb ab;generalize hvs2:(vs.set done.toNat (V.sl ka ua 0 a.length 1)).set j.toNat (V.sl kb ub 0 b.length 1)=vs2 at hsw;have hl2:((l.set done.toNat a).set j.toNat b).length=l.length:=by simp
     generalize hll2:(l.set done.toNat a).set j.toNat b=l2 at*;have oa:=qC va1;have ob:=qC vb1;have td1:List.take done.toNat vs++[V.sl ka ua 0 a.length 1]++List.drop (done.toNat+1) vs=vs.set done.toNat (V.sl ka ua 0 a.length 1):=tsd (by omega);have td2:List.take j.toNat (vs.set done.toNat (V.sl ka ua 0 a.length 1))++[V.sl kb ub 0 b.length 1]++List.drop (j.toNat+1) (vs.set done.toNat (V.sl ka ua 0 a.length 1))=vs2:=(tsd (by simp; omega)).trans hvs2;have hd1':done.toNat+1≤vs.length:=by omega
     have hj1':j.toNat+1≤vs.length:=by omega
     have n1:∀y z,((E++[y]).set 0 z)[0]? =some z:=fun y z=> qp (by simp);have n2:∀y z,((E++[y]).set 0 z)[E.length]? =some y:=fun y z=>(qi (by omega)).trans (qF _ _);have hsw2:∀z,zS ((E++[(c,some [V.int .i64 cc])]).set 0 z) vs2 l2 (fun k=> 1≤k∧k < E.length):=fun z=> hsw.frame fun k hk h=> qi (by omega);obtain⟨kr,ur,vr1,vr2,vr3⟩:=(hsw2 (u,some vs2)).get rowb;have orr:=qC vr1;have ox:zd none (List.drop cc.toNat (row.map enc))=some (V.int .i64 x):=qC (by rw[List.getElem?_map,xb]; rfl);have hvl:vs2.length=l.length:=by rw[hsw.len,hl2]
     simp only[simprocAttr, -Int.reduceNatCast',R1,b133_2,hl_1,h0_1,h5_1,h8_1,h34_1,h35_1,eq_true hlt,hw,vO,yU,wsl,wfz,wat,qF,set_last,eq_false hat,wj,aa,eq_true ac,ba,eq_true bc,g1',oa,ob,vW,eq_true hd1',eq_true hj1',td1,td2,List.set_set,n1,n2,orr,xa,eq_true xc,vr2,ox,wby];have hd1v:d1=done+1:=by
      unfold chk at gd1; split at gd1
      ·cases gd1; rfl
      ·cases gd1
     have kr0:1≤kr:=vr3.1;have krE:kr < E.length:=vr3.2;have m0:∀z,(((E++[(c,some [V.int .i64 cc])]).set 0 (u,some vs2)).set kr z)[0]? =some (u,some vs2):=fun z=>(qi (by omega)).trans (n1 _ _);have mk:∀z,(((E++[(c,some [V.int .i64 cc])]).set 0 (u,some vs2)).set kr z)[kr]? =some z:=fun z=> qp (by simp; omega);have mN:∀z,(((E++[(c,some [V.int .i64 cc])]).set 0 (u,some vs2)).set kr z)[E.length]? =some (c,some [V.int .i64 cc]):=fun z=>(qi (by omega)).trans (n2 _ _);have hdl:done < (l.length:Int):=by omega
     show W A (.block 4 (.loop true b133_3)) _ _ _;rw[qr];refine qD gr' _ rfl (fun k s e h=> s.length=row.length∧h=⟨((E++[(c,some [V.int .i64 cc])]).set 0 (u,some vs2)).set kr (ur,some (s.map enc)),c+1⟩∧e.length=134∧e.at 0=V.int .i64 p∧e.at 5=V.sl 0 u 0 l.length 1∧e.at 8=V.int .i64 done∧e.at 9=V.ptr E.length c 0∧e.at 11=V.int .i64 by_∧e.at 34=V.int .i64 (r0.length:Int)∧e.at 35=V.int .i64 cc∧e.at 76=V.int .i64 (row.length:Int)∧e.at 77=V.int .i64 k) ?_ ?_ ?_
     ·refine⟨rfl,by rw[set_self vr2],?_⟩
      simp only[simprocAttr, -Int.reduceNatCast',R1,hl_1,h0_1,h5_1,h8_1,h34_1,h35_1]
     ·clear hl_1 h0_1 h5_1 h8_1 h34_1 h35_1
      rintro k q e h ⟨hq,rfl,hl_1,h0_1,h5_1,h8_1,h9_1,h11_1,h34_1,h35_1,h76_1,h77_1⟩ hlt3 hw3 s3 ho3;unfold F133_3_B at ho3;obtain⟨x3,gx3,ho3⟩:=bS ho3;obtain⟨x3a,x3b⟩:=qk gx3;obtain⟨m3,gm3,ho3⟩:=bS ho3;have wm3:=qz gm3;obtain⟨z3,gz3,ho3⟩:=bS ho3;obtain⟨wz30,wz3⟩:=rem_w gz3;obtain⟨q2,gq2,ho3⟩:=bS ho3;obtain⟨s31,s32,s33,s34,s35⟩:=jV gq2;have hE:=wA ho3; subst hE;have o3:zd none (List.drop k.toNat (q.map enc))=some (V.int .i64 x3):=qC (by rw[List.getElem?_map,x3b]; rfl);have hk3:k < (row.length:Int):=hlt3;have s35':List.take k.toNat (q.map enc)++[V.int .i64 z3]++List.drop (k.toNat+1) (q.map enc)=List.map enc q2:=s35;simp only[simprocAttr, -Int.reduceNatCast',R1,b133_3,hl_1,h0_1,h5_1,h8_1,h9_1,h11_1,h34_1,h35_1,h76_1,h77_1,hw3,eq_true hlt3,hd0,eq_true hdl,m0,mk,orr,x3a,o3,wm3,wz30,wz3,s33,s35',List.set_set];refine ai rfl ⟨by omega,rfl,?_⟩;simp only[simprocAttr, -Int.reduceNatCast',R1,hl_1,h0_1,h5_1,h8_1,h9_1,h11_1,h34_1,h35_1,h76_1,h77_1,hw3]
     ·clear hl_1 h0_1 h5_1 h8_1 h34_1 h35_1
      rintro k q e h ⟨hq,rfl,hl_1,h0_1,h5_1,h8_1,h9_1,h11_1,h34_1,h35_1,h76_1,h77_1⟩ hge3 t3 ho3;unfold F133_3_D at ho3;have hE:=wA ho3; subst hE;simp only[simprocAttr, -Int.reduceNatCast',R1,b133_3,hl_1,h0_1,h5_1,h8_1,h9_1,h11_1,h34_1,h35_1,h76_1,h77_1,eq_false hge3];intro ht; subst ht;have hmw:=zS.write (hsw2 (u,some vs2)) rowb vr1 hq;have hl3:((l2.set done.toNat q).length:Int)=(l.length:Int):=by rw[vW,hl2]
      rw[hl3]at gl4;show W A (.block 6 (.loop true b133_4)) _ _ _;rw[qr];refine qD gl4 _ rfl (fun i s e h=> s.length=l.length∧h.ents[0]? =some (u,some vs2)∧zS h.ents vs2 s (fun k=> 1≤k∧k < E.length)∧h.ents[E.length]? =some (c,some [V.int .i64 cc])∧e.length=134∧e.at 0=V.int .i64 p∧e.at 5=V.sl 0 u 0 l.length 1∧e.at 8=V.int .i64 done∧e.at 9=V.ptr E.length c 0∧e.at 34=V.int .i64 (r0.length:Int)∧e.at 35=V.int .i64 cc∧e.at 99=V.int .i64 (l.length:Int)∧e.at 100=V.int .i64 i) ?_ ?_ ?_
      ·refine⟨by omega,m0 _,hmw,mN _,?_⟩
       simp only[simprocAttr, -Int.reduceNatCast',R1,hl_1,h0_1,h5_1,h8_1,h9_1,h11_1,h34_1,h35_1,h76_1,h77_1]
      ·clear hl_1 h0_1 h5_1 h8_1 h9_1 h11_1 h34_1 h35_1 h76_1 h77_1
       rintro i q4 e ⟨E4,c4⟩ ⟨hq4,f1,f2,f3,hl_1,h0_1,h5_1,h8_1,h9_1,h34_1,h35_1,h99_1,h100_1⟩ hlt4 hw4 s4 ho4;unfold F133_4_B at ho4;simp only at f1 f2 f3;by_cases hi:i=done
       ·rw[if_pos hi]at ho4
        have hE:=wA ho4; subst hE;simp only[simprocAttr, -Int.reduceNatCast',R1,b133_4,hl_1,h0_1,h5_1,h8_1,h9_1,h34_1,h35_1,h99_1,h100_1,hw4,eq_true hlt4,eq_true hi];refine ai rfl ⟨hq4,f1,f2,f3,?_⟩;simp only[simprocAttr, -Int.reduceNatCast',R1,hl_1,h0_1,h5_1,h8_1,h9_1,h34_1,h35_1,h99_1,h100_1,hw4]
       ·rw[if_neg hi]at ho4
        obtain⟨ri,gri,ho4⟩:=bS ho4;obtain⟨ria,rib⟩:=qk gri;obtain⟨oi,goi,ho4⟩:=bS ho4;obtain⟨oia,oib⟩:=qk goi;obtain⟨xi,gxi,ho4⟩:=bS ho4;obtain⟨xia,xib⟩:=qk gxi;have xic:=za gxi;obtain⟨r',gr'',ho4⟩:=bS ho4;obtain⟨l',gl',ho4⟩:=bS ho4;have e4:=setI_eq gl';subst e4;have hE:=wA ho4; subst hE;obtain⟨ki,ui,vi1,vi2,vi3⟩:=f2.get rib;obtain⟨ko,uo,vo1,vo2,vo3⟩:=f2.get oib;have hko:ko≠ki:=fun q=> hi (by have:=f2.inj _ _ _ _ _ _ _ _ vo1 vi1 q; omega);have oi1:=qC vi1;have oo1:=qC vo1;have ox1:zd none (List.drop cc.toNat (ri.map enc))=some (V.int .i64 xi):=qC (by rw[List.getElem?_map,xib]; rfl);obtain⟨wc,wcl⟩:=d139 gr'' E4 c4 vi2 vo2 hko;have hi4:i < (l.length:Int):=hlt4;simp only[simprocAttr, -Int.reduceNatCast',R1,b133_4,hl_1,h0_1,h5_1,h8_1,h9_1,h34_1,h35_1,h99_1,h100_1,hw4,eq_true hlt4,eq_false hi,hd0,eq_true hdl,ria,f1,f3,oi1,oo1,vi2,xia,eq_true xic,ox1,zk,wc];refine ai rfl ⟨by rw[vW]; exact hq4,(qi (by omega)).trans f1,f2.write rib vi1 wcl,(qi (by omega)).trans f3,?_⟩;simp only[simprocAttr, -Int.reduceNatCast',R1,hl_1,h0_1,h5_1,h8_1,h9_1,h34_1,h35_1,h99_1,h100_1,hw4]
      ·clear hl_1 h0_1 h5_1 h8_1 h9_1 h11_1 h34_1 h35_1 h76_1 h77_1
       rintro i q4 e ⟨E4,c4⟩ ⟨hq4,f1,f2,f3,hl_1,h0_1,h5_1,h8_1,h9_1,h34_1,h35_1,h99_1,h100_1⟩ hge4 t4 ho4;unfold F133_4_D at ho4;have hE:=wA ho4; subst hE;simp only at f1 f2 f3;have wd1':Go.IntKind.wrap .i64 (done+1)=d1:=wd1;by_cases hb:d1=(q4.length:Int)
       ·have hb':d1=(l.length:Int):=by omega
        have wsh:=slice_hi (key:=0) (uid:=u) (n:=l.length) (d:=d1) (by omega) (by omega);simp only[simprocAttr, -Int.reduceNatCast',R1,b133_4,hl_1,h0_1,h5_1,h8_1,h9_1,h34_1,h35_1,h99_1,h100_1,eq_false hge4,wd1',eq_true hb',vO,yU,wsh];intro ht; subst ht;rw[if_pos hb]at ho;have hE:=wA ho; subst hE;intro ht; subst ht;simp only[simprocAttr, -Int.reduceNatCast',R1,hl_1,h0_1,h5_1,h8_1,h9_1,h34_1,h35_1,h99_1,h100_1,vO,yU,wsh];simp only at hF;rw[if_pos ⟨by omega,by omega⟩]at hF;have hE:=wA hF; subst hE;have hrl:(q4.take d1.toNat).length=d1.toNat:=by simp; omega
        refine ai (fun _=> trivial) ⟨_,?_,u,vs2,q4,rfl,f1,f2.mono fun k _ h=> h.1,by rw[hrl]⟩;simp only[simprocAttr, -Int.reduceNatCast',R1,qg,p133,Rs.ev,hl_1,hrl]
       ·have hb':¬d1=(l.length:Int):=by omega
        simp only[simprocAttr, -Int.reduceNatCast',R1,b133_4,hl_1,h0_1,h5_1,h8_1,h9_1,h34_1,h35_1,h99_1,h100_1,eq_false hge4,wd1',eq_false hb',hw];intro ht; subst ht;rw[if_neg hb]at ho;have hE:=wA ho; subst hE;refine ai rfl ⟨u,vs2,f1,f2.mono fun k _ h=> h.1,?_⟩;simp only[simprocAttr, -Int.reduceNatCast',R1,hl_1,h0_1,h5_1,h8_1,h9_1,h34_1,h35_1,h99_1,h100_1,hq4]
   ·clear hl_1 h0_1 h5_1 h15_1 h16_1 h17_1 g1 g2 k0 u0 v1 v2 v3 o1
    rintro cc ⟨l,done⟩ e ⟨E,c⟩ ⟨u,vs,g1,g2,hl_1,h0_1,h5_1,h8_1,h34_1,h35_1⟩ hge t1 ho;unfold F133_2_D at ho;have hE:=wA ho; subst hE;simp only at g1 g2 h5_1 h8_1;simp only[simprocAttr, -Int.reduceNatCast',R1,b133_2,hl_1,h0_1,h5_1,h8_1,h34_1,h35_1,eq_false hge,vO,yU];intro ht; subst ht;simp only at hF;split at hF
    case isFalse=> cases hF
    rename_i hdn;have wsh:=slice_hi (key:=0) (uid:=u) (n:=l.length) (d:=done) hdn.1 (by omega);have hE:=wA hF; subst hE;have hrl:(l.take done.toNat).length=done.toNat:=by simp; omega
    simp only[simprocAttr, -Int.reduceNatCast',R1,hl_1,wsh];refine ai (fun _=> trivial) ⟨_,?_,u,vs,l,rfl,g1,g2,by rw[hrl]⟩;simp only[simprocAttr, -Int.reduceNatCast',R1,qg,p133,Rs.ev,hl_1,hrl]
theorem s133(p:Int)(rows:List (List Int)){r:List (List Int)}(hF:F133 p rows=some r):ans A 133 [V.int .i64 p,V.isl (rows.map enc)]=some (enc r):=by
 obtain⟨_,h',h1,u,vs,l,rfl,h2,h3,h4⟩:=d133 p rows hF;have hl:r.length≤l.length:=by have:=congrArg List.length h4; simp at this; omega
 have:=h3.fz h'.clk (key:=0) (uid:=u) (off:=0) (n:=r.length) h2 (by omega);rw[vI,←h4]at this;unfold ans;rw[h1];exact this
theorem t133(p:Int)(rows:List (List Int)){r:List (List Int)}(hF:F133 p rows=some r):tans A 133 [1] [V.int .i64 p,V.isl (rows.map enc)]=some (enc r):=by
 obtain⟨_,h',h1,u,vs,l,rfl,h2,h3,h4⟩:=d133 p rows hF;have hl:r.length≤l.length:=by have:=congrArg List.length h4; simp at this; omega
 obtain⟨h2',q⟩:=h3.tk h'.clk (key:=0) (uid:=u) (n:=r.length) h2 (by decide) hl;rw[←h4]at q;unfold tans;rw[h1];show(match take 16 [1] (V.sl 0 u 0 r.length 1) ⟨h'.ents,h'.clk⟩with|some (t,_)=> some t|none=> none)=_;rw[q];rfl
theorem mtk133(f:Nat):∀ (ws:List V) (q:List (List Int)) (h:Heap),ws.length=q.length→(∀ (i:Nat) v r,ws[i]? =some v→q[i]? =some r→∃k u,v= .sl k u 0 r.length 1∧h.ents[k]? =some (u,some (r.map enc)))→
  (∀ (i j k u n k' u' n':Nat),ws[i]? =some (.sl k u 0 n 1)→ws[j]? =some (.sl k' u' 0 n' 1)→k=k'→i=j)→∃h',mapS (take (f+2) [1]) ws h=some (q.map enc,h')
 | [],[],h,_,_,_=>⟨h,rfl⟩
 |v::ws,r::q,h,hl,hr,hi=> by
  obtain⟨k,u,rfl,g⟩:=hr 0 v r rfl rfl;have e:(List.map (enc:Int→V) r).take r.length=r.map enc:=wQ (by simp);have ht:take (f+2) [1] (.sl k u 0 r.length 1) h=some (enc r,h.kill k):=by
   simp only[take,get_of g,vU,wV,vI,List.tail_cons];rw[if_pos ⟨by simp,by omega,by simp[hdOk]⟩,e,take_ints f []];simp only[jr];rfl
  obtain⟨h',h2⟩:=mtk133 f ws q (h.kill k) (by simpa using hl) (fun i v' r' a b=> by
   obtain⟨k',u',e',g'⟩:=hr (i+1) v' r' (by simpa using a) (by simpa using b);refine⟨k',u',e',?_⟩;rw[kill_ne h fun q=>?_]
   ·exact g'
   ·subst e'; subst q
    have:=hi (i+1) 0 _ _ _ _ _ _ (by simpa using a) rfl rfl;omega) (fun i j k1 u1 n1 k2 u2 n2 a b c=> by
   have:=hi (i+1) (j+1) _ _ _ _ _ _ (by simpa using a) (by simpa using b) c;omega)
  exact⟨h',by simp only[mapS,ht,h2,wZ]⟩
theorem mtt133{E:List (Nat×Option (List V))}{vs:List V}{l:List (List Int)}{B:Ks}(m:zS E vs l B)(c:Nat){key uid n:Nat}(hk:E[key]? =some (uid,some vs))(hB:¬B key)(hn:n≤l.length):∃h',take 16 [1,1] (.sl key uid 0 n 1) ⟨E,c⟩=some (.isl ((l.take n).map enc),h'):=by
 have hl:=m.len;obtain⟨h',h2⟩:=mtk133 13 (vs.take n) (l.take n) ((⟨E,c⟩:Heap).kill key) (by simp[hl]) (fun i v r a b=> by
  rw[List.getElem?_take]at a b;split at a
  ·rename_i hi
   rw[if_pos hi]at b;obtain⟨k,u,e,g,hb⟩:=m.row i v r a b;exact⟨k,u,e,by rw[kill_ne _ fun q=> by subst q; exact hB hb]; exact g⟩
  ·cases a) (fun i j k u n1 k' u' n2 a b e=> by
  rw[List.getElem?_take]at a b;split at a
  ·split at b
   ·exact m.inj i j _ _ _ _ _ _ a b e
   ·cases b
  ·cases a)
 refine⟨h',?_⟩;simp only[take,get_of (h:=⟨E,c⟩) hk,vU,wV,vI,List.tail_cons];rw[if_pos ⟨by omega,by omega,by simp[hdOk]⟩,h2];simp only[jr]
theorem x133(p:Int)(rows:List (List Int)){r:List (List Int)}(hF:F133 p rows=some r):tans A 133 [1,1] [V.int .i64 p,V.isl (rows.map enc)]=some (enc r):=by
 obtain⟨_,h',h1,u,vs,l,rfl,h2,h3,h4⟩:=d133 p rows hF;have hl:r.length≤l.length:=by have:=congrArg List.length h4; simp at this; omega
 obtain⟨h2',q⟩:=mtt133 h3 h'.clk (key:=0) (uid:=u) (n:=r.length) h2 (by decide) hl;rw[←h4]at q;unfold tans;rw[h1];show(match take 16 [1,1] (V.sl 0 u 0 r.length 1) ⟨h'.ents,h'.clk⟩with|some (t,_)=> some t|none=> none)=_;rw[q];rfl
def F125_1_B(a0:Int)(a1:List (List Int))(x2:List Int)(v25_1:Int)(o0_1:(List (List Int))):Option (((List (List Int)))⊕((List (List Int)))):=
 (getI a1 v25_1).bind fun x8=>
(F96 x8).bind fun x10=>
(appZ 8 x10 (a1.length:Int) 0).bind fun l13=>
(chk ((x2.length:Int)+v25_1)).bind fun x14=>
(getI l13 x14).bind fun x15=>
(setI l13 x14 1).bind fun l17=>
(app 24 o0_1 [l17]).bind fun l20=>
some (.inl l20)
def F125_1_D(a0:Int)(a1:List (List Int))(x2:List Int)(v25_1:Int)(o0_1:(List (List Int))):Option ((List (List Int))):=
 some o0_1
def F125_2_B(a0:Int)(x2:List Int)(x22:List (List Int))(v49_2:Int)(o1_2:(List (List Int))):Option (((List (List Int)))⊕((List (List Int)))):=
 (getI x22 v49_2).bind fun x28=>
(slI x28 0 (x2.length:Int)).bind fun l30=>
(F92 l30).bind fun x32=>
if x32=true then
 (slI x28 (x2.length:Int) (x28.length:Int)).bind fun l34=>
 (app 24 o1_2 [l34]).bind fun l37=>
 some (.inl l37)
else
 some (.inl o1_2)
def F125_2_D(a0:Int)(x2:List Int)(x22:List (List Int))(v49_2:Int)(o1_2:(List (List Int))):Option ((List (List Int))):=
 some o1_2
def F125(a0:Int)(a1:List (List Int)):Option (List (List Int)):=
 if(a1.length:Int)=0 then
  some ([]:List (List Int))
 else
  (getI a1 0).bind fun x2=>
  (forR 0 (a1.length:Int) (F125_1_B a0 a1 x2) (F125_1_D a0 a1 x2) ([]:(List (List Int)))).bind fun zo0_1=>
  (F133 a0 zo0_1).bind fun x22=>
  (forR 0 (x22.length:Int) (F125_2_B a0 x2 x22) (F125_2_D a0 x2 x22) ([]:(List (List Int)))).bind fun zo1_2=>
  (F133 a0 zo1_2).bind fun x39=>
  some x39
def I125_1(a0:Int)(a1:List (List Int))(x2:List Int)(v25_1:Int)(o0_1:(List (List Int)))(e:Env)(h:Heap):Prop:=
 ∃u5 k6:Nat,h=⟨[(u5,some (o0_1.map enc))],k6⟩∧e.length=67∧e.at 0=V.int .i64 a0∧e.at 5=V.int .i64 (a1.length:Int)∧e.at 6=V.int .i64 (x2.length:Int)∧e.at 7=V.sl 0 u5 0 o0_1.length 1∧e.at 23=V.isl (a1.map enc)∧e.at 24=V.int .i64 (a1.length:Int)∧e.at 25=V.int .i64 v25_1
def P125_1(a0:Int)(a1:List (List Int))(x2:List Int)(zo0_1:(List (List Int)))(x:Ex)(e:Env)(h:Heap):Prop:=
 x= .normal∧∃u5 k6:Nat,h=⟨[(u5,some (zo0_1.map enc))],k6⟩∧e.length=67∧e.at 0=V.int .i64 a0∧e.at 6=V.int .i64 (x2.length:Int)∧e.at 7=V.sl 0 u5 0 zo0_1.length 1
theorem l125_1(a0:Int)(a1:List (List Int))(x2:List Int){lo:Int}{s:(List (List Int))}{t:(List (List Int))}(hF:forR lo (a1.length:Int) (F125_1_B a0 a1 x2) (F125_1_D a0 a1 x2) s=some t){e:Env}{h:Heap}(hI:I125_1 a0 a1 x2 lo s e h):W A c125_1 e h (P125_1 a0 a1 x2 t):=by
 show W A (.block 0 (.loop false b125_1)) e h _;rw[qr];refine qD hF 1 (by obtain⟨_,_,rfl,_⟩:=hI; rfl) (I125_1 a0 a1 x2) hI ?_ ?_
 ·rintro v25_1 o0_1 e h ⟨u5,k6,rfl,h_4⟩ hlt hw o ho
  unfold F125_1_B at ho;obtain⟨x8,gx8,ho⟩:=bS ho;obtain⟨w9a,w9b⟩:=qk gx8;obtain⟨x10,gx10,ho⟩:=bS ho;have w11:tans A 96 [1] [V.isl (x8.map enc)]=some (V.isl (x10.map enc)):=t96 x8 gx10;have w11t:=zb (α:=Int) x10;obtain⟨l13,gl13,ho⟩:=bS ho;obtain⟨w12a,w12b,w12c,w12d,w12e,w12f⟩:=appZ_w gl13;replace w12f:List.map enc (List.replicate (Int.toNat (a1.length:Int)) (0:Int))=(List.replicate (Int.toNat (a1.length:Int)) [V.int .i64 0]).flatten:=w12f;have w12:=fun a b c d e=> qA (α:=Int) (n:=x10.length) (m:=(Int.toNat (a1.length:Int))) (ds:=(List.replicate (Int.toNat (a1.length:Int)) [V.int .i64 0]).flatten) w12d (by first|rfl|simp) w12e w12f a b c d e;have w12l:=qM w12d;obtain⟨x14,gx14,ho⟩:=bS ho;have wx14:=qz gx14;obtain⟨x15,gx15,ho⟩:=bS ho;obtain⟨w16a,w16b⟩:=qk gx15;have w16c:=za gx15;have w16d:List.drop (Int.toNat x14) (l13.map enc)=(V.int .i64 x15)::List.drop ((Int.toNat x14)+1) (l13.map enc):=jx w16b;obtain⟨l17,gl17,ho⟩:=bS ho;obtain⟨w18a,w18b,w18c,w18d,w18e⟩:=jV gl17;replace w18e:List.take (Int.toNat x14) (l13.map enc)++[V.int .i64 1]++List.drop (Int.toNat x14+1) (l13.map enc)=List.map enc l17:=w18e;obtain⟨l20,gl20,ho⟩:=bS ho;have w19:=fun a b c d e=> qA (α:=List Int) (n:=o0_1.length) (m:=1) (ds:=[V.isl (l17.map enc)]) gl20 (by first|rfl|simp only[w18d]) (by first|rfl|simp only[w18d]) rfl a b c d e;have w19l:=qM gl20;cases ho;simp only[simprocAttr, -Int.reduceNatCast',R0,b125_1,h_4,eq_true hlt,hw,w9a,w9b,w11,w11t,w12a,w12b,w12c,w12,wx14,w16a,w16b,w16c,w16d,w18a,w18b,w18c,w18e,qO (α:=Int) l17,take_len (α:=Int) (l:=l17) (n:=l13.length) (by first|rfl|simp only[w18d]),le_of_len (α:=Int) (l:=l17) (n:=l13.length) (by first|rfl|simp only[w18d]),w19];refine ai rfl (ei _ (ei _ (ai rfl ?_)));simp only[simprocAttr, -Int.reduceNatCast',R0,h_4,eq_true hlt,hw,w9a,w9b,w11,w11t,w12a,w12b,w12c,w12,wx14,w16a,w16b,w16c,w16d,w18a,w18b,w18c,w18e,qO (α:=Int) l17,take_len (α:=Int) (l:=l17) (n:=l13.length) (by first|rfl|simp only[w18d]),le_of_len (α:=Int) (l:=l17) (n:=l13.length) (by first|rfl|simp only[w18d]),w19,w18d]
 ·rintro v25_1 o0_1 e h ⟨u5,k6,rfl,h_4⟩ hge t1 ho
  unfold F125_1_D at ho;cases ho;simp only[simprocAttr, -Int.reduceNatCast',R0,b125_1,h_4,eq_false hge];intro ht; subst ht;refine ai rfl (ei _ (ei _ (ai rfl ?_)));simp only[simprocAttr, -Int.reduceNatCast',R0,h_4,eq_false hge]
def I125_2(a0:Int)(x2:List Int)(x22:List (List Int))(v49_2:Int)(o1_2:(List (List Int)))(e:Env)(h:Heap):Prop:=
 ∃u25 k26:Nat,h=⟨[(0,none),(u25,some (o1_2.map enc))],k26⟩∧e.length=67∧e.at 0=V.int .i64 a0∧e.at 6=V.int .i64 (x2.length:Int)∧e.at 11=V.sl 1 u25 0 o1_2.length 1∧e.at 47=V.isl (x22.map enc)∧e.at 48=V.int .i64 (x22.length:Int)∧e.at 49=V.int .i64 v49_2
def P125_2(a0:Int)(x2:List Int)(x22:List (List Int))(zo1_2:(List (List Int)))(x:Ex)(e:Env)(h:Heap):Prop:=
 x= .normal∧∃u25 k26:Nat,h=⟨[(0,none),(u25,some (zo1_2.map enc))],k26⟩∧e.length=67∧e.at 0=V.int .i64 a0∧e.at 11=V.sl 1 u25 0 zo1_2.length 1
theorem l125_2(a0:Int)(x2:List Int)(x22:List (List Int)){lo:Int}{s:(List (List Int))}{t:(List (List Int))}(hF:forR lo (x22.length:Int) (F125_2_B a0 x2 x22) (F125_2_D a0 x2 x22) s=some t){e:Env}{h:Heap}(hI:I125_2 a0 x2 x22 lo s e h):W A c125_2 e h (P125_2 a0 x2 x22 t):=by
 show W A (.block 2 (.loop false b125_2)) e h _;rw[qr];refine qD hF 2 (by obtain⟨_,_,rfl,_⟩:=hI; rfl) (I125_2 a0 x2 x22) hI ?_ ?_
 ·rintro v49_2 o1_2 e h ⟨u25,k26,rfl,h_24⟩ hlt hw o ho
  unfold F125_2_B at ho;obtain⟨x28,gx28,ho⟩:=bS ho;obtain⟨w29a,w29b⟩:=qk gx28;obtain⟨l30,gl30,ho⟩:=bS ho;have w31:jU 1 (V.isl (x28.map enc)) none (some (V.int .i64 (x2.length:Int)))=some (V.isl (l30.map enc)):=sliceV_w (α:=Int) One.one gl30 (.inl ⟨rfl,rfl⟩) (.inr rfl);obtain⟨x32,gx32,ho⟩:=bS ho;have w33:=s92 l30 gx32;cases x32 with
  |true=>
   rw[if_pos rfl]at ho;obtain⟨l34,gl34,ho⟩:=bS ho;have w35:jU 1 (V.isl (x28.map enc)) (some (V.int .i64 (x2.length:Int))) none=some (V.isl (l34.map enc)):=sliceV_w (α:=Int) One.one gl34 (.inr rfl) (.inl ⟨rfl,rfl⟩);obtain⟨l37,gl37,ho⟩:=bS ho;have w36:=fun a b c d e=> qA (α:=List Int) (n:=o1_2.length) (m:=1) (ds:=[V.isl (l34.map enc)]) gl37 (by first|rfl|simp) (by first|rfl|simp) rfl a b c d e;have w36l:=qM gl37;cases ho;simp only[simprocAttr,R0,b125_2, *];refine ai rfl (ei _ (ei _ (ai rfl ?_)));simp only[simprocAttr,R0, *]
  |false=>
   rw[if_neg wE]at ho;cases ho;simp only[simprocAttr,R0,b125_2, *];refine ai rfl (ei _ (ei _ (ai rfl ?_)));simp only[simprocAttr,R0, *]
 ·rintro v49_2 o1_2 e h ⟨u25,k26,rfl,h_24⟩ hge t1 ho
  unfold F125_2_D at ho;cases ho;simp only[simprocAttr,R0,b125_2, *];intro ht; subst ht;refine ai rfl (ei _ (ei _ (ai rfl ?_)));simp only[simprocAttr,R0, *]
theorem s125(a0:Int)(a1:List (List Int)){r:List (List Int)}(hF:F125 a0 a1=some r):ans A 125 [V.int .i64 a0,V.isl (a1.map enc)]=some (enc r):=by
 refine qw (f:=p125) rfl rfl rfl fun e hl he=>?_;have h0_0:e.at 0=V.int .i64 a0:=he 0 _ rfl;have h1_0:e.at 1=V.isl (a1.map enc):=he 1 _ rfl;have hl_0:e.length=67:=hl;clear he hl;have h_0:=ai hl_0 (ai h0_0 h1_0);show W A b125 e ⟨[],0⟩ _;unfold F125 at hF;by_cases c1:(a1.length:Int)=0
 ·rw[if_pos c1]at hF
  cases hF;simp only[simprocAttr,R0,b125, *];exact qf (by simp only[simprocAttr,R0,qg,p125,Rs.ev,qc, *])
 ·rw[if_neg c1]at hF
  obtain⟨x2,gx2,hF⟩:=bS hF;obtain⟨w3a,w3b⟩:=qk gx2;replace w3b:a1[0]? =some x2:=w3b;obtain⟨zo0_1,gt21,hF⟩:=bS hF;simp only[simprocAttr,R0,b125, *];refine W.mono (l125_1 a0 a1 x2 gt21 (ei _ (ei _ (ai rfl ?_)))) ?_
  ·simp only[simprocAttr,R0, *]
  rintro _ e _ ⟨rfl,u5,k6,rfl,h_7⟩;obtain⟨x22,gx22,hF⟩:=bS hF;have w23:=s133 a0 zo0_1 gx22;obtain⟨zo1_2,gt38,hF⟩:=bS hF;simp only[simprocAttr,R0,qO (α:=List Int) zo0_1, *];refine W.mono (l125_2 a0 x2 x22 gt38 (ei _ (ei _ (ai rfl ?_)))) ?_
  ·simp only[simprocAttr,R0,qO (α:=List Int) zo0_1, *]
  rintro _ e _ ⟨rfl,u25,k26,rfl,h_27⟩;obtain⟨x39,gx39,hF⟩:=bS hF;have w40:=s133 a0 zo1_2 gx39;cases hF;simp only[simprocAttr,R0,qO (α:=List Int) zo1_2, *];exact qf (by simp only[simprocAttr,R0,qg,p125,Rs.ev,qc,qO (α:=List Int) zo1_2, *])
def F202_1_B(a2:Int)(x5:List Int)(v24_1:Int)(o1_1:(List Int)):Option (((List Int))⊕((List Int))):=
 (getI x5 v24_1).bind fun x11=>
if x11≤a2 then
 (app 8 o1_1 [v24_1]).bind fun l15=>
 some (.inl l15)
else
 some (.inl o1_1)
def F202_1_D(a2:Int)(x5:List Int)(v24_1:Int)(o1_1:(List Int)):Option ((List Int)):=
 some o1_1
def F202(a0:qd)(a1:Int)(a2:Int):Option (List Int):=
 (F86 a0.Complex).bind fun x1=>
 (F56 a1 0 x1).bind fun x3=>
 if x3=true then
  (getI a0.Levels a1).bind fun x5=>
  (forR 0 (x5.length:Int) (F202_1_B a2 x5) (F202_1_D a2 x5) ([]:(List Int))).bind fun zo1_1=>
  some zo1_1
 else
  some []
def I202_1(a2:Int)(x5:List Int)(v24_1:Int)(o1_1:(List Int))(e:Env)(h:Heap):Prop:=
 ∃u8 k9:Nat,h=⟨[(0,none),(u8,some (o1_1.map enc))],k9⟩∧e.length=38∧e.at 2=V.int .i64 a2∧e.at 7=V.sl 1 u8 0 o1_1.length 1∧e.at 22=V.isl (x5.map enc)∧e.at 23=V.int .i64 (x5.length:Int)∧e.at 24=V.int .i64 v24_1
def P202_1(a2:Int)(x5:List Int)(zo1_1:(List Int))(x:Ex)(e:Env)(h:Heap):Prop:=
 x= .normal∧∃u8 k9:Nat,h=⟨[(0,none),(u8,some (zo1_1.map enc))],k9⟩∧e.length=38∧e.at 7=V.sl 1 u8 0 zo1_1.length 1
theorem l202_1(a2:Int)(x5:List Int){lo:Int}{s:(List Int)}{t:(List Int)}(hF:forR lo (x5.length:Int) (F202_1_B a2 x5) (F202_1_D a2 x5) s=some t){e:Env}{h:Heap}(hI:I202_1 a2 x5 lo s e h):W A c202_1 e h (P202_1 a2 x5 t):=by
 show W A (.block 0 (.loop false b202_1)) e h _;rw[qr];refine qD hF 2 (by obtain⟨_,_,rfl,_⟩:=hI; rfl) (I202_1 a2 x5) hI ?_ ?_
 ·rintro v24_1 o1_1 e h ⟨u8,k9,rfl,h_7⟩ hlt hw o ho
  unfold F202_1_B at ho;obtain⟨x11,gx11,ho⟩:=bS ho;obtain⟨w12a,w12b⟩:=qk gx11;by_cases c13:x11≤a2
  ·rw[if_pos c13]at ho
   obtain⟨l15,gl15,ho⟩:=bS ho;have w14:=fun a b c d e=> qA (α:=Int) (n:=o1_1.length) (m:=1) (ds:=[V.int .i64 v24_1]) gl15 (by first|rfl|simp) (by first|rfl|simp) rfl a b c d e;have w14l:=qM gl15;cases ho;simp only[simprocAttr,R0,b202_1, *];refine ai rfl (ei _ (ei _ (ai rfl ?_)));simp only[simprocAttr,R0, *]
  ·rw[if_neg c13]at ho
   cases ho;simp only[simprocAttr,R0,b202_1, *];refine ai rfl (ei _ (ei _ (ai rfl ?_)));simp only[simprocAttr,R0, *]
 ·rintro v24_1 o1_1 e h ⟨u8,k9,rfl,h_7⟩ hge t1 ho
  unfold F202_1_D at ho;cases ho;simp only[simprocAttr,R0,b202_1, *];intro ht; subst ht;refine ai rfl (ei _ (ei _ (ai rfl ?_)));simp only[simprocAttr,R0, *]
theorem s202(a0:qd)(a1:Int)(a2:Int){r:List Int}(hF:F202 a0 a1 a2=some r):ans A 202 [(eF a0),V.int .i64 a1,V.int .i64 a2]=some (enc r):=by
 refine qw (f:=p202) rfl rfl rfl fun e hl he=>?_;have h0_0:e.at 0=(eF a0):=he 0 _ rfl;have h1_0:e.at 1=V.int .i64 a1:=he 1 _ rfl;have h2_0:e.at 2=V.int .i64 a2:=he 2 _ rfl;have hl_0:e.length=38:=hl;clear he hl;show W A b202 e ⟨[],0⟩ _;unfold F202 at hF;obtain⟨x1,gx1,hF⟩:=bS hF;have w2:=s86 a0.Complex gx1;obtain⟨x3,gx3,hF⟩:=bS hF;have w4:=s56 a1 0 x1 gx3;cases x3 with
 |true=>
  rw[if_pos rfl]at hF;obtain⟨x5,gx5,hF⟩:=bS hF;obtain⟨w6a,w6b⟩:=qk gx5;obtain⟨zo1_1,gt16,hF⟩:=bS hF;simp only[simprocAttr, -Int.reduceNatCast',R0,b202, *];refine W.mono (l202_1 a2 x5 gt16 (ei _ (ei _ (ai rfl ?_)))) ?_
  ·simp only[simprocAttr, -Int.reduceNatCast',R0, *]
  rintro _ e _ ⟨rfl,u8,k9,rfl,hl_10,h7_10⟩;have hE:=wA hF; subst hE;simp only[simprocAttr, -Int.reduceNatCast',R0, *];exact qf (by simp only[simprocAttr, -Int.reduceNatCast',R0,qg,p202,Rs.ev,qc,frzs (α:=Int) zo1_1,qO (α:=Int) zo1_1, *])
 |false=>
  rw[if_neg wE]at hF;have hE:=wA hF; subst hE;simp only[simprocAttr, -Int.reduceNatCast',R0,b202, *];exact qf (by simp only[simprocAttr, -Int.reduceNatCast',R0,qg,p202,Rs.ev,qc, *])
def F211_1_B(a0:List Int)(a1:Int)(v8_1:Int)(s:Unit):Option ((Unit)⊕((Unit)⊕Int)):=
 (getI a0 v8_1).bind fun x4=>
if a1=x4 then
 some (.inr (.inr v8_1))
else
 some (.inl ())
def F211_1_D(a0:List Int)(a1:Int)(v8_1:Int)(s:Unit):Option ((Unit)⊕Int):=
 some (.inl ())
def F211(a0:List Int)(a1:Int):Option Int:=
 (forR 0 (a0.length:Int) (F211_1_B a0 a1) (F211_1_D a0 a1) ()).bind fun t7=> match t7 with
  | .inl _=>
   some (-1)
  | .inr r8=> some r8
def I211_1(a0:List Int)(a1:Int)(v8_1:Int)(s:Unit)(e:Env)(h:Heap):Prop:=
 ∃k2:Nat,h=⟨[],k2⟩∧e.length=19∧e.at 0=V.isl (a0.map enc)∧e.at 1=V.int .i64 a1∧e.at 7=V.int .i64 (a0.length:Int)∧e.at 8=V.int .i64 v8_1
def P211_1(a0:List Int)(a1:Int)(t:(Unit)⊕Int)(x:Ex)(e:Env)(h:Heap):Prop:=
 match t with
 | .inl _=> x= .normal∧∃k2:Nat,h=⟨[],k2⟩∧e.length=19
 | .inr r=> x= .ret∧Fin p211 (enc r) .ret e h
theorem l211_1(a0:List Int)(a1:Int){lo:Int}{s:Unit}{t:(Unit)⊕Int}(hF:forR lo (a0.length:Int) (F211_1_B a0 a1) (F211_1_D a0 a1) s=some t){e:Env}{h:Heap}(hI:I211_1 a0 a1 lo s e h):W A c211_1 e h (P211_1 a0 a1 t):=by
 show W A (.block 0 (.loop false b211_1)) e h _;rw[qr];refine qD hF 0 (by obtain⟨_,rfl,_⟩:=hI; rfl) (I211_1 a0 a1) hI ?_ ?_
 ·rintro v8_1 _ e h ⟨k2,rfl,h_1⟩ hlt hw o ho
  unfold F211_1_B at ho;obtain⟨x4,gx4,ho⟩:=bS ho;obtain⟨w5a,w5b⟩:=qk gx4;by_cases c6:a1=x4
  ·rw[if_pos c6]at ho
   cases ho;simp only[simprocAttr,R0,b211_1, *];intro ht; subst ht;simp only[simprocAttr,RR,RB];exact ai rfl (qf (by simp only[simprocAttr,R0,qg,p211,Rs.ev,qc, *]))
  ·rw[if_neg c6]at ho
   cases ho;simp only[simprocAttr,R0,b211_1, *];refine ai rfl (ei _ (ai rfl ?_));simp only[simprocAttr,R0, *]
 ·rintro v8_1 _ e h ⟨k2,rfl,h_1⟩ hge t1 ho
  unfold F211_1_D at ho;cases ho;simp only[simprocAttr,R0,b211_1, *];intro ht; subst ht;refine ai rfl (ei _ (ai rfl ?_));simp only[simprocAttr,R0, *]
theorem s211(a0:List Int)(a1:Int){r:Int}(hF:F211 a0 a1=some r):ans A 211 [V.isl (a0.map enc),V.int .i64 a1]=some (enc r):=by
 refine qw (f:=p211) rfl rfl rfl fun e hl he=>?_;have h0_0:e.at 0=V.isl (a0.map enc):=he 0 _ rfl;have h1_0:e.at 1=V.int .i64 a1:=he 1 _ rfl;have hl_0:e.length=19:=hl;clear he hl;have h_0:=ai hl_0 (ai h0_0 h1_0);show W A b211 e ⟨[],0⟩ _;unfold F211 at hF;obtain⟨t7,gt7,hF⟩:=bS hF;rcases t7 with _|r8
 ·dsimp only at hF
  simp only[simprocAttr,R0,b211, *];refine W.mono (l211_1 a0 a1 gt7 (ei _ (ai rfl ?_))) ?_
  ·simp only[simprocAttr,R0, *]
  rintro _ e _ ⟨rfl,k2,rfl,hl_3⟩;cases hF;simp only[simprocAttr,R0, *];exact qf (by simp only[simprocAttr,R0,qg,p211,Rs.ev,qc, *])
 ·dsimp only at hF
  cases hF;simp only[simprocAttr,R0,b211, *];refine W.mono (l211_1 a0 a1 gt7 (ei _ (ai rfl ?_))) ?_
  ·simp only[simprocAttr,R0, *]
  rintro _ e h ⟨rfl,hq⟩;simp only[simprocAttr,RR,RB];exact hq
def F203(a0:List Int)(a1:Int):Option Bool:=
 (F211 a0 a1).bind fun x1=>
 some (decide (0≤x1))
theorem s203(a0:List Int)(a1:Int){r:Bool}(hF:F203 a0 a1=some r):ans A 203 [V.isl (a0.map enc),V.int .i64 a1]=some (enc r):=by
 refine qw (f:=p203) rfl rfl rfl fun e hl he=>?_;have h0_0:e.at 0=V.isl (a0.map enc):=he 0 _ rfl;have h1_0:e.at 1=V.int .i64 a1:=he 1 _ rfl;have hl_0:e.length=9:=hl;clear he hl;show W A b203 e ⟨[],0⟩ _;unfold F203 at hF;obtain⟨x1,gx1,hF⟩:=bS hF;have w2:=s211 a0 a1 gx1;cases hF;simp only[simprocAttr,R0,b203, *];exact qf (by simp only[simprocAttr,R0,qg,p203,Rs.ev,qc, *])
def F184_1_B(a0:qd)(a1:Int)(a2:Int)(a3:Int)(x1:List Int)(x4:Int)(v37_1:Int)(o3_1:(List Int)):Option (((List Int))⊕((List Int))):=
 (chk (a2 - 1)).bind fun x10=>
(chk (a3 - a1)).bind fun x11=>
(F202 a0 x10 x11).bind fun x12=>
(F203 x12 v37_1).bind fun x14=>
if x14=true then
 some (.inl o3_1)
else
 (app 8 o3_1 [v37_1]).bind fun l17=>
 some (.inl l17)
def F184_1_D(a0:qd)(a1:Int)(a2:Int)(a3:Int)(x1:List Int)(x4:Int)(v37_1:Int)(o3_1:(List Int)):Option ((List Int)):=
 some o3_1
def F184_3_B(a0:qd)(a2:Int)(x1:List Int)(zo3_1:List Int)(o2_2:List (List Int))(v57_2:Int)(x23:Int)(v64_3:Int)(o4_3:(List Int)):Option (((List Int))⊕((List Int))):=
 (getI zo3_1 v64_3).bind fun x29=>
(chk (a2 - 1)).bind fun x31=>
(getI a0.Complex.Maps x31).bind fun x32=>
(getI x32 x23).bind fun x34=>
(getI x34 x29).bind fun x36=>
(app 8 o4_3 [x36]).bind fun l39=>
some (.inl l39)
def F184_3_D(a0:qd)(a2:Int)(x1:List Int)(zo3_1:List Int)(o2_2:List (List Int))(v57_2:Int)(x23:Int)(v64_3:Int)(o4_3:(List Int)):Option ((List Int)):=
 some o4_3
def F184_2_B(a0:qd)(a2:Int)(x1:List Int)(zo3_1:List Int)(v57_2:Int)(o2_2:(List (List Int))):Option (((List (List Int)))⊕((List (List Int)))):=
 (getI x1 v57_2).bind fun x23=>
(forR 0 ((zo3_1.length:Nat):Int) (F184_3_B a0 a2 x1 zo3_1 o2_2 v57_2 x23) (F184_3_D a0 a2 x1 zo3_1 o2_2 v57_2 x23) ([]:(List Int))).bind fun zo4_3=>
(app 24 o2_2 [zo4_3]).bind fun l42=>
some (.inl l42)
def F184_2_D(a0:qd)(a2:Int)(x1:List Int)(zo3_1:List Int)(v57_2:Int)(o2_2:(List (List Int))):Option ((List (List Int))):=
 some o2_2
def F184_5_B(a0:qd)(a2:Int)(x1:List Int)(zo3_1:List Int)(x44:List (List Int))(o4_4:List (List Int))(v95_4:Int)(x50:List Int)(v105_5:Int)(o5_5:(List Int)):Option (((List Int))⊕((List Int))):=
 (getI x1 v105_5).bind fun x60=>
(getI x50 v105_5).bind fun x62=>
(getI o5_5 x60).bind fun x64=>
(setI o5_5 x60 x62).bind fun l66=>
some (.inl l66)
def F184_5_D(a0:qd)(a2:Int)(x1:List Int)(zo3_1:List Int)(x44:List (List Int))(o4_4:List (List Int))(v95_4:Int)(x50:List Int)(v105_5:Int)(o5_5:(List Int)):Option ((List Int)):=
 some o5_5
def F184_4_B(a0:qd)(a2:Int)(x1:List Int)(zo3_1:List Int)(x44:List (List Int))(v95_4:Int)(o4_4:(List (List Int))):Option (((List (List Int)))⊕((List (List Int)))):=
 (getI x44 v95_4).bind fun x50=>
(F102 a0.Complex a2).bind fun x52=>
(mkL 8 x52 0).bind fun l54=>
(forR 0 (x1.length:Int) (F184_5_B a0 a2 x1 zo3_1 x44 o4_4 v95_4 x50) (F184_5_D a0 a2 x1 zo3_1 x44 o4_4 v95_4 x50) l54).bind fun zo5_5=>
(app 24 o4_4 [zo5_5]).bind fun l70=>
some (.inl l70)
def F184_4_D(a0:qd)(a2:Int)(x1:List Int)(zo3_1:List Int)(x44:List (List Int))(v95_4:Int)(o4_4:(List (List Int))):Option ((List (List Int))):=
 some o4_4
def F184(a0:qd)(a1:Int)(a2:Int)(a3:Int):Option (List (List Int)):=
 (F202 a0 a2 a3).bind fun x1=>
 (chk (a2 - 1)).bind fun x3=>
 (F102 a0.Complex x3).bind fun x4=>
 (forR 0 x4 (F184_1_B a0 a1 a2 a3 x1 x4) (F184_1_D a0 a1 a2 a3 x1 x4) ([]:(List Int))).bind fun zo3_1=>
 (forR 0 (x1.length:Int) (F184_2_B a0 a2 x1 zo3_1) (F184_2_D a0 a2 x1 zo3_1) ([]:(List (List Int)))).bind fun zo2_2=>
 (F125 a0.Complex.Prime zo2_2).bind fun x44=>
 (forR 0 (x44.length:Int) (F184_4_B a0 a2 x1 zo3_1 x44) (F184_4_D a0 a2 x1 zo3_1 x44) ([]:(List (List Int)))).bind fun zo4_4=>
 (F133 a0.Complex.Prime zo4_4).bind fun x72=>
 some x72
def I184_1(a0:qd)(a1:Int)(a2:Int)(a3:Int)(x1:List Int)(x4:Int)(v37_1:Int)(o3_1:(List Int))(e:Env)(h:Heap):Prop:=
 ∃u7 k8:Nat,h=⟨[(0,none),(1,some [V.int .i64 a0.Complex.Prime,V.isl (a0.Complex.Dims.map enc),V.isl (a0.Complex.Maps.map enc)]),(2,some []),(u7,some (o3_1.map enc))],k8⟩∧e.length=127∧e.at 1=V.int .i64 a1∧e.at 2=V.int .i64 a2∧e.at 3=V.int .i64 a3∧e.at 4=V.iptr [V.int .i64 a0.Complex.Prime,V.isl (a0.Complex.Dims.map enc),V.isl (a0.Complex.Maps.map enc),V.isl (a0.Levels.map enc)]∧e.at 9=V.ptr 1 1 0∧e.at 10=V.isl (x1.map enc)∧e.at 11=V.sl 2 2 0 0 1∧e.at 12=V.sl 3 u7 0 o3_1.length 1∧e.at 36=V.int .i64 x4∧e.at 37=V.int .i64 v37_1
def P184_1(a0:qd)(a1:Int)(a2:Int)(a3:Int)(x1:List Int)(x4:Int)(zo3_1:(List Int))(x:Ex)(e:Env)(h:Heap):Prop:=
 x= .normal∧∃u7 k8:Nat,h=⟨[(0,none),(1,some [V.int .i64 a0.Complex.Prime,V.isl (a0.Complex.Dims.map enc),V.isl (a0.Complex.Maps.map enc)]),(2,some []),(u7,some (zo3_1.map enc))],k8⟩∧e.length=127∧e.at 2=V.int .i64 a2∧e.at 9=V.ptr 1 1 0∧e.at 10=V.isl (x1.map enc)∧e.at 11=V.sl 2 2 0 0 1∧e.at 12=V.sl 3 u7 0 zo3_1.length 1
theorem l184_1(a0:qd)(a1:Int)(a2:Int)(a3:Int)(x1:List Int)(x4:Int){lo:Int}{s:(List Int)}{t:(List Int)}(hF:forR lo x4 (F184_1_B a0 a1 a2 a3 x1 x4) (F184_1_D a0 a1 a2 a3 x1 x4) s=some t){e:Env}{h:Heap}(hI:I184_1 a0 a1 a2 a3 x1 x4 lo s e h):W A c184_1 e h (P184_1 a0 a1 a2 a3 x1 x4 t):=by
 show W A (.block 0 (.loop false b184_1)) e h _;rw[qr];refine qD hF 4 (by obtain⟨_,_,rfl,_⟩:=hI; rfl) (I184_1 a0 a1 a2 a3 x1 x4) hI ?_ ?_
 ·rintro v37_1 o3_1 e h ⟨u7,k8,rfl,h_6⟩ hlt hw o ho
  unfold F184_1_B at ho;obtain⟨x10,gx10,ho⟩:=bS ho;have wx10:=qz gx10;obtain⟨x11,gx11,ho⟩:=bS ho;have wx11:=qz gx11;obtain⟨x12,gx12,ho⟩:=bS ho;have w13:=s202 a0 x10 x11 gx12;obtain⟨x14,gx14,ho⟩:=bS ho;have w15:=s203 x12 v37_1 gx14;cases x14 with
  |true=>
   rw[if_pos rfl]at ho;cases ho;simp only[simprocAttr,R0,b184_1, *];refine ai rfl (ei _ (ei _ (ai rfl ?_)));simp only[simprocAttr,R0, *]
  |false=>
   rw[if_neg wE]at ho;obtain⟨l17,gl17,ho⟩:=bS ho;have w16:=fun a b c d e=> qA (α:=Int) (n:=o3_1.length) (m:=1) (ds:=[V.int .i64 v37_1]) gl17 (by first|rfl|simp) (by first|rfl|simp) rfl a b c d e;have w16l:=qM gl17;cases ho;simp only[simprocAttr,R0,b184_1, *];refine ai rfl (ei _ (ei _ (ai rfl ?_)));simp only[simprocAttr,R0, *]
 ·rintro v37_1 o3_1 e h ⟨u7,k8,rfl,h_6⟩ hge t1 ho
  unfold F184_1_D at ho;cases ho;simp only[simprocAttr,R0,b184_1, *];intro ht; subst ht;refine ai rfl (ei _ (ei _ (ai rfl ?_)));simp only[simprocAttr,R0, *]
def I184_3(a0:qd)(a2:Int)(x1:List Int)(zo3_1:List Int)(o2_2:List (List Int))(v57_2:Int)(x23:Int)(u7 u20:Nat)(v64_3:Int)(o4_3:(List Int))(e:Env)(h:Heap):Prop:=
 ∃u26 k27:Nat,h=⟨[(0,none),(1,some [V.int .i64 a0.Complex.Prime,V.isl (a0.Complex.Dims.map enc),V.isl (a0.Complex.Maps.map enc)]),(u20,some (o2_2.map enc)),(u7,some (zo3_1.map enc)),(u26,some (o4_3.map enc))],k27⟩∧e.length=127∧e.at 2=V.int .i64 a2∧e.at 9=V.ptr 1 1 0∧e.at 10=V.isl (x1.map enc)∧e.at 11=V.sl 2 u20 0 o2_2.length 1∧e.at 12=V.sl 3 u7 0 zo3_1.length 1∧e.at 15=V.int .i64 x23∧e.at 16=V.sl 4 u26 0 o4_3.length 1∧e.at 55=V.isl (x1.map enc)∧e.at 56=V.int .i64 (x1.length:Int)∧e.at 57=V.int .i64 v57_2∧e.at 62=V.sl 3 u7 0 zo3_1.length 1∧e.at 63=V.int .i64 ((zo3_1.length:Nat):Int)∧e.at 64=V.int .i64 v64_3
def P184_3(a0:qd)(a2:Int)(x1:List Int)(zo3_1:List Int)(o2_2:List (List Int))(v57_2:Int)(x23:Int)(u7 u20:Nat)(zo4_3:(List Int))(x:Ex)(e:Env)(h:Heap):Prop:=
 x= .normal∧∃u26 k27:Nat,h=⟨[(0,none),(1,some [V.int .i64 a0.Complex.Prime,V.isl (a0.Complex.Dims.map enc),V.isl (a0.Complex.Maps.map enc)]),(u20,some (o2_2.map enc)),(u7,some (zo3_1.map enc)),(u26,some (zo4_3.map enc))],k27⟩∧e.length=127∧e.at 2=V.int .i64 a2∧e.at 9=V.ptr 1 1 0∧e.at 10=V.isl (x1.map enc)∧e.at 11=V.sl 2 u20 0 o2_2.length 1∧e.at 12=V.sl 3 u7 0 zo3_1.length 1∧e.at 16=V.sl 4 u26 0 zo4_3.length 1∧e.at 55=V.isl (x1.map enc)∧e.at 56=V.int .i64 (x1.length:Int)∧e.at 57=V.int .i64 v57_2
theorem l184_3(a0:qd)(a2:Int)(x1:List Int)(zo3_1:List Int)(o2_2:List (List Int))(v57_2:Int)(x23:Int)(u7 u20:Nat){lo:Int}{s:(List Int)}{t:(List Int)}(hF:forR lo ((zo3_1.length:Nat):Int) (F184_3_B a0 a2 x1 zo3_1 o2_2 v57_2 x23) (F184_3_D a0 a2 x1 zo3_1 o2_2 v57_2 x23) s=some t){e:Env}{h:Heap}(hI:I184_3 a0 a2 x1 zo3_1 o2_2 v57_2 x23 u7 u20 lo s e h):W A c184_3 e h (P184_3 a0 a2 x1 zo3_1 o2_2 v57_2 x23 u7 u20 t):=by
 show W A (.block 4 (.loop false b184_3)) e h _;rw[qr];refine qD hF 5 (by obtain⟨_,_,rfl,_⟩:=hI; rfl) (I184_3 a0 a2 x1 zo3_1 o2_2 v57_2 x23 u7 u20) hI ?_ ?_
 ·rintro v64_3 o4_3 e h ⟨u26,k27,rfl,h_25⟩ hlt hw o ho
  unfold F184_3_B at ho;obtain⟨x29,gx29,ho⟩:=bS ho;obtain⟨w30a,w30b⟩:=qk gx29;have w30c:=za gx29;have w30d:List.drop (Int.toNat v64_3) (zo3_1.map enc)=(V.int .i64 x29)::List.drop ((Int.toNat v64_3)+1) (zo3_1.map enc):=jx w30b;obtain⟨x31,gx31,ho⟩:=bS ho;have wx31:=qz gx31;obtain⟨x32,gx32,ho⟩:=bS ho;obtain⟨w33a,w33b⟩:=qk gx32;obtain⟨x34,gx34,ho⟩:=bS ho;obtain⟨w35a,w35b⟩:=qk gx34;obtain⟨x36,gx36,ho⟩:=bS ho;obtain⟨w37a,w37b⟩:=qk gx36;obtain⟨l39,gl39,ho⟩:=bS ho;have w38:=fun a b c d e=> qA (α:=Int) (n:=o4_3.length) (m:=1) (ds:=[V.int .i64 x36]) gl39 (by first|rfl|simp) (by first|rfl|simp) rfl a b c d e;have w38l:=qM gl39;cases ho;simp only[simprocAttr,R0,b184_3, *];refine ai rfl (ei _ (ei _ (ai rfl ?_)));simp only[simprocAttr,R0, *]
 ·rintro v64_3 o4_3 e h ⟨u26,k27,rfl,h_25⟩ hge t1 ho
  unfold F184_3_D at ho;cases ho;simp only[simprocAttr,R0,b184_3, *];intro ht; subst ht;refine ai rfl (ei _ (ei _ (ai rfl ?_)));simp only[simprocAttr,R0, *]
def I184_2(a0:qd)(a2:Int)(x1:List Int)(zo3_1:List Int)(u7:Nat)(v57_2:Int)(o2_2:(List (List Int)))(e:Env)(h:Heap):Prop:=
 ∃u20 k21:Nat,h=⟨[(0,none),(1,some [V.int .i64 a0.Complex.Prime,V.isl (a0.Complex.Dims.map enc),V.isl (a0.Complex.Maps.map enc)]),(u20,some (o2_2.map enc)),(u7,some (zo3_1.map enc))],k21⟩∧e.length=127∧e.at 2=V.int .i64 a2∧e.at 9=V.ptr 1 1 0∧e.at 10=V.isl (x1.map enc)∧e.at 11=V.sl 2 u20 0 o2_2.length 1∧e.at 12=V.sl 3 u7 0 zo3_1.length 1∧e.at 55=V.isl (x1.map enc)∧e.at 56=V.int .i64 (x1.length:Int)∧e.at 57=V.int .i64 v57_2
def P184_2(a0:qd)(a2:Int)(x1:List Int)(zo3_1:List Int)(u7:Nat)(zo2_2:(List (List Int)))(x:Ex)(e:Env)(h:Heap):Prop:=
 x= .normal∧∃u20 k21:Nat,h=⟨[(0,none),(1,some [V.int .i64 a0.Complex.Prime,V.isl (a0.Complex.Dims.map enc),V.isl (a0.Complex.Maps.map enc)]),(u20,some (zo2_2.map enc)),(u7,some (zo3_1.map enc))],k21⟩∧e.length=127∧e.at 2=V.int .i64 a2∧e.at 9=V.ptr 1 1 0∧e.at 10=V.isl (x1.map enc)∧e.at 11=V.sl 2 u20 0 zo2_2.length 1
theorem l184_2(a0:qd)(a2:Int)(x1:List Int)(zo3_1:List Int)(u7:Nat){lo:Int}{s:(List (List Int))}{t:(List (List Int))}(hF:forR lo (x1.length:Int) (F184_2_B a0 a2 x1 zo3_1) (F184_2_D a0 a2 x1 zo3_1) s=some t){e:Env}{h:Heap}(hI:I184_2 a0 a2 x1 zo3_1 u7 lo s e h):W A c184_2 e h (P184_2 a0 a2 x1 zo3_1 u7 t):=by
 show W A (.block 2 (.loop false b184_2)) e h _;rw[qr];refine qD hF 4 (by obtain⟨_,_,rfl,_⟩:=hI; rfl) (I184_2 a0 a2 x1 zo3_1 u7) hI ?_ ?_
 ·rintro v57_2 o2_2 e h ⟨u20,k21,rfl,h_19⟩ hlt hw o ho
  unfold F184_2_B at ho;obtain⟨x23,gx23,ho⟩:=bS ho;obtain⟨w24a,w24b⟩:=qk gx23;obtain⟨zo4_3,gt40,ho⟩:=bS ho;simp only[simprocAttr,R0,b184_2, *];refine W.mono (l184_3 a0 a2 x1 zo3_1 o2_2 v57_2 x23 u7 u20 gt40 (ei _ (ei _ (ai rfl ?_)))) ?_
  ·simp only[simprocAttr,R0, *]
  rintro _ e _ ⟨rfl,u26,k27,rfl,h_28⟩;obtain⟨l42,gl42,ho⟩:=bS ho;have w41:=fun a b c d e=> qA (α:=List Int) (n:=o2_2.length) (m:=1) (ds:=[V.isl (zo4_3.map enc)]) gl42 (by first|rfl|simp) (by first|rfl|simp) rfl a b c d e;have w41l:=qM gl42;cases ho;simp only[simprocAttr,R0,qO (α:=Int) zo4_3, *];refine ai rfl (ei _ (ei _ (ai rfl ?_)));simp only[simprocAttr,R0,qO (α:=Int) zo4_3, *]
 ·rintro v57_2 o2_2 e h ⟨u20,k21,rfl,h_19⟩ hge t1 ho
  unfold F184_2_D at ho;cases ho;simp only[simprocAttr,R0,b184_2, *];intro ht; subst ht;refine ai rfl (ei _ (ei _ (ai rfl ?_)));simp only[simprocAttr,R0, *]
def I184_5(a0:qd)(a2:Int)(x1:List Int)(zo3_1:List Int)(x44:List (List Int))(o4_4:List (List Int))(v95_4:Int)(x50:List Int)(u7 u47:Nat)(v105_5:Int)(o5_5:(List Int))(e:Env)(h:Heap):Prop:=
 ∃u57 k58:Nat,h=⟨[(0,none),(1,some [V.int .i64 a0.Complex.Prime,V.isl (a0.Complex.Dims.map enc),V.isl (a0.Complex.Maps.map enc)]),(0,none),(u7,some (zo3_1.map enc)),(u47,some (o4_4.map enc)),(u57,some (o5_5.map enc))],k58⟩∧e.length=127∧e.at 2=V.int .i64 a2∧e.at 9=V.ptr 1 1 0∧e.at 10=V.isl (x1.map enc)∧e.at 19=V.sl 4 u47 0 o4_4.length 1∧e.at 21=V.isl (x50.map enc)∧e.at 22=V.sl 5 u57 0 o5_5.length 1∧e.at 93=V.isl (x44.map enc)∧e.at 94=V.int .i64 (x44.length:Int)∧e.at 95=V.int .i64 v95_4∧e.at 103=V.isl (x1.map enc)∧e.at 104=V.int .i64 (x1.length:Int)∧e.at 105=V.int .i64 v105_5
def P184_5(a0:qd)(a2:Int)(x1:List Int)(zo3_1:List Int)(x44:List (List Int))(o4_4:List (List Int))(v95_4:Int)(x50:List Int)(u7 u47:Nat)(zo5_5:(List Int))(x:Ex)(e:Env)(h:Heap):Prop:=
 x= .normal∧∃u57 k58:Nat,h=⟨[(0,none),(1,some [V.int .i64 a0.Complex.Prime,V.isl (a0.Complex.Dims.map enc),V.isl (a0.Complex.Maps.map enc)]),(0,none),(u7,some (zo3_1.map enc)),(u47,some (o4_4.map enc)),(u57,some (zo5_5.map enc))],k58⟩∧e.length=127∧e.at 2=V.int .i64 a2∧e.at 9=V.ptr 1 1 0∧e.at 10=V.isl (x1.map enc)∧e.at 19=V.sl 4 u47 0 o4_4.length 1∧e.at 22=V.sl 5 u57 0 zo5_5.length 1∧e.at 93=V.isl (x44.map enc)∧e.at 94=V.int .i64 (x44.length:Int)∧e.at 95=V.int .i64 v95_4
theorem l184_5(a0:qd)(a2:Int)(x1:List Int)(zo3_1:List Int)(x44:List (List Int))(o4_4:List (List Int))(v95_4:Int)(x50:List Int)(u7 u47:Nat){lo:Int}{s:(List Int)}{t:(List Int)}(hF:forR lo (x1.length:Int) (F184_5_B a0 a2 x1 zo3_1 x44 o4_4 v95_4 x50) (F184_5_D a0 a2 x1 zo3_1 x44 o4_4 v95_4 x50) s=some t){e:Env}{h:Heap}(hI:I184_5 a0 a2 x1 zo3_1 x44 o4_4 v95_4 x50 u7 u47 lo s e h):W A c184_5 e h (P184_5 a0 a2 x1 zo3_1 x44 o4_4 v95_4 x50 u7 u47 t):=by
 show W A (.block 8 (.loop false b184_5)) e h _;rw[qr];refine qD hF 6 (by obtain⟨_,_,rfl,_⟩:=hI; rfl) (I184_5 a0 a2 x1 zo3_1 x44 o4_4 v95_4 x50 u7 u47) hI ?_ ?_
 ·rintro v105_5 o5_5 e h ⟨u57,k58,rfl,h_56⟩ hlt hw o ho
  unfold F184_5_B at ho;obtain⟨x60,gx60,ho⟩:=bS ho;obtain⟨w61a,w61b⟩:=qk gx60;obtain⟨x62,gx62,ho⟩:=bS ho;obtain⟨w63a,w63b⟩:=qk gx62;obtain⟨x64,gx64,ho⟩:=bS ho;obtain⟨w65a,w65b⟩:=qk gx64;have w65c:=za gx64;have w65d:List.drop (Int.toNat x60) (o5_5.map enc)=(V.int .i64 x64)::List.drop ((Int.toNat x60)+1) (o5_5.map enc):=jx w65b;obtain⟨l66,gl66,ho⟩:=bS ho;obtain⟨w67a,w67b,w67c,w67d,w67e⟩:=jV gl66;replace w67e:List.take (Int.toNat x60) (o5_5.map enc)++[V.int .i64 x62]++List.drop (Int.toNat x60+1) (o5_5.map enc)=List.map enc l66:=w67e;cases ho;simp only[simprocAttr,R0,b184_5, *];refine ai rfl (ei _ (ei _ (ai rfl ?_)));simp only[simprocAttr,R0, *]
 ·rintro v105_5 o5_5 e h ⟨u57,k58,rfl,h_56⟩ hge t1 ho
  unfold F184_5_D at ho;cases ho;simp only[simprocAttr,R0,b184_5, *];intro ht; subst ht;refine ai rfl (ei _ (ei _ (ai rfl ?_)));simp only[simprocAttr,R0, *]
def I184_4(a0:qd)(a2:Int)(x1:List Int)(zo3_1:List Int)(x44:List (List Int))(u7:Nat)(v95_4:Int)(o4_4:(List (List Int)))(e:Env)(h:Heap):Prop:=
 ∃u47 k48:Nat,h=⟨[(0,none),(1,some [V.int .i64 a0.Complex.Prime,V.isl (a0.Complex.Dims.map enc),V.isl (a0.Complex.Maps.map enc)]),(0,none),(u7,some (zo3_1.map enc)),(u47,some (o4_4.map enc))],k48⟩∧e.length=127∧e.at 2=V.int .i64 a2∧e.at 9=V.ptr 1 1 0∧e.at 10=V.isl (x1.map enc)∧e.at 19=V.sl 4 u47 0 o4_4.length 1∧e.at 93=V.isl (x44.map enc)∧e.at 94=V.int .i64 (x44.length:Int)∧e.at 95=V.int .i64 v95_4
def P184_4(a0:qd)(a2:Int)(x1:List Int)(zo3_1:List Int)(x44:List (List Int))(u7:Nat)(zo4_4:(List (List Int)))(x:Ex)(e:Env)(h:Heap):Prop:=
 x= .normal∧∃u47 k48:Nat,h=⟨[(0,none),(1,some [V.int .i64 a0.Complex.Prime,V.isl (a0.Complex.Dims.map enc),V.isl (a0.Complex.Maps.map enc)]),(0,none),(u7,some (zo3_1.map enc)),(u47,some (zo4_4.map enc))],k48⟩∧e.length=127∧e.at 9=V.ptr 1 1 0∧e.at 19=V.sl 4 u47 0 zo4_4.length 1
theorem l184_4(a0:qd)(a2:Int)(x1:List Int)(zo3_1:List Int)(x44:List (List Int))(u7:Nat){lo:Int}{s:(List (List Int))}{t:(List (List Int))}(hF:forR lo (x44.length:Int) (F184_4_B a0 a2 x1 zo3_1 x44) (F184_4_D a0 a2 x1 zo3_1 x44) s=some t){e:Env}{h:Heap}(hI:I184_4 a0 a2 x1 zo3_1 x44 u7 lo s e h):W A c184_4 e h (P184_4 a0 a2 x1 zo3_1 x44 u7 t):=by
 show W A (.block 6 (.loop false b184_4)) e h _;rw[qr];refine qD hF 5 (by obtain⟨_,_,rfl,_⟩:=hI; rfl) (I184_4 a0 a2 x1 zo3_1 x44 u7) hI ?_ ?_
 ·rintro v95_4 o4_4 e h ⟨u47,k48,rfl,h_46⟩ hlt hw o ho
  unfold F184_4_B at ho;obtain⟨x50,gx50,ho⟩:=bS ho;obtain⟨w51a,w51b⟩:=qk gx50;obtain⟨x52,gx52,ho⟩:=bS ho;have w53:=s102 a0.Complex a2 gx52;obtain⟨l54,gl54,ho⟩:=bS ho;obtain⟨w55a,w55b,w55c,w55d,w55e⟩:=mkL_w gl54;replace w55e:(List.replicate (Int.toNat x52) [V.int .i64 0]).flatten=List.map enc l54:=w55e;obtain⟨zo5_5,gt68,ho⟩:=bS ho;simp only[simprocAttr, -Int.reduceNatCast',R0,b184_4, *];refine W.mono (l184_5 a0 a2 x1 zo3_1 x44 o4_4 v95_4 x50 u7 u47 gt68 (ei _ (ei _ (ai rfl ?_)))) ?_
  ·simp only[simprocAttr, -Int.reduceNatCast',R0, *]
  rintro _ e _ ⟨rfl,u57,k58,rfl,h_59⟩;obtain⟨l70,gl70,ho⟩:=bS ho;have w69:=fun a b c d e=> qA (α:=List Int) (n:=o4_4.length) (m:=1) (ds:=[V.isl (zo5_5.map enc)]) gl70 (by first|rfl|simp) (by first|rfl|simp) rfl a b c d e;have w69l:=qM gl70;cases ho;simp only[simprocAttr, -Int.reduceNatCast',R0,qO (α:=Int) zo5_5, *];refine ai rfl (ei _ (ei _ (ai rfl ?_)));simp only[simprocAttr, -Int.reduceNatCast',R0,qO (α:=Int) zo5_5, *]
 ·rintro v95_4 o4_4 e h ⟨u47,k48,rfl,h_46⟩ hge t1 ho
  unfold F184_4_D at ho;cases ho;simp only[simprocAttr, -Int.reduceNatCast',R0,b184_4, *];intro ht; subst ht;refine ai rfl (ei _ (ei _ (ai rfl ?_)));simp only[simprocAttr, -Int.reduceNatCast',R0, *]
theorem s184(a0:qd)(a1:Int)(a2:Int)(a3:Int){r:List (List Int)}(hF:F184 a0 a1 a2 a3=some r):ans A 184 [(eF a0),V.int .i64 a1,V.int .i64 a2,V.int .i64 a3]=some (enc r):=by
 refine qw (f:=p184) rfl rfl rfl fun e hl he=>?_;have h0_0:e.at 0=(eF a0):=he 0 _ rfl;have h1_0:e.at 1=V.int .i64 a1:=he 1 _ rfl;have h2_0:e.at 2=V.int .i64 a2:=he 2 _ rfl;have h3_0:e.at 3=V.int .i64 a3:=he 3 _ rfl;have hl_0:e.length=127:=hl;clear he hl;show W A b184 e ⟨[],0⟩ _;unfold F184 at hF;obtain⟨x1,gx1,hF⟩:=bS hF;have w2:=s202 a0 a2 a3 gx1;obtain⟨x3,gx3,hF⟩:=bS hF;have wx3:=qz gx3;obtain⟨x4,gx4,hF⟩:=bS hF;have w5:=s102 a0.Complex x3 gx4;obtain⟨zo3_1,gt18,hF⟩:=bS hF;simp only[simprocAttr, -Int.reduceNatCast',R0,b184, *];refine W.mono (l184_1 a0 a1 a2 a3 x1 x4 gt18 (ei _ (ei _ (ai rfl ?_)))) ?_
 ·simp only[simprocAttr, -Int.reduceNatCast',R0, *]
 rintro _ e _ ⟨rfl,u7,k8,rfl,hl_9,h2_9,h9_9,h10_9,h11_9,h12_9⟩;obtain⟨zo2_2,gt43,hF⟩:=bS hF;simp only[simprocAttr, -Int.reduceNatCast',R0, *];refine W.mono (l184_2 a0 a2 x1 zo3_1 u7 gt43 (ei _ (ei _ (ai rfl ?_)))) ?_
 ·simp only[simprocAttr, -Int.reduceNatCast',R0, *]
 rintro _ e _ ⟨rfl,u20,k21,rfl,hl_22,h2_22,h9_22,h10_22,h11_22⟩;obtain⟨x44,gx44,hF⟩:=bS hF;have w45:=s125 a0.Complex.Prime zo2_2 gx44;obtain⟨zo4_4,gt71,hF⟩:=bS hF;simp only[simprocAttr, -Int.reduceNatCast',R0,qO (α:=List Int) zo2_2, *];refine W.mono (l184_4 a0 a2 x1 zo3_1 x44 u7 gt71 (ei _ (ei _ (ai rfl ?_)))) ?_
 ·simp only[simprocAttr, -Int.reduceNatCast',R0,qO (α:=List Int) zo2_2, *]
 rintro _ e _ ⟨rfl,u47,k48,rfl,hl_49,h9_49,h19_49⟩;obtain⟨x72,gx72,hF⟩:=bS hF;have w73:tans A 133 [1] [V.int .i64 a0.Complex.Prime,V.isl (zo4_4.map enc)]=some (V.isl (x72.map enc)):=t133 a0.Complex.Prime zo4_4 gx72;have w73t:=zb (α:=List Int) x72;have hE:=wA hF; subst hE;simp only[simprocAttr, -Int.reduceNatCast',R0,qO (α:=List Int) zo4_4, *];exact qf (by simp only[simprocAttr, -Int.reduceNatCast',R0,qg,p184,Rs.ev,qc,qO (α:=List Int) zo4_4,frzs (α:=List Int) x72,qO (α:=List Int) x72, *])
theorem t184(a0:qd)(a1:Int)(a2:Int)(a3:Int){r:List (List Int)}(hF:F184 a0 a1 a2 a3=some r):tans A 184 [1] [(eF a0),V.int .i64 a1,V.int .i64 a2,V.int .i64 a3]=some (enc r):=by
 refine tans_of (f:=p184) rfl rfl rfl fun e hl he=>?_;have h0_0:e.at 0=(eF a0):=he 0 _ rfl;have h1_0:e.at 1=V.int .i64 a1:=he 1 _ rfl;have h2_0:e.at 2=V.int .i64 a2:=he 2 _ rfl;have h3_0:e.at 3=V.int .i64 a3:=he 3 _ rfl;have hl_0:e.length=127:=hl;clear he hl;show W A b184 e ⟨[],0⟩ _;unfold F184 at hF;obtain⟨x1,gx1,hF⟩:=bS hF;have w2:=s202 a0 a2 a3 gx1;obtain⟨x3,gx3,hF⟩:=bS hF;have wx3:=qz gx3;obtain⟨x4,gx4,hF⟩:=bS hF;have w5:=s102 a0.Complex x3 gx4;obtain⟨zo3_1,gt18,hF⟩:=bS hF;simp only[simprocAttr, -Int.reduceNatCast',R0,b184, *];refine W.mono (l184_1 a0 a1 a2 a3 x1 x4 gt18 (ei _ (ei _ (ai rfl ?_)))) ?_
 ·simp only[simprocAttr, -Int.reduceNatCast',R0, *]
 rintro _ e _ ⟨rfl,u7,k8,rfl,hl_9,h2_9,h9_9,h10_9,h11_9,h12_9⟩;obtain⟨zo2_2,gt43,hF⟩:=bS hF;simp only[simprocAttr, -Int.reduceNatCast',R0, *];refine W.mono (l184_2 a0 a2 x1 zo3_1 u7 gt43 (ei _ (ei _ (ai rfl ?_)))) ?_
 ·simp only[simprocAttr, -Int.reduceNatCast',R0, *]
 rintro _ e _ ⟨rfl,u20,k21,rfl,hl_22,h2_22,h9_22,h10_22,h11_22⟩;obtain⟨x44,gx44,hF⟩:=bS hF;have w45:=s125 a0.Complex.Prime zo2_2 gx44;obtain⟨zo4_4,gt71,hF⟩:=bS hF;simp only[simprocAttr, -Int.reduceNatCast',R0,qO (α:=List Int) zo2_2, *];refine W.mono (l184_4 a0 a2 x1 zo3_1 x44 u7 gt71 (ei _ (ei _ (ai rfl ?_)))) ?_
 ·simp only[simprocAttr, -Int.reduceNatCast',R0,qO (α:=List Int) zo2_2, *]
 rintro _ e _ ⟨rfl,u47,k48,rfl,hl_49,h9_49,h19_49⟩;obtain⟨x72,gx72,hF⟩:=bS hF;have w73:tans A 133 [1] [V.int .i64 a0.Complex.Prime,V.isl (zo4_4.map enc)]=some (V.isl (x72.map enc)):=t133 a0.Complex.Prime zo4_4 gx72;have w73t:=zb (α:=List Int) x72;have hE:=wA hF; subst hE;simp only[simprocAttr, -Int.reduceNatCast',R0,qO (α:=List Int) zo4_4, *];exact tfin_ret (by simp only[simprocAttr, -Int.reduceNatCast',R0,qg,p184,Rs.ev,qc,qO (α:=List Int) zo4_4,frzs (α:=List Int) x72,qO (α:=List Int) x72, *])
def F185_1_B(a0:qd)(a2:Int)(x8:List (List Int))(v30_1:Int)(o1_1:(List (List Int))):Option (((List (List Int)))⊕((List (List Int)))):=
 (getI x8 v30_1).bind fun x14=>
(chk (a2+1)).bind fun x16=>
(F91 a0.Complex x16 x14).bind fun x17=>
(app 24 o1_1 [x17]).bind fun l20=>
some (.inl l20)
def F185_1_D(a0:qd)(a2:Int)(x8:List (List Int))(v30_1:Int)(o1_1:(List (List Int))):Option ((List (List Int))):=
 some o1_1
def F185(a0:qd)(a1:Int)(a2:Int)(a3:Int):Option (List (List Int)):=
 (chk (a1 - 1)).bind fun x1=>
 (chk (a3 - 1)).bind fun x2=>
 (F184 a0 x1 a2 x2).bind fun x3=>
 (chk (a2+1)).bind fun x5=>
 (chk (a3+a1)).bind fun x6=>
 (chk (x6 - 1)).bind fun x7=>
 (F184 a0 x1 x5 x7).bind fun x8=>
 (forR 0 (x8.length:Int) (F185_1_B a0 a2 x8) (F185_1_D a0 a2 x8) x3).bind fun zo1_1=>
 (F133 a0.Complex.Prime zo1_1).bind fun x22=>
 some x22
def I185_1(a0:qd)(a2:Int)(x8:List (List Int))(v30_1:Int)(o1_1:(List (List Int)))(e:Env)(h:Heap):Prop:=
 ∃u11 k12:Nat,h=⟨[(0,none),(u11,some (o1_1.map enc))],k12⟩∧e.length=49∧e.at 2=V.int .i64 a2∧e.at 4=V.iptr [V.int .i64 a0.Complex.Prime,V.isl (a0.Complex.Dims.map enc),V.isl (a0.Complex.Maps.map enc),V.isl (a0.Levels.map enc)]∧e.at 9=V.sl 1 u11 0 o1_1.length 1∧e.at 28=V.isl (x8.map enc)∧e.at 29=V.int .i64 (x8.length:Int)∧e.at 30=V.int .i64 v30_1
def P185_1(a0:qd)(a2:Int)(x8:List (List Int))(zo1_1:(List (List Int)))(x:Ex)(e:Env)(h:Heap):Prop:=
 x= .normal∧∃u11 k12:Nat,h=⟨[(0,none),(u11,some (zo1_1.map enc))],k12⟩∧e.length=49∧e.at 4=V.iptr [V.int .i64 a0.Complex.Prime,V.isl (a0.Complex.Dims.map enc),V.isl (a0.Complex.Maps.map enc),V.isl (a0.Levels.map enc)]∧e.at 9=V.sl 1 u11 0 zo1_1.length 1
theorem l185_1(a0:qd)(a2:Int)(x8:List (List Int)){lo:Int}{s:(List (List Int))}{t:(List (List Int))}(hF:forR lo (x8.length:Int) (F185_1_B a0 a2 x8) (F185_1_D a0 a2 x8) s=some t){e:Env}{h:Heap}(hI:I185_1 a0 a2 x8 lo s e h):W A c185_1 e h (P185_1 a0 a2 x8 t):=by
 show W A (.block 0 (.loop false b185_1)) e h _;rw[qr];refine qD hF 2 (by obtain⟨_,_,rfl,_⟩:=hI; rfl) (I185_1 a0 a2 x8) hI ?_ ?_
 ·rintro v30_1 o1_1 e h ⟨u11,k12,rfl,h_10⟩ hlt hw o ho
  unfold F185_1_B at ho;obtain⟨x14,gx14,ho⟩:=bS ho;obtain⟨w15a,w15b⟩:=qk gx14;obtain⟨x16,gx16,ho⟩:=bS ho;have wx16:=qz gx16;obtain⟨x17,gx17,ho⟩:=bS ho;have w18:=s91 a0.Complex x16 x14 gx17;obtain⟨l20,gl20,ho⟩:=bS ho;have w19:=fun a b c d e=> qA (α:=List Int) (n:=o1_1.length) (m:=1) (ds:=[V.isl (x17.map enc)]) gl20 (by first|rfl|simp) (by first|rfl|simp) rfl a b c d e;have w19l:=qM gl20;cases ho;simp only[simprocAttr,R0,b185_1, *];refine ai rfl (ei _ (ei _ (ai rfl ?_)));simp only[simprocAttr,R0, *]
 ·rintro v30_1 o1_1 e h ⟨u11,k12,rfl,h_10⟩ hge t1 ho
  unfold F185_1_D at ho;cases ho;simp only[simprocAttr,R0,b185_1, *];intro ht; subst ht;refine ai rfl (ei _ (ei _ (ai rfl ?_)));simp only[simprocAttr,R0, *]
theorem s185(a0:qd)(a1:Int)(a2:Int)(a3:Int){r:List (List Int)}(hF:F185 a0 a1 a2 a3=some r):ans A 185 [(eF a0),V.int .i64 a1,V.int .i64 a2,V.int .i64 a3]=some (enc r):=by
 refine qw (f:=p185) rfl rfl rfl fun e hl he=>?_;have h0_0:e.at 0=(eF a0):=he 0 _ rfl;have h1_0:e.at 1=V.int .i64 a1:=he 1 _ rfl;have h2_0:e.at 2=V.int .i64 a2:=he 2 _ rfl;have h3_0:e.at 3=V.int .i64 a3:=he 3 _ rfl;have hl_0:e.length=49:=hl;clear he hl;show W A b185 e ⟨[],0⟩ _;unfold F185 at hF;obtain⟨x1,gx1,hF⟩:=bS hF;have wx1:=qz gx1;obtain⟨x2,gx2,hF⟩:=bS hF;have wx2:=qz gx2;obtain⟨x3,gx3,hF⟩:=bS hF;have w4:tans A 184 [1] [(eF a0),V.int .i64 x1,V.int .i64 a2,V.int .i64 x2]=some (V.isl (x3.map enc)):=t184 a0 x1 a2 x2 gx3;have w4t:=zb (α:=List Int) x3;obtain⟨x5,gx5,hF⟩:=bS hF;have wx5:=qz gx5;obtain⟨x6,gx6,hF⟩:=bS hF;have wx6:=qz gx6;obtain⟨x7,gx7,hF⟩:=bS hF;have wx7:=qz gx7;obtain⟨x8,gx8,hF⟩:=bS hF;have w9:=s184 a0 x1 x5 x7 gx8;obtain⟨zo1_1,gt21,hF⟩:=bS hF;simp only[simprocAttr,R0,b185, *];refine W.mono (l185_1 a0 a2 x8 gt21 (ei _ (ei _ (ai rfl ?_)))) ?_
 ·simp only[simprocAttr,R0, *]
 rintro _ e _ ⟨rfl,u11,k12,rfl,h_13⟩;obtain⟨x22,gx22,hF⟩:=bS hF;have w23:=s133 a0.Complex.Prime zo1_1 gx22;cases hF;simp only[simprocAttr,R0,qO (α:=List Int) zo1_1, *];exact qf (by simp only[simprocAttr,R0,qg,p185,Rs.ev,qc,qO (α:=List Int) zo1_1, *])
def F169(a0:qd)(a1:Int)(a2:Int)(a3:Int):Option Int:=
 (F184 a0 a1 a2 a3).bind fun x1=>
 (F185 a0 a1 a2 a3).bind fun x5=>
 (chk ((x1.length:Int) - (x5.length:Int))).bind fun x9=>
 some x9
theorem s169(a0:qd)(a1:Int)(a2:Int)(a3:Int){r:Int}(hF:F169 a0 a1 a2 a3=some r):ans A 169 [(eF a0),V.int .i64 a1,V.int .i64 a2,V.int .i64 a3]=some (enc r):=by
 refine qw (f:=p169) rfl rfl rfl fun e hl he=>?_;have h0_0:e.at 0=(eF a0):=he 0 _ rfl;have h1_0:e.at 1=V.int .i64 a1:=he 1 _ rfl;have h2_0:e.at 2=V.int .i64 a2:=he 2 _ rfl;have h3_0:e.at 3=V.int .i64 a3:=he 3 _ rfl;have hl_0:e.length=22:=hl;clear he hl;show W A b169 e ⟨[],0⟩ _;unfold F169 at hF;obtain⟨x1,gx1,hF⟩:=bS hF;have w2:=s184 a0 a1 a2 a3 gx1;have w4:=s89 x1 rfl;obtain⟨x5,gx5,hF⟩:=bS hF;have w6:=s185 a0 a1 a2 a3 gx5;have w8:=s89 x5 rfl;obtain⟨x9,gx9,hF⟩:=bS hF;have wx9:=qz gx9;cases hF;simp only[simprocAttr,R0,b169, *];exact qf (by simp only[simprocAttr,R0,qg,p169,Rs.ev,qc, *])
def F151(a0:qd)(a1:Int)(a2:Int)(a3:Int):Option (T2 Int Int):=
 (F166 a0 a1 a2 a3).bind fun x1=>
 if x1=0 then
  (F169 a0 a1 a2 a3).bind fun x4=>
  some ⟨x4,0⟩
 else
  some ⟨0,x1⟩
theorem s151(a0:qd)(a1:Int)(a2:Int)(a3:Int){r:T2 Int Int}(hF:F151 a0 a1 a2 a3=some r):ans A 151 [(eF a0),V.int .i64 a1,V.int .i64 a2,V.int .i64 a3]=some (EncR.enc r):=by
 refine qw (f:=p151) rfl rfl rfl fun e hl he=>?_;have h0_0:e.at 0=(eF a0):=he 0 _ rfl;have h1_0:e.at 1=V.int .i64 a1:=he 1 _ rfl;have h2_0:e.at 2=V.int .i64 a2:=he 2 _ rfl;have h3_0:e.at 3=V.int .i64 a3:=he 3 _ rfl;have hl_0:e.length=24:=hl;clear he hl;have h_0:=ai hl_0 (ai h0_0 (ai h1_0 (ai h2_0 h3_0)));show W A b151 e ⟨[],0⟩ _;unfold F151 at hF;obtain⟨x1,gx1,hF⟩:=bS hF;have w2:=s166 a0 a1 a2 a3 gx1;by_cases c3:x1=0
 ·rw[if_pos c3]at hF
  obtain⟨x4,gx4,hF⟩:=bS hF;have w5:=s169 a0 a1 a2 a3 gx4;cases hF;simp only[simprocAttr,R0,b151, *];exact qf (by simp only[simprocAttr,R0,qg,p151,Rs.ev,qc, *])
 ·rw[if_neg c3]at hF
  cases hF;simp only[simprocAttr,R0,b151, *];exact qf (by simp only[simprocAttr,R0,qg,p151,Rs.ev,qc, *])
def F123(a0:Int):Option Bool:=
 some (!(decide (a0=0)))
theorem s123(a0:Int){r:Bool}(hF:F123 a0=some r):ans A 123 [V.int .i64 a0]=some (enc r):=by
 refine qw (f:=p123) rfl rfl rfl fun e hl he=>?_;have h0_0:e.at 0=V.int .i64 a0:=he 0 _ rfl;have hl_0:e.length=5:=hl;clear he hl;show W A b123 e ⟨[],0⟩ _;unfold F123 at hF;cases hF;simp only[simprocAttr,R0,b123, *];exact qf (by simp only[simprocAttr,R0,qg,p123,Rs.ev,qc, *])
def F101_1_B(a0:List (List Int))(v9_1:Int)(o0_1:(List Int)):Option (((List Int))⊕((List Int))):=
 (getI a0 v9_1).bind fun x5=>
(F115 x5 (fun x=> F123 x)).bind fun x7=>
(app 8 o0_1 [x7]).bind fun l10=>
some (.inl l10)
def F101_1_D(a0:List (List Int))(v9_1:Int)(o0_1:(List Int)):Option ((List Int)):=
 some o0_1
def F101(a0:List (List Int)):Option (List Int):=
 (forR 0 (a0.length:Int) (F101_1_B a0) (F101_1_D a0) ([]:(List Int))).bind fun zo0_1=>
 some zo0_1
def I101_1(a0:List (List Int))(v9_1:Int)(o0_1:(List Int))(e:Env)(h:Heap):Prop:=
 ∃u2 k3:Nat,h=⟨[(u2,some (o0_1.map enc))],k3⟩∧e.length=20∧e.at 3=V.sl 0 u2 0 o0_1.length 1∧e.at 7=V.isl (a0.map enc)∧e.at 8=V.int .i64 (a0.length:Int)∧e.at 9=V.int .i64 v9_1
def P101_1(a0:List (List Int))(zo0_1:(List Int))(x:Ex)(e:Env)(h:Heap):Prop:=
 x= .normal∧∃u2 k3:Nat,h=⟨[(u2,some (zo0_1.map enc))],k3⟩∧e.length=20∧e.at 3=V.sl 0 u2 0 zo0_1.length 1
theorem l101_1(a0:List (List Int)){lo:Int}{s:(List Int)}{t:(List Int)}(hF:forR lo (a0.length:Int) (F101_1_B a0) (F101_1_D a0) s=some t){e:Env}{h:Heap}(hI:I101_1 a0 lo s e h):W A c101_1 e h (P101_1 a0 t):=by
 show W A (.block 0 (.loop false b101_1)) e h _;rw[qr];refine qD hF 1 (by obtain⟨_,_,rfl,_⟩:=hI; rfl) (I101_1 a0) hI ?_ ?_
 ·rintro v9_1 o0_1 e h ⟨u2,k3,rfl,h_1⟩ hlt hw o ho
  unfold F101_1_B at ho;obtain⟨x5,gx5,ho⟩:=bS ho;obtain⟨w6a,w6b⟩:=qk gx5;obtain⟨x7,gx7,ho⟩:=bS ho;have w8:ans A 115 [V.isl (x5.map enc),V.fn 123 [] []]=some (V.int .i64 x7):=s115 x5 (fun x=> F123 x) (Clo1.of (by intro h f; simp only[RZ,mapO]) (by intro h f; simp only[RZ,mapO]) (by intro f; simp only[RZ,RB]) (by intro f; simp only[RZ,RB]) (fun x _ hr=> s123 x hr)) gx7;obtain⟨l10,gl10,ho⟩:=bS ho;have w9:=fun a b c d e=> qA (α:=Int) (n:=o0_1.length) (m:=1) (ds:=[V.int .i64 x7]) gl10 (by first|rfl|simp) (by first|rfl|simp) rfl a b c d e;have w9l:=qM gl10;cases ho;simp only[simprocAttr,R0,b101_1, *];refine ai rfl (ei _ (ei _ (ai rfl ?_)));simp only[simprocAttr,R0, *]
 ·rintro v9_1 o0_1 e h ⟨u2,k3,rfl,h_1⟩ hge t1 ho
  unfold F101_1_D at ho;cases ho;simp only[simprocAttr,R0,b101_1, *];intro ht; subst ht;refine ai rfl (ei _ (ei _ (ai rfl ?_)));simp only[simprocAttr,R0, *]
theorem s101(a0:List (List Int)){r:List Int}(hF:F101 a0=some r):ans A 101 [V.isl (a0.map enc)]=some (enc r):=by
 refine qw (f:=p101) rfl rfl rfl fun e hl he=>?_;have h0_0:e.at 0=V.isl (a0.map enc):=he 0 _ rfl;have hl_0:e.length=20:=hl;clear he hl;show W A b101 e ⟨[],0⟩ _;unfold F101 at hF;obtain⟨zo0_1,gt11,hF⟩:=bS hF;simp only[simprocAttr, -Int.reduceNatCast',R0,b101, *];refine W.mono (l101_1 a0 gt11 (ei _ (ei _ (ai rfl ?_)))) ?_
 ·simp only[simprocAttr, -Int.reduceNatCast',R0, *]
 rintro _ e _ ⟨rfl,u2,k3,rfl,hl_4,h3_4⟩;have hE:=wA hF; subst hE;simp only[simprocAttr, -Int.reduceNatCast',R0, *];exact qf (by simp only[simprocAttr, -Int.reduceNatCast',R0,qg,p101,Rs.ev,qc,frzs (α:=Int) zo0_1,qO (α:=Int) zo0_1, *])
def F205_1_B(p:Int)(rows:List (List Int))(ls:List Int)(i:Int)(out:List Int):Option (List Int⊕List Int):=(getI ls i).bind fun a=>(getI rows i).bind fun r=>(getI out a).bind fun x=>(F139 out r p x).bind fun o=> some (.inl o)
def F205_1_D(i:Int)(out:List Int):Option (List Int):=some out
def F205(p:Int)(v:List Int)(rows:List (List Int)):Option (List Int):=(F96 v).bind fun d=>(F101 rows).bind fun ls=> forR 0 (ls.length:Int) (F205_1_B p rows ls) F205_1_D d
theorem d205(p:Int)(v:List Int)(rows:List (List Int)){r:List Int}(hF:F205 p v rows=some r):∃w h',res A 205 [V.int .i64 p,V.isl (v.map enc),V.isl (rows.map enc)] Heap.empty=some (w,h')∧∃K,Deep.rep h' w r K:=by
 refine jW (f:=p205) rfl rfl rfl fun e hl he=>?_;have h0_0:e.at 0=V.int .i64 p:=he 0 _ rfl;have h1_0:e.at 1=V.isl (v.map enc):=he 1 _ rfl;have h2_0:e.at 2=V.isl (rows.map enc):=he 2 _ rfl;have hl_0:e.length=33:=hl;clear he hl;show W A b205 e ⟨[],0⟩ _;unfold F205 at hF;obtain⟨d,gd,hF⟩:=bS hF;have wd:=t96 v gd;obtain⟨ls,gls,hF⟩:=bS hF;have wls:ans A 101 [V.isl (rows.map enc)]=some (V.isl (ls.map enc)):=s101 rows gls;simp only[simprocAttr,R1,b205,qE,zb, *];show W A (.block 0 (.loop true b205_1)) _ _ _;rw[qr];refine qD hF _ rfl (fun i q e h=>∃k u,h.ents[k]? =some (u,some (q.map enc))∧e.length=33∧e.at 0=V.int .i64 p∧e.at 2=V.isl (rows.map enc)∧e.at 7=V.sl k u 0 q.length 1∧e.at 13=V.isl (ls.map enc)∧e.at 14=V.int .i64 (ls.length:Int)∧e.at 15=V.int .i64 i) ?_ ?_ ?_
 ·refine⟨0,0,rfl,?_⟩
  simp only[simprocAttr,R1, *]
 ·clear hl_0 h0_0 h1_0 h2_0
  rintro i q e ⟨E,c⟩ ⟨k,u,g1,h_1⟩ hlt hw s' ho;unfold F205_1_B at ho;simp only at g1;obtain⟨a,ga,ho⟩:=bS ho;obtain⟨aa,ab⟩:=qk ga;obtain⟨x,gx,ho⟩:=bS ho;obtain⟨xa,xb⟩:=qk gx;obtain⟨y,gy,ho⟩:=bS ho;obtain⟨ya,yb⟩:=qk gy;have yc:=za gy;obtain⟨o,go,ho⟩:=bS ho;cases ho;obtain⟨w1,w2⟩:=i139 go E c g1;have oy:zd none (List.drop a.toNat (q.map enc))=some (V.int .i64 y):=qC (by rw[List.getElem?_map,yb]; rfl);simp only[simprocAttr,R1,b205_1,aa,ab,xa,xb,ya,eq_true yc,oy,zk, *];refine ai rfl ⟨k,u,qp (List.getElem?_eq_some_iff.1 g1).1,?_⟩;simp only[simprocAttr,R1, *]
 ·clear hl_0 h0_0 h1_0 h2_0
  rintro i q e ⟨E,c⟩ ⟨k,u,g1,h_1⟩ hge t1 ho;unfold F205_1_D at ho;cases ho;simp only at g1;simp only[simprocAttr,R1,b205_1, *];intro ht; subst ht;refine ai (fun _=> trivial) ⟨_,?_,fun x=> x=k,jq (l:=q) g1 fun x=> yE⟩;simp only[simprocAttr,R1,qg,p205,Rs.ev, *]
theorem s205(p:Int)(v:List Int)(rows:List (List Int)){r:List Int}(hF:F205 p v rows=some r):ans A 205 [V.int .i64 p,V.isl (v.map enc),V.isl (rows.map enc)]=some (enc r):=xI (α:=List Int) (by decide) (d205 p v rows hF)
def F204_1_B(a0:Int)(a1:List (List Int))(a2:List (List Int))(v13_1:Int)(o0_1:(List (List Int))):Option (((List (List Int)))⊕((List (List Int)))):=
 (getI a1 v13_1).bind fun x5=>
(F205 a0 x5 a2).bind fun x7=>
(app 24 o0_1 [x7]).bind fun l10=>
some (.inl l10)
def F204_1_D(a0:Int)(a1:List (List Int))(a2:List (List Int))(v13_1:Int)(o0_1:(List (List Int))):Option ((List (List Int))):=
 some o0_1
def F204(a0:Int)(a1:List (List Int))(a2:List (List Int)):Option (List (List Int)):=
 (forR 0 (a1.length:Int) (F204_1_B a0 a1 a2) (F204_1_D a0 a1 a2) ([]:(List (List Int)))).bind fun zo0_1=>
 (F133 a0 zo0_1).bind fun x12=>
 some x12
theorem d204(a0:Int)(a1:List (List Int))(a2:List (List Int)){r:List (List Int)}(hF:F204 a0 a1 a2=some r):∃v h',res A 204 [V.int .i64 a0,V.isl (a1.map enc),V.isl (a2.map enc)] Heap.empty=some (v,h')∧∃K,Deep.rep h' v r K:=by
 refine jW (f:=p204) rfl rfl rfl fun e hl he=>?_;have h0_0:e.at 0=V.int .i64 a0:=he 0 _ rfl;have h1_0:e.at 1=V.isl (a1.map enc):=he 1 _ rfl;have h2_0:e.at 2=V.isl (a2.map enc):=he 2 _ rfl;have hl_0:e.length=28:=hl;clear he hl;show W A b204 e ⟨[],0⟩ _;unfold F204 at hF;obtain⟨l,gl,hF⟩:=bS hF;obtain⟨x12,gx12,hF⟩:=bS hF;have hE:=wA hF; subst hE;have w13:tans A 133 [1,1] [V.int .i64 a0,V.isl (l.map enc)]=some (V.isl (x12.map enc)):=x133 a0 l gx12;simp only[simprocAttr, -Int.reduceNatCast',R0,b204, *];show W A (.block 0 (.loop false b204_1)) _ _ _;rw[qr];refine qD gl 1 rfl (fun i s e h=>∃u k:Nat,h=⟨[(u,some (s.map enc))],k⟩∧e.length=28∧e.at 0=V.int .i64 a0∧e.at 2=V.isl (a2.map enc)∧e.at 7=V.sl 0 u 0 s.length 1∧e.at 11=V.isl (a1.map enc)∧e.at 12=V.int .i64 (a1.length:Int)∧e.at 13=V.int .i64 i) ?_ ?_ ?_
 ·refine⟨_,_,rfl,?_⟩
  simp only[simprocAttr, -Int.reduceNatCast',R0, *]
 ·clear hl_0 h0_0 h1_0 h2_0
  rintro i s e h ⟨u,k,rfl,hl_1,h0_1,h2_1,h7_1,h11_1,h12_1,h13_1⟩ hlt hw o ho;unfold F204_1_B at ho;obtain⟨x5,gx5,ho⟩:=bS ho;obtain⟨w6a,w6b⟩:=qk gx5;obtain⟨x7,gx7,ho⟩:=bS ho;have w8:=s205 a0 x5 a2 gx7;obtain⟨l10,gl10,ho⟩:=bS ho;have w9:=fun ents key uid clk he=> qA (α:=List Int) (n:=s.length) (m:=1) (ds:=[V.isl (x7.map enc)]) gl10 (by first|rfl|simp only[vD]) (by first|rfl|simp only[vD]) rfl ents key uid clk he;have w9l:=qM gl10;have hE:=wA ho; subst hE;simp only[simprocAttr, -Int.reduceNatCast',R0,b204_1, *];refine ai rfl (ei _ (ei _ (ai rfl ?_)));simp only[simprocAttr, -Int.reduceNatCast',R0, *]
 ·clear hl_0 h0_0 h1_0 h2_0
  rintro i s e h ⟨u,k,rfl,hl_1,h0_1,h2_1,h7_1,h11_1,h12_1,h13_1⟩ hge t1 ho;unfold F204_1_D at ho;have hE:=wA ho; subst hE;simp only[simprocAttr, -Int.reduceNatCast',R0,b204_1, *];intro ht; subst ht;obtain⟨v,⟨E1,c1⟩,K,t1,t2,t3,t4,t5⟩:=thawD (α:=List (List Int)) (by decide) x12 ⟨[(u,some (s.map enc))],k⟩;have t1':thaw 16 [1,1] (V.isl (x12.map enc)) ⟨[(u,some (s.map enc))],k⟩=some (v,⟨E1,c1⟩):=t1;have wbr:bare 16 [1,1] (V.isl (x12.map enc))=true:=Deep.br (α:=List (List Int)) x12 10 [];simp only[simprocAttr, -Int.reduceNatCast',R0,frzs (α:=List Int) s,qO (α:=List Int) s,qE,t1', *];refine ai (fun _=> trivial) ⟨v,?_,K,t2⟩;simp only[simprocAttr, -Int.reduceNatCast',R0,qg,p204,Rs.ev, *]
theorem x204(a0:Int)(a1:List (List Int))(a2:List (List Int)){r:List (List Int)}(hF:F204 a0 a1 a2=some r):tans A 204 [1,1] [V.int .i64 a0,V.isl (a1.map enc),V.isl (a2.map enc)]=some (enc r):=zK (α:=List (List Int)) (by decide) (d204 a0 a1 a2 hF)
def F187(a0:qd)(a1:Int)(a2:Int)(a3:Int):Option (List (List Int)):=
 (F184 a0 a1 a2 a3).bind fun x1=>
 (F185 a0 a1 a2 a3).bind fun x3=>
 (F204 a0.Complex.Prime x1 x3).bind fun x5=>
 some x5
theorem d187(a0:qd)(a1 a2 a3:Int){r:List (List Int)}(hF:F187 a0 a1 a2 a3=some r):∃v h',res A 187 [(eF a0),V.int .i64 a1,V.int .i64 a2,V.int .i64 a3] Heap.empty=some (v,h')∧∃K,Deep.rep h' v r K:=by
 refine jW (f:=p187) rfl rfl rfl fun e hl he=>?_;have h0_0:e.at 0=(eF a0):=he 0 _ rfl;have h1_0:e.at 1=V.int .i64 a1:=he 1 _ rfl;have h2_0:e.at 2=V.int .i64 a2:=he 2 _ rfl;have h3_0:e.at 3=V.int .i64 a3:=he 3 _ rfl;have hl_0:e.length=23:=hl;clear he hl;show W A b187 e ⟨[],0⟩ _;unfold F187 at hF;obtain⟨x1,gx1,hF⟩:=bS hF;have w2:=s184 a0 a1 a2 a3 gx1;obtain⟨x3,gx3,hF⟩:=bS hF;have w4:=s185 a0 a1 a2 a3 gx3;obtain⟨x5,gx5,hF⟩:=bS hF;have w6:tans A 204 [1,1] [V.int .i64 a0.Complex.Prime,V.isl (x1.map enc),V.isl (x3.map enc)]=some (V.isl (x5.map enc)):=x204 a0.Complex.Prime x1 x3 gx5;have hE:=wA hF; subst hE;obtain⟨v,⟨E1,c1⟩,K,t1,t2,t3,t4,t5⟩:=thawD (α:=List (List Int)) (by decide) x5 ⟨[(0,none)],1⟩;have t1':thaw 16 [1,1] (V.isl (x5.map enc)) ⟨[(0,none)],1⟩=some (v,⟨E1,c1⟩):=t1;simp only[simprocAttr, -Int.reduceNatCast',R0,b187,qE,t1', *];refine ai (fun _=> trivial) ⟨v,?_,K,t2⟩;simp only[simprocAttr, -Int.reduceNatCast',R0,qg,p187,Rs.ev, *]
theorem x187(a0:qd)(a1 a2 a3:Int){r:List (List Int)}(hF:F187 a0 a1 a2 a3=some r):tans A 187 [1,1] [(eF a0),V.int .i64 a1,V.int .i64 a2,V.int .i64 a3]=some (enc r):=zK (α:=List (List Int)) (by decide) (d187 a0 a1 a2 a3 hF)
theorem s187(a0:qd)(a1 a2 a3:Int){r:List (List Int)}(hF:F187 a0 a1 a2 a3=some r):ans A 187 [(eF a0),V.int .i64 a1,V.int .i64 a2,V.int .i64 a3]=some (enc r):=xI (α:=List (List Int)) (by decide) (d187 a0 a1 a2 a3 hF)
def F188_1_B(x1:List Int)(x3:List Int)(v20_1:Int)(o0_1:(List Int)):Option (((List Int))⊕((List Int))):=
 (getI x3 v20_1).bind fun x9=>
(getI x1 x9).bind fun x11=>
(app 8 o0_1 [x11]).bind fun l14=>
some (.inl l14)
def F188_1_D(x1:List Int)(x3:List Int)(v20_1:Int)(o0_1:(List Int)):Option ((List Int)):=
 some o0_1
def F188(a0:Int)(a1:List Int)(a2:List (List Int))(a3:List (List Int)):Option (List Int):=
 (F205 a0 a1 a3).bind fun x1=>
 (F101 a2).bind fun x3=>
 (forR 0 (x3.length:Int) (F188_1_B x1 x3) (F188_1_D x1 x3) ([]:(List Int))).bind fun zo0_1=>
 some zo0_1
def I188_1(x1:List Int)(x3:List Int)(v20_1:Int)(o0_1:(List Int))(e:Env)(h:Heap):Prop:=
 ∃u6 k7:Nat,h=⟨[(u6,some (o0_1.map enc))],k7⟩∧e.length=33∧e.at 1=V.isl (x1.map enc)∧e.at 9=V.sl 0 u6 0 o0_1.length 1∧e.at 18=V.isl (x3.map enc)∧e.at 19=V.int .i64 (x3.length:Int)∧e.at 20=V.int .i64 v20_1
def P188_1(x1:List Int)(x3:List Int)(zo0_1:(List Int))(x:Ex)(e:Env)(h:Heap):Prop:=
 x= .normal∧∃u6 k7:Nat,h=⟨[(u6,some (zo0_1.map enc))],k7⟩∧e.length=33∧e.at 9=V.sl 0 u6 0 zo0_1.length 1
theorem l188_1(x1:List Int)(x3:List Int){lo:Int}{s:(List Int)}{t:(List Int)}(hF:forR lo (x3.length:Int) (F188_1_B x1 x3) (F188_1_D x1 x3) s=some t){e:Env}{h:Heap}(hI:I188_1 x1 x3 lo s e h):W A c188_1 e h (P188_1 x1 x3 t):=by
 show W A (.block 0 (.loop false b188_1)) e h _;rw[qr];refine qD hF 1 (by obtain⟨_,_,rfl,_⟩:=hI; rfl) (I188_1 x1 x3) hI ?_ ?_
 ·rintro v20_1 o0_1 e h ⟨u6,k7,rfl,h_5⟩ hlt hw o ho
  unfold F188_1_B at ho;obtain⟨x9,gx9,ho⟩:=bS ho;obtain⟨w10a,w10b⟩:=qk gx9;obtain⟨x11,gx11,ho⟩:=bS ho;obtain⟨w12a,w12b⟩:=qk gx11;obtain⟨l14,gl14,ho⟩:=bS ho;have w13:=fun a b c d e=> qA (α:=Int) (n:=o0_1.length) (m:=1) (ds:=[V.int .i64 x11]) gl14 (by first|rfl|simp) (by first|rfl|simp) rfl a b c d e;have w13l:=qM gl14;cases ho;simp only[simprocAttr,R0,b188_1, *];refine ai rfl (ei _ (ei _ (ai rfl ?_)));simp only[simprocAttr,R0, *]
 ·rintro v20_1 o0_1 e h ⟨u6,k7,rfl,h_5⟩ hge t1 ho
  unfold F188_1_D at ho;cases ho;simp only[simprocAttr,R0,b188_1, *];intro ht; subst ht;refine ai rfl (ei _ (ei _ (ai rfl ?_)));simp only[simprocAttr,R0, *]
theorem t188(a0:Int)(a1:List Int)(a2:List (List Int))(a3:List (List Int)){r:List Int}(hF:F188 a0 a1 a2 a3=some r):tans A 188 [1] [V.int .i64 a0,V.isl (a1.map enc),V.isl (a2.map enc),V.isl (a3.map enc)]=some (enc r):=by
 refine tans_of (f:=p188) rfl rfl rfl fun e hl he=>?_;have h0_0:e.at 0=V.int .i64 a0:=he 0 _ rfl;have h1_0:e.at 1=V.isl (a1.map enc):=he 1 _ rfl;have h2_0:e.at 2=V.isl (a2.map enc):=he 2 _ rfl;have h3_0:e.at 3=V.isl (a3.map enc):=he 3 _ rfl;have hl_0:e.length=33:=hl;clear he hl;show W A b188 e ⟨[],0⟩ _;unfold F188 at hF;obtain⟨x1,gx1,hF⟩:=bS hF;have w2:=s205 a0 a1 a3 gx1;obtain⟨x3,gx3,hF⟩:=bS hF;have w4:=s101 a2 gx3;obtain⟨zo0_1,gt15,hF⟩:=bS hF;simp only[simprocAttr, -Int.reduceNatCast',R0,b188, *];refine W.mono (l188_1 x1 x3 gt15 (ei _ (ei _ (ai rfl ?_)))) ?_
 ·simp only[simprocAttr, -Int.reduceNatCast',R0, *]
 rintro _ e _ ⟨rfl,u6,k7,rfl,hl_8,h9_8⟩;have hE:=wA hF; subst hE;simp only[simprocAttr, -Int.reduceNatCast',R0, *];exact tfin_ret (by simp only[simprocAttr, -Int.reduceNatCast',R0,qg,p188,Rs.ev,qc,frzs (α:=Int) zo0_1,qO (α:=Int) zo0_1, *])
def F170_1_B(a0:qd)(a1:Int)(a2:Int)(a3:Int)(x1:List (List Int))(v23_1:Int)(o1_1:(List (List Int))):Option (((List (List Int)))⊕((List (List Int)))):=
 (getI x1 v23_1).bind fun x7=>
if 0 < a2 then
 if a1≤a3 then
  (F91 a0.Complex a2 x7).bind fun x11=>
  (chk (a2 - 1)).bind fun x13=>
  (chk (a3 - a1)).bind fun x14=>
  (F187 a0 a1 x13 x14).bind fun x15=>
  (F185 a0 a1 x13 x14).bind fun x17=>
  (F188 a0.Complex.Prime x11 x15 x17).bind fun x19=>
  (app 24 o1_1 [x19]).bind fun l22=>
  some (.inl l22)
 else
  (app 24 o1_1 ([([]:List Int)])).bind fun l24=>
  some (.inl l24)
else
 (app 24 o1_1 ([([]:List Int)])).bind fun l26=>
 some (.inl l26)
def F170_1_D(a0:qd)(a1:Int)(a2:Int)(a3:Int)(x1:List (List Int))(v23_1:Int)(o1_1:(List (List Int))):Option ((List (List Int))):=
 some o1_1
def F170(a0:qd)(a1:Int)(a2:Int)(a3:Int):Option (List (List Int)):=
 (F187 a0 a1 a2 a3).bind fun x1=>
 (forR 0 (x1.length:Int) (F170_1_B a0 a1 a2 a3 x1) (F170_1_D a0 a1 a2 a3 x1) ([]:(List (List Int)))).bind fun zo1_1=>
 some zo1_1
set_option maxHeartbeats 8000000 in
theorem d170(a0:qd)(a1 a2 a3:Int){r:List (List Int)}(hF:F170 a0 a1 a2 a3=some r):∃v h',res A 170 [(eF a0),V.int .i64 a1,V.int .i64 a2,V.int .i64 a3] Heap.empty=some (v,h')∧∃K,Deep.rep h' v r K:=by
 refine jW (f:=p170) rfl rfl rfl fun e hl he=>?_;have h0_0:e.at 0=(eF a0):=he 0 _ rfl;have h1_0:e.at 1=V.int .i64 a1:=he 1 _ rfl;have h2_0:e.at 2=V.int .i64 a2:=he 2 _ rfl;have h3_0:e.at 3=V.int .i64 a3:=he 3 _ rfl;have hl_0:e.length=64:=hl;clear he hl;show W A b170 e ⟨[],0⟩ _;unfold F170 at hF;obtain⟨x1,gx1,hF⟩:=bS hF;have w2:=s187 a0 a1 a2 a3 gx1;obtain⟨t,gt,hF⟩:=bS hF;cases hF;simp only[simprocAttr,R0,b170, *];show W A (.block 0 (.loop true b170_1)) _ _ _;rw[qr];refine qD gt _ rfl (fun i s e h=>∃v,∃K:Ks,Deep.rep h v s K∧¬K 2∧h.ents[2]? =some (2,some [V.int .i64 a0.Complex.Prime,V.isl (a0.Complex.Dims.map enc),V.isl (a0.Complex.Maps.map enc)])∧e.length=64∧e.at 1=V.int .i64 a1∧e.at 2=V.int .i64 a2∧e.at 3=V.int .i64 a3∧e.at 4=V.iptr [V.int .i64 a0.Complex.Prime,V.isl (a0.Complex.Dims.map enc),V.isl (a0.Complex.Maps.map enc),V.isl (a0.Levels.map enc)]∧e.at 9=v∧e.at 10=V.ptr 2 2 0∧e.at 21=V.isl (x1.map enc)∧e.at 22=V.int .i64 (x1.length:Int)∧e.at 23=V.int .i64 i) ?_ ?_ ?_
 ·refine⟨V.sl 1 1 0 0 1,fun k=> k=1∨False,rep_at (α:=List Int) (l:=[]) (K:=fun _=> False) (h:=⟨[(0,none),(1,some []),(2,some [V.int .i64 a0.Complex.Prime,V.isl (a0.Complex.Dims.map enc),V.isl (a0.Complex.Maps.map enc)])],3⟩) rfl (fun _ x=> x) (fun x=> x),fun x=> by simp at x,rfl,?_⟩
  simp only[simprocAttr,R0, *]
 ·clear hl_0 h0_0 h1_0 h2_0 h3_0
  rintro i s e ⟨E,c⟩ ⟨v,K,g1,gk,g2,h_1⟩ hlt hw s' ho;unfold F170_1_B at ho;simp only at g2;obtain⟨x7,gx7,ho⟩:=bS ho;obtain⟨w8a,w8b⟩:=qk gx7;have hE2:2 < E.length:=(List.getElem?_eq_some_iff.1 g2).1;have pre1:∀ (x:Nat×Option (List V)) k,k < E.length→(E++[x])[k]? =E[k]?:=fun x k q=> List.getElem?_append_left q;have pre2:∀ (x y:Nat×Option (List V)) k,k < E.length→(E++[x]++[y])[k]? =E[k]?:=fun x y k q=> by rw[wR]; exact List.getElem?_append_left q
  have pre3:∀ (x y z:Nat×Option (List V)) k,k < E.length→(E++[x]++[y]++[z])[k]? =E[k]?:=fun x y z k q=> by rw[wR,wR]; exact List.getElem?_append_left q
  have q1:∀x,(E++[x])[2]? =some (2,some [V.int .i64 a0.Complex.Prime,V.isl (a0.Complex.Dims.map enc),V.isl (a0.Complex.Maps.map enc)]):=fun x=>(pre1 x 2 hE2).trans g2;have q2:∀x y,(E++[x]++[y])[2]? =some (2,some [V.int .i64 a0.Complex.Prime,V.isl (a0.Complex.Dims.map enc),V.isl (a0.Complex.Maps.map enc)]):=fun x y=>(pre2 x y 2 hE2).trans g2;have q3:∀x y z,(E++[x]++[y]++[z])[2]? =some (2,some [V.int .i64 a0.Complex.Prime,V.isl (a0.Complex.Dims.map enc),V.isl (a0.Complex.Maps.map enc)]):=fun x y z=>(pre3 x y z 2 hE2).trans g2;have gl3:∀x y z:Nat×Option (List V),(E++[x]++[y]++[z])[E.length+1+1]? =some z:=fun x y z=> ge3c ..;by_cases c9:0 < a2
  ·rw[if_pos c9]at ho
   by_cases c10:a1≤a3
   ·rw[if_pos c10]at ho
    obtain⟨x11,gx11,ho⟩:=bS ho;have w12:=s91 a0.Complex a2 x7 gx11;obtain⟨x13,gx13,ho⟩:=bS ho;have wx13:=qz gx13;obtain⟨x14,gx14,ho⟩:=bS ho;have wx14:=qz gx14;obtain⟨x15,gx15,ho⟩:=bS ho;have w16:=s187 a0 a1 x13 x14 gx15;obtain⟨x17,gx17,ho⟩:=bS ho;have w18:=s185 a0 a1 x13 x14 gx17;obtain⟨x19,gx19,ho⟩:=bS ho;have w20:tans A 188 [1] [V.int .i64 a0.Complex.Prime,V.isl (x11.map enc),V.isl (x15.map enc),V.isl (x17.map enc)]=some (V.isl (x19.map enc)):=t188 a0.Complex.Prime x11 x15 x17 gx19;have wbr:=bare_one (α:=Int) x19;obtain⟨l22,gl22,ho⟩:=bS ho;cases ho;obtain⟨v',E',c',K',p1,p2,p3,p4,p5⟩:=xw (E:=E++[(c,some [])]++[(c+1,some (x19.map enc))]++[(c+1+1,some [V.sl (E.length+1) (c+1) 0 x19.length 1])]) (c:=c+1+1+1) (Deep.frame g1 fun k q=> pre3 _ _ _ k (Deep.bd g1 q)) (jq (l:=x19) (ge3b ..) fun k=> yE) (fun k q e=> by have:=Deep.bd g1 q; simp only at this; omega) gl22;simp only[le1]at p3 p4 p5;simp only[simprocAttr,R0,b170_1,q1,qE,zb,qF,le1,ge2a,ge2b,p1, *];refine ai rfl ⟨v',K',p2,fun x=>?_,(p4 2 (by omega) gk).trans (q3 _ _ _),?_⟩
    ·rcases p3 2 x with y|y|y
     ·exact gk y
     ·omega
     ·omega
    simp only[simprocAttr,R0, *]
   ·rw[if_neg c10]at ho
    obtain⟨l24,gl24,ho⟩:=bS ho;cases ho;obtain⟨v',E',c',K',p1,p2,p3,p4,p5⟩:=xw (E:=E++[(c,some [])]++[(c+1,some [V.sl E.length c 0 0 1])]) (c:=c+1+1) (Deep.frame g1 fun k q=> pre2 _ _ k (Deep.bd g1 q)) (jq (l:=[]) (ge2a ..) fun k=> yE) (fun k q e=> by have:=Deep.bd g1 q; simp only at this; omega) gl24;simp only[le1]at p3 p4 p5;simp only[vD]at p1;simp only[simprocAttr,R0,b170_1,qF,le1,ge2a,ge2b,p1, *];refine ai rfl ⟨v',K',p2,fun x=>?_,(p4 2 (by omega) gk).trans (q2 _ _),?_⟩
    ·rcases p3 2 x with y|y|y
     ·exact gk y
     ·omega
     ·omega
    simp only[simprocAttr,R0, *]
  ·rw[if_neg c9]at ho
   obtain⟨l26,gl26,ho⟩:=bS ho;cases ho;obtain⟨v',E',c',K',p1,p2,p3,p4,p5⟩:=xw (E:=E++[(c,some [])]++[(c+1,some [V.sl E.length c 0 0 1])]) (c:=c+1+1) (Deep.frame g1 fun k q=> pre2 _ _ k (Deep.bd g1 q)) (jq (l:=[]) (ge2a ..) fun k=> yE) (fun k q e=> by have:=Deep.bd g1 q; simp only at this; omega) gl26;simp only[le1]at p3 p4 p5;simp only[vD]at p1;simp only[simprocAttr,R0,b170_1,qF,le1,ge2a,ge2b,p1, *];refine ai rfl ⟨v',K',p2,fun x=>?_,(p4 2 (by omega) gk).trans (q2 _ _),?_⟩
   ·rcases p3 2 x with y|y|y
    ·exact gk y
    ·omega
    ·omega
   simp only[simprocAttr,R0, *]
 ·clear hl_0 h0_0 h1_0 h2_0 h3_0
  rintro i s e ⟨E,c⟩ ⟨v,K,g1,gk,g2,h_1⟩ hge t1 ho;unfold F170_1_D at ho;cases ho;simp only[simprocAttr,R0,b170_1, *];intro ht; subst ht;refine ai (fun _=> trivial) ⟨v,?_,K,g1⟩;simp only[simprocAttr,R0,qg,p170,Rs.ev, *]
theorem x170(a0:qd)(a1 a2 a3:Int){r:List (List Int)}(hF:F170 a0 a1 a2 a3=some r):tans A 170 [1,1] [(eF a0),V.int .i64 a1,V.int .i64 a2,V.int .i64 a3]=some (enc r):=zK (α:=List (List Int)) (by decide) (d170 a0 a1 a2 a3 hF)
theorem s170(a0:qd)(a1 a2 a3:Int){r:List (List Int)}(hF:F170 a0 a1 a2 a3=some r):ans A 170 [(eF a0),V.int .i64 a1,V.int .i64 a2,V.int .i64 a3]=some (enc r):=xI (α:=List (List Int)) (by decide) (d170 a0 a1 a2 a3 hF)
def F152(a0:qd)(a1:Int)(a2:Int)(a3:Int):Option (T2 Int Int):=
 (F166 a0 a1 a2 a3).bind fun x1=>
 if x1=0 then
  (F170 a0 a1 a2 a3).bind fun x4=>
  (F133 a0.Complex.Prime x4).bind fun x6=>
  some ⟨(x6.length:Int),0⟩
 else
  some ⟨0,x1⟩
theorem s152(a0:qd)(a1:Int)(a2:Int)(a3:Int){r:T2 Int Int}(hF:F152 a0 a1 a2 a3=some r):ans A 152 [(eF a0),V.int .i64 a1,V.int .i64 a2,V.int .i64 a3]=some (EncR.enc r):=by
 refine qw (f:=p152) rfl rfl rfl fun e hl he=>?_;have h0_0:e.at 0=(eF a0):=he 0 _ rfl;have h1_0:e.at 1=V.int .i64 a1:=he 1 _ rfl;have h2_0:e.at 2=V.int .i64 a2:=he 2 _ rfl;have h3_0:e.at 3=V.int .i64 a3:=he 3 _ rfl;have hl_0:e.length=29:=hl;clear he hl;have h_0:=ai hl_0 (ai h0_0 (ai h1_0 (ai h2_0 h3_0)));show W A b152 e ⟨[],0⟩ _;unfold F152 at hF;obtain⟨x1,gx1,hF⟩:=bS hF;have w2:=s166 a0 a1 a2 a3 gx1;by_cases c3:x1=0
 ·rw[if_pos c3]at hF
  obtain⟨x4,gx4,hF⟩:=bS hF;have w5:=s170 a0 a1 a2 a3 gx4;obtain⟨x6,gx6,hF⟩:=bS hF;have w7:=s133 a0.Complex.Prime x4 gx6;have w9:=s89 x6 rfl;cases hF;simp only[simprocAttr,R0,b152, *];exact qf (by simp only[simprocAttr,R0,qg,p152,Rs.ev,qc, *])
 ·rw[if_neg c3]at hF
  cases hF;simp only[simprocAttr,R0,b152, *];exact qf (by simp only[simprocAttr,R0,qg,p152,Rs.ev,qc, *])
def F156_1_B(a0:List Int)(a1:List Int)(v5_1:Int)(s:Unit):Option ((Unit)⊕((Unit)⊕Bool)):=
 (getI a0 v5_1).bind fun x5=>
(getI a1 v5_1).bind fun x7=>
if x5=x7 then
 some (.inl ())
else
 some (.inr (.inr false))
def F156_1_D(a0:List Int)(a1:List Int)(v5_1:Int)(s:Unit):Option ((Unit)⊕Bool):=
 some (.inl ())
def F156(a0:List Int)(a1:List Int):Option Bool:=
 if(a0.length:Int)=(a1.length:Int)then
  (forR 0 (a0.length:Int) (F156_1_B a0 a1) (F156_1_D a0 a1) ()).bind fun t10=> match t10 with
   | .inl _=>
    some true
   | .inr r11=> some r11
 else
  some false
def I156_1(a0:List Int)(a1:List Int)(v5_1:Int)(s:Unit)(e:Env)(h:Heap):Prop:=
 ∃k3:Nat,h=⟨[],k3⟩∧e.length=26∧e.at 0=V.isl (a0.map enc)∧e.at 1=V.isl (a1.map enc)∧e.at 5=V.int .i64 v5_1
def P156_1(a0:List Int)(a1:List Int)(t:(Unit)⊕Bool)(x:Ex)(e:Env)(h:Heap):Prop:=
 match t with
 | .inl _=> x= .normal∧∃k3:Nat,h=⟨[],k3⟩∧e.length=26
 | .inr r=> x= .ret∧Fin p156 (enc r) .ret e h
theorem l156_1(a0:List Int)(a1:List Int){lo:Int}{s:Unit}{t:(Unit)⊕Bool}(hF:forR lo (a0.length:Int) (F156_1_B a0 a1) (F156_1_D a0 a1) s=some t){e:Env}{h:Heap}(hI:I156_1 a0 a1 lo s e h):W A c156_1 e h (P156_1 a0 a1 t):=by
 show W A (.block 0 (.loop false b156_1)) e h _;rw[qr];refine qD hF 0 (by obtain⟨_,rfl,_⟩:=hI; rfl) (I156_1 a0 a1) hI ?_ ?_
 ·rintro v5_1 _ e h ⟨k3,rfl,h_2⟩ hlt hw o ho
  unfold F156_1_B at ho;obtain⟨x5,gx5,ho⟩:=bS ho;obtain⟨w6a,w6b⟩:=qk gx5;obtain⟨x7,gx7,ho⟩:=bS ho;obtain⟨w8a,w8b⟩:=qk gx7;by_cases c9:x5=x7
  ·rw[if_pos c9]at ho
   cases ho;simp only[simprocAttr,R0,b156_1, *];refine ai rfl (ei _ (ai rfl ?_));simp only[simprocAttr,R0, *]
  ·rw[if_neg c9]at ho
   cases ho;simp only[simprocAttr,R0,b156_1, *];intro ht; subst ht;simp only[simprocAttr,RR,RB];exact ai rfl (qf (by simp only[simprocAttr,R0,qg,p156,Rs.ev,qc, *]))
 ·rintro v5_1 _ e h ⟨k3,rfl,h_2⟩ hge t1 ho
  unfold F156_1_D at ho;cases ho;simp only[simprocAttr,R0,b156_1, *];intro ht; subst ht;refine ai rfl (ei _ (ai rfl ?_));simp only[simprocAttr,R0, *]
theorem s156(a0:List Int)(a1:List Int){r:Bool}(hF:F156 a0 a1=some r):ans A 156 [V.isl (a0.map enc),V.isl (a1.map enc)]=some (enc r):=by
 refine qw (f:=p156) rfl rfl rfl fun e hl he=>?_;have h0_0:e.at 0=V.isl (a0.map enc):=he 0 _ rfl;have h1_0:e.at 1=V.isl (a1.map enc):=he 1 _ rfl;have hl_0:e.length=26:=hl;clear he hl;have h_0:=ai hl_0 (ai h0_0 h1_0);show W A b156 e ⟨[],0⟩ _;unfold F156 at hF;by_cases c1:(a0.length:Int)=(a1.length:Int)
 ·rw[if_pos c1]at hF
  obtain⟨t10,gt10,hF⟩:=bS hF;rcases t10 with _|r11
  ·dsimp only at hF
   simp only[simprocAttr,R0,b156, *];refine W.mono (l156_1 a0 a1 gt10 (ei _ (ai rfl ?_))) ?_
   ·simp only[simprocAttr,R0, *]
   rintro _ e _ ⟨rfl,k3,rfl,hl_4⟩;cases hF;simp only[simprocAttr,R0, *];exact qf (by simp only[simprocAttr,R0,qg,p156,Rs.ev,qc, *])
  ·dsimp only at hF
   cases hF;simp only[simprocAttr,R0,b156, *];refine W.mono (l156_1 a0 a1 gt10 (ei _ (ai rfl ?_))) ?_
   ·simp only[simprocAttr,R0, *]
   rintro _ e h ⟨rfl,hq⟩;simp only[simprocAttr,RR,RB];exact hq
 ·rw[if_neg c1]at hF
  cases hF;simp only[simprocAttr,R0,b156, *];exact qf (by simp only[simprocAttr,R0,qg,p156,Rs.ev,qc, *])
def F160_1_B(a0:List (List Int))(a1:List (List Int))(v5_1:Int)(s:Unit):Option ((Unit)⊕((Unit)⊕Bool)):=
 (getI a0 v5_1).bind fun x5=>
(getI a1 v5_1).bind fun x7=>
(F156 x5 x7).bind fun x9=>
if x9=true then
 some (.inl ())
else
 some (.inr (.inr false))
def F160_1_D(a0:List (List Int))(a1:List (List Int))(v5_1:Int)(s:Unit):Option ((Unit)⊕Bool):=
 some (.inl ())
def F160(a0:List (List Int))(a1:List (List Int)):Option Bool:=
 if(a0.length:Int)=(a1.length:Int)then
  (forR 0 (a0.length:Int) (F160_1_B a0 a1) (F160_1_D a0 a1) ()).bind fun t11=> match t11 with
   | .inl _=>
    some true
   | .inr r12=> some r12
 else
  some false
def I160_1(a0:List (List Int))(a1:List (List Int))(v5_1:Int)(s:Unit)(e:Env)(h:Heap):Prop:=
 ∃k3:Nat,h=⟨[],k3⟩∧e.length=27∧e.at 0=V.isl (a0.map enc)∧e.at 1=V.isl (a1.map enc)∧e.at 5=V.int .i64 v5_1
def P160_1(a0:List (List Int))(a1:List (List Int))(t:(Unit)⊕Bool)(x:Ex)(e:Env)(h:Heap):Prop:=
 match t with
 | .inl _=> x= .normal∧∃k3:Nat,h=⟨[],k3⟩∧e.length=27
 | .inr r=> x= .ret∧Fin p160 (enc r) .ret e h
theorem l160_1(a0:List (List Int))(a1:List (List Int)){lo:Int}{s:Unit}{t:(Unit)⊕Bool}(hF:forR lo (a0.length:Int) (F160_1_B a0 a1) (F160_1_D a0 a1) s=some t){e:Env}{h:Heap}(hI:I160_1 a0 a1 lo s e h):W A c160_1 e h (P160_1 a0 a1 t):=by
 show W A (.block 0 (.loop false b160_1)) e h _;rw[qr];refine qD hF 0 (by obtain⟨_,rfl,_⟩:=hI; rfl) (I160_1 a0 a1) hI ?_ ?_
 ·rintro v5_1 _ e h ⟨k3,rfl,h_2⟩ hlt hw o ho
  unfold F160_1_B at ho;obtain⟨x5,gx5,ho⟩:=bS ho;obtain⟨w6a,w6b⟩:=qk gx5;obtain⟨x7,gx7,ho⟩:=bS ho;obtain⟨w8a,w8b⟩:=qk gx7;obtain⟨x9,gx9,ho⟩:=bS ho;have w10:=s156 x5 x7 gx9;cases x9 with
  |true=>
   rw[if_pos rfl]at ho;cases ho;simp only[simprocAttr,R0,b160_1, *];refine ai rfl (ei _ (ai rfl ?_));simp only[simprocAttr,R0, *]
  |false=>
   rw[if_neg wE]at ho;cases ho;simp only[simprocAttr,R0,b160_1, *];intro ht; subst ht;simp only[simprocAttr,RR,RB];exact ai rfl (qf (by simp only[simprocAttr,R0,qg,p160,Rs.ev,qc, *]))
 ·rintro v5_1 _ e h ⟨k3,rfl,h_2⟩ hge t1 ho
  unfold F160_1_D at ho;cases ho;simp only[simprocAttr,R0,b160_1, *];intro ht; subst ht;refine ai rfl (ei _ (ai rfl ?_));simp only[simprocAttr,R0, *]
theorem s160(a0:List (List Int))(a1:List (List Int)){r:Bool}(hF:F160 a0 a1=some r):ans A 160 [V.isl (a0.map enc),V.isl (a1.map enc)]=some (enc r):=by
 refine qw (f:=p160) rfl rfl rfl fun e hl he=>?_;have h0_0:e.at 0=V.isl (a0.map enc):=he 0 _ rfl;have h1_0:e.at 1=V.isl (a1.map enc):=he 1 _ rfl;have hl_0:e.length=27:=hl;clear he hl;have h_0:=ai hl_0 (ai h0_0 h1_0);show W A b160 e ⟨[],0⟩ _;unfold F160 at hF;by_cases c1:(a0.length:Int)=(a1.length:Int)
 ·rw[if_pos c1]at hF
  obtain⟨t11,gt11,hF⟩:=bS hF;rcases t11 with _|r12
  ·dsimp only at hF
   simp only[simprocAttr,R0,b160, *];refine W.mono (l160_1 a0 a1 gt11 (ei _ (ai rfl ?_))) ?_
   ·simp only[simprocAttr,R0, *]
   rintro _ e _ ⟨rfl,k3,rfl,hl_4⟩;cases hF;simp only[simprocAttr,R0, *];exact qf (by simp only[simprocAttr,R0,qg,p160,Rs.ev,qc, *])
  ·dsimp only at hF
   cases hF;simp only[simprocAttr,R0,b160, *];refine W.mono (l160_1 a0 a1 gt11 (ei _ (ai rfl ?_))) ?_
   ·simp only[simprocAttr,R0, *]
   rintro _ e h ⟨rfl,hq⟩;simp only[simprocAttr,RR,RB];exact hq
 ·rw[if_neg c1]at hF
  cases hF;simp only[simprocAttr,R0,b160, *];exact qf (by simp only[simprocAttr,R0,qg,p160,Rs.ev,qc, *])
def F54(a0:Int)(a1:Int)(a2:Int):Option Bool:=
 if a1≤a0 then
  some (decide (a0≤a2))
 else
  some false
theorem s54(a0:Int)(a1:Int)(a2:Int){r:Bool}(hF:F54 a0 a1 a2=some r):ans A 54 [V.int .i64 a0,V.int .i64 a1,V.int .i64 a2]=some (enc r):=by
 refine qw (f:=p54) rfl rfl rfl fun e hl he=>?_;have h0_0:e.at 0=V.int .i64 a0:=he 0 _ rfl;have h1_0:e.at 1=V.int .i64 a1:=he 1 _ rfl;have h2_0:e.at 2=V.int .i64 a2:=he 2 _ rfl;have hl_0:e.length=15:=hl;clear he hl;have h_0:=ai hl_0 (ai h0_0 (ai h1_0 h2_0));show W A b54 e ⟨[],0⟩ _;unfold F54 at hF;by_cases c1:a1≤a0
 ·rw[if_pos c1]at hF
  cases hF;simp only[simprocAttr,R0,b54, *];exact qf (by simp only[simprocAttr,R0,qg,p54,Rs.ev,qc, *])
 ·rw[if_neg c1]at hF
  cases hF;simp only[simprocAttr,R0,b54, *];exact qf (by simp only[simprocAttr,R0,qg,p54,Rs.ev,qc, *])
def F78(a0:Int):Option Bool:=
 if a0=2 then
  some true
 else
  if a0=3 then
   some true
  else
   if a0=5 then
    some true
   else
    some (decide (a0=7))
theorem s78(a0:Int){r:Bool}(hF:F78 a0=some r):ans A 78 [V.int .i64 a0]=some (enc r):=by
 refine qw (f:=p78) rfl rfl rfl fun e hl he=>?_;have h0_0:e.at 0=V.int .i64 a0:=he 0 _ rfl;have hl_0:e.length=17:=hl;clear he hl;have h_0:=ai hl_0 h0_0;show W A b78 e ⟨[],0⟩ _;unfold F78 at hF;by_cases c1:a0=2
 ·rw[if_pos c1]at hF
  cases hF;simp only[simprocAttr,R0,b78, *];exact qf (by simp only[simprocAttr,R0,qg,p78,Rs.ev,qc, *])
 ·rw[if_neg c1]at hF
  by_cases c2:a0=3
  ·rw[if_pos c2]at hF
   cases hF;simp only[simprocAttr,R0,b78, *];exact qf (by simp only[simprocAttr,R0,qg,p78,Rs.ev,qc, *])
  ·rw[if_neg c2]at hF
   by_cases c3:a0=5
   ·rw[if_pos c3]at hF
    cases hF;simp only[simprocAttr,R0,b78, *];exact qf (by simp only[simprocAttr,R0,qg,p78,Rs.ev,qc, *])
   ·rw[if_neg c3]at hF
    cases hF;simp only[simprocAttr,R0,b78, *];exact qf (by simp only[simprocAttr,R0,qg,p78,Rs.ev,qc, *])
def F79_2_S(a0:Int)(a1:List (List Int))(a3:Int)(v9_1:Int)(v10_2:Int):Option ((Int)⊕((Unit)⊕Bool)):=
 (getI a1 v9_1).bind fun x11=>
if v10_2 < (x11.length:Int)then
 (getI x11 v10_2).bind fun x14=>
 (chk (a0 - 1)).bind fun x16=>
 (F54 x14 0 x16).bind fun x17=>
 if x17=true then
  (chk (v10_2+1)).bind fun x19=>
  some (.inl x19)
 else
  some (.inr (.inr false))
else
 some (.inr (.inl ()))
def F79_1_B(a0:Int)(a1:List (List Int))(a3:Int)(v9_1:Int)(s:Unit):Option ((Unit)⊕((Unit)⊕Bool)):=
 (getI a1 v9_1).bind fun x5=>
if(x5.length:Int)=a3 then
 (qV (F79_2_S a0 a1 a3 v9_1) 0).bind fun t20=> match t20 with
  | .inl _=>
   some (.inl ())
  | .inr r21=> some (.inr (.inr r21))
else
 some (.inr (.inr false))
def F79_1_D(a0:Int)(a1:List (List Int))(a3:Int)(v9_1:Int)(s:Unit):Option ((Unit)⊕Bool):=
 some (.inl ())
def F79(a0:Int)(a1:List (List Int))(a2:Int)(a3:Int):Option Bool:=
 if(a1.length:Int)=a2 then
  (forR 0 (a1.length:Int) (F79_1_B a0 a1 a3) (F79_1_D a0 a1 a3) ()).bind fun t22=> match t22 with
   | .inl _=>
    some true
   | .inr r23=> some r23
 else
  some false
def I79_2(a0:Int)(a1:List (List Int))(a3:Int)(v9_1:Int)(v10_2:Int)(e:Env)(h:Heap):Prop:=
 ∃k9:Nat,h=⟨[],k9⟩∧e.length=48∧e.at 0=V.int .i64 a0∧e.at 1=V.isl (a1.map enc)∧e.at 3=V.int .i64 a3∧e.at 9=V.int .i64 v9_1∧e.at 10=V.int .i64 v10_2
def P79_2(a0:Int)(a1:List (List Int))(a3:Int)(v9_1:Int)(t:(Unit)⊕Bool)(x:Ex)(e:Env)(h:Heap):Prop:=
 match t with
 | .inl _=> x= .normal∧∃k9:Nat,h=⟨[],k9⟩∧e.length=48∧e.at 0=V.int .i64 a0∧e.at 1=V.isl (a1.map enc)∧e.at 3=V.int .i64 a3∧e.at 9=V.int .i64 v9_1
 | .inr r=> x= .ret∧Fin p79 (enc r) .ret e h
theorem l79_2(a0:Int)(a1:List (List Int))(a3:Int)(v9_1:Int){s:Int}{t:(Unit)⊕Bool}(hF:qV (F79_2_S a0 a1 a3 v9_1) s=some t){e:Env}{h:Heap}(hI:I79_2 a0 a1 a3 v9_1 s e h):W A c79_2 e h (P79_2 a0 a1 a3 v9_1 t):=by
 show W A (.block 2 (.loop false b79_2)) e h _;rw[qr];refine jh hF 0 (by obtain⟨_,rfl,_⟩:=hI; rfl) (I79_2 a0 a1 a3 v9_1) hI ?_
 ·rintro v10_2 e h ⟨k9,rfl,h_8⟩ o ho
  unfold F79_2_S at ho;obtain⟨x11,gx11,ho⟩:=bS ho;obtain⟨w12a,w12b⟩:=qk gx11;by_cases c13:v10_2 < (x11.length:Int)
  ·rw[if_pos c13]at ho
   obtain⟨x14,gx14,ho⟩:=bS ho;obtain⟨w15a,w15b⟩:=qk gx14;obtain⟨x16,gx16,ho⟩:=bS ho;have wx16:=qz gx16;obtain⟨x17,gx17,ho⟩:=bS ho;have w18:=s54 x14 0 x16 gx17;cases x17 with
   |true=>
    rw[if_pos rfl]at ho;obtain⟨x19,gx19,ho⟩:=bS ho;have wx19:=qz gx19;cases ho;simp only[simprocAttr,R0,b79_2, *];refine ai rfl (ei _ (ai rfl ?_));simp only[simprocAttr,R0, *]
   |false=>
    rw[if_neg wE]at ho;cases ho;simp only[simprocAttr,R0,b79_2, *];intro ht; subst ht;simp only[simprocAttr,RR,RB];exact ai rfl (qf (by simp only[simprocAttr,R0,qg,p79,Rs.ev,qc, *]))
  ·rw[if_neg c13]at ho
   cases ho;simp only[simprocAttr,R0,b79_2, *];intro ht; subst ht;simp only[simprocAttr,RR,RB];refine ai rfl (ei _ (ai rfl ?_));simp only[simprocAttr,R0, *]
def I79_1(a0:Int)(a1:List (List Int))(a3:Int)(v9_1:Int)(s:Unit)(e:Env)(h:Heap):Prop:=
 ∃k3:Nat,h=⟨[],k3⟩∧e.length=48∧e.at 0=V.int .i64 a0∧e.at 1=V.isl (a1.map enc)∧e.at 3=V.int .i64 a3∧e.at 9=V.int .i64 v9_1
def P79_1(a0:Int)(a1:List (List Int))(a3:Int)(t:(Unit)⊕Bool)(x:Ex)(e:Env)(h:Heap):Prop:=
 match t with
 | .inl _=> x= .normal∧∃k3:Nat,h=⟨[],k3⟩∧e.length=48
 | .inr r=> x= .ret∧Fin p79 (enc r) .ret e h
theorem l79_1(a0:Int)(a1:List (List Int))(a3:Int){lo:Int}{s:Unit}{t:(Unit)⊕Bool}(hF:forR lo (a1.length:Int) (F79_1_B a0 a1 a3) (F79_1_D a0 a1 a3) s=some t){e:Env}{h:Heap}(hI:I79_1 a0 a1 a3 lo s e h):W A c79_1 e h (P79_1 a0 a1 a3 t):=by
 show W A (.block 0 (.loop false b79_1)) e h _;rw[qr];refine qD hF 0 (by obtain⟨_,rfl,_⟩:=hI; rfl) (I79_1 a0 a1 a3) hI ?_ ?_
 ·rintro v9_1 _ e h ⟨k3,rfl,h_2⟩ hlt hw o ho
  unfold F79_1_B at ho;obtain⟨x5,gx5,ho⟩:=bS ho;obtain⟨w6a,w6b⟩:=qk gx5;by_cases c7:(x5.length:Int)=a3
  ·rw[if_pos c7]at ho
   obtain⟨t20,gt20,ho⟩:=bS ho;rcases t20 with _|r21
   ·dsimp only at ho
    simp only[simprocAttr,R0,b79_1, *];refine W.mono (l79_2 a0 a1 a3 v9_1 gt20 (ei _ (ai rfl ?_))) ?_
    ·simp only[simprocAttr,R0, *]
    rintro _ e _ ⟨rfl,k9,rfl,h_10⟩;cases ho;simp only[simprocAttr,R0, *];refine ai rfl (ei _ (ai rfl ?_));simp only[simprocAttr,R0, *]
   ·dsimp only at ho
    cases ho;simp only[simprocAttr,R0,b79_1, *];refine W.mono (l79_2 a0 a1 a3 v9_1 gt20 (ei _ (ai rfl ?_))) ?_
    ·simp only[simprocAttr,R0, *]
    rintro _ e h ⟨rfl,hq⟩;simp only[simprocAttr,RR,RB];intro ht; subst ht;simp only[simprocAttr,RR,RB];exact ai rfl hq
  ·rw[if_neg c7]at ho
   cases ho;simp only[simprocAttr,R0,b79_1, *];intro ht; subst ht;simp only[simprocAttr,RR,RB];exact ai rfl (qf (by simp only[simprocAttr,R0,qg,p79,Rs.ev,qc, *]))
 ·rintro v9_1 _ e h ⟨k3,rfl,h_2⟩ hge t1 ho
  unfold F79_1_D at ho;cases ho;simp only[simprocAttr,R0,b79_1, *];intro ht; subst ht;refine ai rfl (ei _ (ai rfl ?_));simp only[simprocAttr,R0, *]
theorem s79(a0:Int)(a1:List (List Int))(a2:Int)(a3:Int){r:Bool}(hF:F79 a0 a1 a2 a3=some r):ans A 79 [V.int .i64 a0,V.isl (a1.map enc),V.int .i64 a2,V.int .i64 a3]=some (enc r):=by
 refine qw (f:=p79) rfl rfl rfl fun e hl he=>?_;have h0_0:e.at 0=V.int .i64 a0:=he 0 _ rfl;have h1_0:e.at 1=V.isl (a1.map enc):=he 1 _ rfl;have h2_0:e.at 2=V.int .i64 a2:=he 2 _ rfl;have h3_0:e.at 3=V.int .i64 a3:=he 3 _ rfl;have hl_0:e.length=48:=hl;clear he hl;have h_0:=ai hl_0 (ai h0_0 (ai h1_0 (ai h2_0 h3_0)));show W A b79 e ⟨[],0⟩ _;unfold F79 at hF;by_cases c1:(a1.length:Int)=a2
 ·rw[if_pos c1]at hF
  obtain⟨t22,gt22,hF⟩:=bS hF;rcases t22 with _|r23
  ·dsimp only at hF
   simp only[simprocAttr,R0,b79, *];refine W.mono (l79_1 a0 a1 a3 gt22 (ei _ (ai rfl ?_))) ?_
   ·simp only[simprocAttr,R0, *]
   rintro _ e _ ⟨rfl,k3,rfl,hl_4⟩;cases hF;simp only[simprocAttr,R0, *];exact qf (by simp only[simprocAttr,R0,qg,p79,Rs.ev,qc, *])
  ·dsimp only at hF
   cases hF;simp only[simprocAttr,R0,b79, *];refine W.mono (l79_1 a0 a1 a3 gt22 (ei _ (ai rfl ?_))) ?_
   ·simp only[simprocAttr,R0, *]
   rintro _ e h ⟨rfl,hq⟩;simp only[simprocAttr,RR,RB];exact hq
 ·rw[if_neg c1]at hF
  cases hF;simp only[simprocAttr,R0,b79, *];exact qf (by simp only[simprocAttr,R0,qg,p79,Rs.ev,qc, *])
def F80_2_S(a0:Int)(a1:List (List Int))(a2:List Int)(v10_1:Int)(s:(List Int)×Int):Option (((List Int)×Int)⊕((List Int))):=
 match s with
 |(o0_2,v11_2)=>
  if v11_2 < ((o0_2.length:Nat):Int)then
   (getI o0_2 v11_2).bind fun x12=>
   (getI a2 v10_1).bind fun x14=>
   (getI a1 v10_1).bind fun x16=>
   (getI x16 v11_2).bind fun x18=>
   (chk (x14*x18)).bind fun x20=>
   (chk (x12+x20)).bind fun x21=>
   (remI x21 a0).bind fun x22=>
   (setI o0_2 v11_2 x22).bind fun l24=>
   (chk (v11_2+1)).bind fun x26=>
   some (.inl (l24,x26))
  else
   some (.inr o0_2)
def F80_1_B(a0:Int)(a1:List (List Int))(a2:List Int)(v10_1:Int)(o0_1:(List Int)):Option (((List Int))⊕((List Int))):=
 (qV (F80_2_S a0 a1 a2 v10_1) (o0_1,0)).bind fun zo0_2=>
some (.inl zo0_2)
def F80_1_D(a0:Int)(a1:List (List Int))(a2:List Int)(v10_1:Int)(o0_1:(List Int)):Option ((List Int)):=
 some o0_1
def F80(a0:Int)(a1:List (List Int))(a2:List Int)(a3:Int):Option (List Int):=
 (mkL 8 a3 0).bind fun l1=>
 (forR 0 (a2.length:Int) (F80_1_B a0 a1 a2) (F80_1_D a0 a1 a2) l1).bind fun zo0_1=>
 some zo0_1
def I80_2(a0:Int)(a1:List (List Int))(a2:List Int)(v10_1:Int)(s:(List Int)×Int)(e:Env)(h:Heap):Prop:=
 match s with
 |(o0_2,v11_2)=>
  ∃u8 k9:Nat,h=⟨[(u8,some (o0_2.map enc))],k9⟩∧e.length=49∧e.at 0=V.int .i64 a0∧e.at 1=V.isl (a1.map enc)∧e.at 2=V.isl (a2.map enc)∧e.at 9=V.sl 0 u8 0 o0_2.length 1∧e.at 10=V.int .i64 v10_1∧e.at 11=V.int .i64 v11_2
def P80_2(a0:Int)(a1:List (List Int))(a2:List Int)(v10_1:Int)(zo0_2:(List Int))(x:Ex)(e:Env)(h:Heap):Prop:=
 x= .normal∧∃u8 k9:Nat,h=⟨[(u8,some (zo0_2.map enc))],k9⟩∧e.length=49∧e.at 0=V.int .i64 a0∧e.at 1=V.isl (a1.map enc)∧e.at 2=V.isl (a2.map enc)∧e.at 9=V.sl 0 u8 0 zo0_2.length 1∧e.at 10=V.int .i64 v10_1
theorem l80_2(a0:Int)(a1:List (List Int))(a2:List Int)(v10_1:Int){s:(List Int)×Int}{t:(List Int)}(hF:qV (F80_2_S a0 a1 a2 v10_1) s=some t){e:Env}{h:Heap}(hI:I80_2 a0 a1 a2 v10_1 s e h):W A c80_2 e h (P80_2 a0 a1 a2 v10_1 t):=by
 show W A (.block 2 (.loop false b80_2)) e h _;rw[qr];refine jh hF 1 (by rcases s with⟨_,_⟩; obtain⟨_,_,rfl,_⟩:=hI; rfl) (I80_2 a0 a1 a2 v10_1) hI ?_
 ·rintro⟨o0_2,v11_2⟩ e h ⟨u8,k9,rfl,h_7⟩ o ho
  unfold F80_2_S at ho;dsimp only at ho;by_cases c11:v11_2 < ((o0_2.length:Nat):Int)
  ·rw[if_pos c11]at ho
   obtain⟨x12,gx12,ho⟩:=bS ho;obtain⟨w13a,w13b⟩:=qk gx12;have w13c:=za gx12;have w13d:List.drop (Int.toNat v11_2) (o0_2.map enc)=(V.int .i64 x12)::List.drop ((Int.toNat v11_2)+1) (o0_2.map enc):=jx w13b;obtain⟨x14,gx14,ho⟩:=bS ho;obtain⟨w15a,w15b⟩:=qk gx14;obtain⟨x16,gx16,ho⟩:=bS ho;obtain⟨w17a,w17b⟩:=qk gx16;obtain⟨x18,gx18,ho⟩:=bS ho;obtain⟨w19a,w19b⟩:=qk gx18;obtain⟨x20,gx20,ho⟩:=bS ho;have wx20:=qz gx20;obtain⟨x21,gx21,ho⟩:=bS ho;have wx21:=qz gx21;obtain⟨x22,gx22,ho⟩:=bS ho;obtain⟨w23a,w23b⟩:=rem_w gx22;obtain⟨l24,gl24,ho⟩:=bS ho;obtain⟨w25a,w25b,w25c,w25d,w25e⟩:=jV gl24;replace w25e:List.take (Int.toNat v11_2) (o0_2.map enc)++[V.int .i64 x22]++List.drop (Int.toNat v11_2+1) (o0_2.map enc)=List.map enc l24:=w25e;obtain⟨x26,gx26,ho⟩:=bS ho;have wx26:=qz gx26;cases ho;simp only[simprocAttr,R0,b80_2, *];refine ai rfl (ei _ (ei _ (ai rfl ?_)));simp only[simprocAttr,R0, *]
  ·rw[if_neg c11]at ho
   cases ho;simp only[simprocAttr,R0,b80_2, *];intro ht; subst ht;simp only[simprocAttr,RR,RB];refine ai rfl (ei _ (ei _ (ai rfl ?_)));simp only[simprocAttr,R0, *]
def I80_1(a0:Int)(a1:List (List Int))(a2:List Int)(v10_1:Int)(o0_1:(List Int))(e:Env)(h:Heap):Prop:=
 ∃u4 k5:Nat,h=⟨[(u4,some (o0_1.map enc))],k5⟩∧e.length=49∧e.at 0=V.int .i64 a0∧e.at 1=V.isl (a1.map enc)∧e.at 2=V.isl (a2.map enc)∧e.at 9=V.sl 0 u4 0 o0_1.length 1∧e.at 10=V.int .i64 v10_1
def P80_1(a0:Int)(a1:List (List Int))(a2:List Int)(zo0_1:(List Int))(x:Ex)(e:Env)(h:Heap):Prop:=
 x= .normal∧∃u4 k5:Nat,h=⟨[(u4,some (zo0_1.map enc))],k5⟩∧e.length=49∧e.at 9=V.sl 0 u4 0 zo0_1.length 1
theorem l80_1(a0:Int)(a1:List (List Int))(a2:List Int){lo:Int}{s:(List Int)}{t:(List Int)}(hF:forR lo (a2.length:Int) (F80_1_B a0 a1 a2) (F80_1_D a0 a1 a2) s=some t){e:Env}{h:Heap}(hI:I80_1 a0 a1 a2 lo s e h):W A c80_1 e h (P80_1 a0 a1 a2 t):=by
 show W A (.block 0 (.loop false b80_1)) e h _;rw[qr];refine qD hF 1 (by obtain⟨_,_,rfl,_⟩:=hI; rfl) (I80_1 a0 a1 a2) hI ?_ ?_
 ·rintro v10_1 o0_1 e h ⟨u4,k5,rfl,h_3⟩ hlt hw o ho
  unfold F80_1_B at ho;obtain⟨zo0_2,gt27,ho⟩:=bS ho;simp only[simprocAttr,R0,b80_1, *];refine W.mono (l80_2 a0 a1 a2 v10_1 gt27 (ei _ (ei _ (ai rfl ?_)))) ?_
  ·simp only[simprocAttr,R0, *]
  rintro _ e _ ⟨rfl,u8,k9,rfl,h_10⟩;cases ho;simp only[simprocAttr,R0, *];refine ai rfl (ei _ (ei _ (ai rfl ?_)));simp only[simprocAttr,R0, *]
 ·rintro v10_1 o0_1 e h ⟨u4,k5,rfl,h_3⟩ hge t1 ho
  unfold F80_1_D at ho;cases ho;simp only[simprocAttr,R0,b80_1, *];intro ht; subst ht;refine ai rfl (ei _ (ei _ (ai rfl ?_)));simp only[simprocAttr,R0, *]
theorem s80(a0:Int)(a1:List (List Int))(a2:List Int)(a3:Int){r:List Int}(hF:F80 a0 a1 a2 a3=some r):ans A 80 [V.int .i64 a0,V.isl (a1.map enc),V.isl (a2.map enc),V.int .i64 a3]=some (enc r):=by
 refine qw (f:=p80) rfl rfl rfl fun e hl he=>?_;have h0_0:e.at 0=V.int .i64 a0:=he 0 _ rfl;have h1_0:e.at 1=V.isl (a1.map enc):=he 1 _ rfl;have h2_0:e.at 2=V.isl (a2.map enc):=he 2 _ rfl;have h3_0:e.at 3=V.int .i64 a3:=he 3 _ rfl;have hl_0:e.length=49:=hl;clear he hl;show W A b80 e ⟨[],0⟩ _;unfold F80 at hF;obtain⟨l1,gl1,hF⟩:=bS hF;obtain⟨w2a,w2b,w2c,w2d,w2e⟩:=mkL_w gl1;replace w2e:(List.replicate (Int.toNat a3) [V.int .i64 0]).flatten=List.map enc l1:=w2e;obtain⟨zo0_1,gt28,hF⟩:=bS hF;simp only[simprocAttr, -Int.reduceNatCast',R0,b80, *];refine W.mono (l80_1 a0 a1 a2 gt28 (ei _ (ei _ (ai rfl ?_)))) ?_
 ·simp only[simprocAttr, -Int.reduceNatCast',R0, *]
 rintro _ e _ ⟨rfl,u4,k5,rfl,hl_6,h9_6⟩;have hE:=wA hF; subst hE;simp only[simprocAttr, -Int.reduceNatCast',R0, *];exact qf (by simp only[simprocAttr, -Int.reduceNatCast',R0,qg,p80,Rs.ev,qc,frzs (α:=Int) zo0_1,qO (α:=Int) zo0_1, *])
theorem t80(a0:Int)(a1:List (List Int))(a2:List Int)(a3:Int){r:List Int}(hF:F80 a0 a1 a2 a3=some r):tans A 80 [1] [V.int .i64 a0,V.isl (a1.map enc),V.isl (a2.map enc),V.int .i64 a3]=some (enc r):=by
 refine tans_of (f:=p80) rfl rfl rfl fun e hl he=>?_;have h0_0:e.at 0=V.int .i64 a0:=he 0 _ rfl;have h1_0:e.at 1=V.isl (a1.map enc):=he 1 _ rfl;have h2_0:e.at 2=V.isl (a2.map enc):=he 2 _ rfl;have h3_0:e.at 3=V.int .i64 a3:=he 3 _ rfl;have hl_0:e.length=49:=hl;clear he hl;show W A b80 e ⟨[],0⟩ _;unfold F80 at hF;obtain⟨l1,gl1,hF⟩:=bS hF;obtain⟨w2a,w2b,w2c,w2d,w2e⟩:=mkL_w gl1;replace w2e:(List.replicate (Int.toNat a3) [V.int .i64 0]).flatten=List.map enc l1:=w2e;obtain⟨zo0_1,gt28,hF⟩:=bS hF;simp only[simprocAttr, -Int.reduceNatCast',R0,b80, *];refine W.mono (l80_1 a0 a1 a2 gt28 (ei _ (ei _ (ai rfl ?_)))) ?_
 ·simp only[simprocAttr, -Int.reduceNatCast',R0, *]
 rintro _ e _ ⟨rfl,u4,k5,rfl,hl_6,h9_6⟩;have hE:=wA hF; subst hE;simp only[simprocAttr, -Int.reduceNatCast',R0, *];exact tfin_ret (by simp only[simprocAttr, -Int.reduceNatCast',R0,qg,p80,Rs.ev,qc,frzs (α:=Int) zo0_1,qO (α:=Int) zo0_1, *])
def F81_1_B(a0:List Int)(v3_1:Int)(s:Unit):Option ((Unit)⊕((Unit)⊕Int)):=
 (getI a0 v3_1).bind fun x4=>
if x4=0 then
 some (.inl ())
else
 some (.inr (.inr v3_1))
def F81_1_D(a0:List Int)(v3_1:Int)(s:Unit):Option ((Unit)⊕Int):=
 some (.inl ())
def F81(a0:List Int):Option Int:=
 (forR 0 (a0.length:Int) (F81_1_B a0) (F81_1_D a0) ()).bind fun t7=> match t7 with
  | .inl _=>
   some (-1)
  | .inr r8=> some r8
def I81_1(a0:List Int)(v3_1:Int)(s:Unit)(e:Env)(h:Heap):Prop:=
 ∃k2:Nat,h=⟨[],k2⟩∧e.length=16∧e.at 0=V.isl (a0.map enc)∧e.at 3=V.int .i64 v3_1
def P81_1(a0:List Int)(t:(Unit)⊕Int)(x:Ex)(e:Env)(h:Heap):Prop:=
 match t with
 | .inl _=> x= .normal∧∃k2:Nat,h=⟨[],k2⟩∧e.length=16
 | .inr r=> x= .ret∧Fin p81 (enc r) .ret e h
theorem l81_1(a0:List Int){lo:Int}{s:Unit}{t:(Unit)⊕Int}(hF:forR lo (a0.length:Int) (F81_1_B a0) (F81_1_D a0) s=some t){e:Env}{h:Heap}(hI:I81_1 a0 lo s e h):W A c81_1 e h (P81_1 a0 t):=by
 show W A (.block 0 (.loop false b81_1)) e h _;rw[qr];refine qD hF 0 (by obtain⟨_,rfl,_⟩:=hI; rfl) (I81_1 a0) hI ?_ ?_
 ·rintro v3_1 _ e h ⟨k2,rfl,h_1⟩ hlt hw o ho
  unfold F81_1_B at ho;obtain⟨x4,gx4,ho⟩:=bS ho;obtain⟨w5a,w5b⟩:=qk gx4;by_cases c6:x4=0
  ·rw[if_pos c6]at ho
   cases ho;simp only[simprocAttr,R0,b81_1, *];refine ai rfl (ei _ (ai rfl ?_));simp only[simprocAttr,R0, *]
  ·rw[if_neg c6]at ho
   cases ho;simp only[simprocAttr,R0,b81_1, *];intro ht; subst ht;simp only[simprocAttr,RR,RB];exact ai rfl (qf (by simp only[simprocAttr,R0,qg,p81,Rs.ev,qc, *]))
 ·rintro v3_1 _ e h ⟨k2,rfl,h_1⟩ hge t1 ho
  unfold F81_1_D at ho;cases ho;simp only[simprocAttr,R0,b81_1, *];intro ht; subst ht;refine ai rfl (ei _ (ai rfl ?_));simp only[simprocAttr,R0, *]
theorem s81(a0:List Int){r:Int}(hF:F81 a0=some r):ans A 81 [V.isl (a0.map enc)]=some (enc r):=by
 refine qw (f:=p81) rfl rfl rfl fun e hl he=>?_;have h0_0:e.at 0=V.isl (a0.map enc):=he 0 _ rfl;have hl_0:e.length=16:=hl;clear he hl;have h_0:=ai hl_0 h0_0;show W A b81 e ⟨[],0⟩ _;unfold F81 at hF;obtain⟨t7,gt7,hF⟩:=bS hF;rcases t7 with _|r8
 ·dsimp only at hF
  simp only[simprocAttr,R0,b81, *];refine W.mono (l81_1 a0 gt7 (ei _ (ai rfl ?_))) ?_
  ·simp only[simprocAttr,R0, *]
  rintro _ e _ ⟨rfl,k2,rfl,hl_3⟩;cases hF;simp only[simprocAttr,R0, *];exact qf (by simp only[simprocAttr,R0,qg,p81,Rs.ev,qc, *])
 ·dsimp only at hF
  cases hF;simp only[simprocAttr,R0,b81, *];refine W.mono (l81_1 a0 gt7 (ei _ (ai rfl ?_))) ?_
  ·simp only[simprocAttr,R0, *]
  rintro _ e h ⟨rfl,hq⟩;simp only[simprocAttr,RR,RB];exact hq
def F39_1_B(a0:qh)(v3_1:Int)(s:Unit):Option ((Unit)⊕((Unit)⊕Bool)):=
 (getI a0.Dims v3_1).bind fun x10=>
(F54 x10 0 8).bind fun x12=>
if x12=true then
 some (.inl ())
else
 some (.inr (.inr false))
def F39_1_D(a0:qh)(v3_1:Int)(s:Unit):Option ((Unit)⊕Bool):=
 some (.inl ())
def F39_3_S(a0:qh)(v4_2:Int)(v5_3:Int):Option ((Int)⊕((Unit)⊕Bool)):=
 (getI a0.Maps v4_2).bind fun x29=>
if v5_3 < (x29.length:Int)then
 if 0 < v4_2 then
  (chk (v4_2 - 1)).bind fun x33=>
  (getI a0.Maps x33).bind fun x34=>
  (getI x29 v5_3).bind fun x36=>
  (getI a0.Dims x33).bind fun x38=>
  (F80 a0.Prime x34 x36 x38).bind fun x40=>
  (F81 x40).bind fun x42=>
  if 0≤x42 then
   some (.inr (.inr false))
  else
   (chk (v5_3+1)).bind fun x45=>
   some (.inl x45)
 else
  some (.inr (.inl ()))
else
 some (.inr (.inl ()))
def F39_2_B(a0:qh)(v4_2:Int)(s:Unit):Option ((Unit)⊕((Unit)⊕Bool)):=
 (getI a0.Maps v4_2).bind fun x18=>
(getI a0.Dims (v4_2+1)).bind fun x20=>
(getI a0.Dims v4_2).bind fun x22=>
(F79 a0.Prime x18 x20 x22).bind fun x24=>
if x24=true then
 (qV (F39_3_S a0 v4_2) 0).bind fun t46=> match t46 with
  | .inl _=>
   some (.inl ())
  | .inr r47=> some (.inr (.inr r47))
else
 some (.inr (.inr false))
def F39_2_D(a0:qh)(v4_2:Int)(s:Unit):Option ((Unit)⊕Bool):=
 some (.inl ())
def F39(a0:qh):Option Bool:=
 (F78 a0.Prime).bind fun x1=>
 if x1=true then
  if(a0.Dims.length:Int) < 1 then
   some false
  else
   if 6 < (a0.Dims.length:Int)then
    some false
   else
    (chk ((a0.Dims.length:Int) - 1)).bind fun x5=>
    if(a0.Maps.length:Int)=x5 then
     (forR 0 (a0.Dims.length:Int) (F39_1_B a0) (F39_1_D a0) ()).bind fun t14=> match t14 with
      | .inl _=>
       (forR 0 (a0.Maps.length:Int) (F39_2_B a0) (F39_2_D a0) ()).bind fun t48=> match t48 with
        | .inl _=>
         some true
        | .inr r49=> some r49
      | .inr r50=> some r50
    else
     some false
 else
  some false
def I39_1(a0:qh)(v3_1:Int)(s:Unit)(e:Env)(h:Heap):Prop:=
 ∃k8:Nat,h=⟨[(0,none)],k8⟩∧e.length=112∧e.at 1=V.iptr [V.int .i64 a0.Prime,V.isl (a0.Dims.map enc),V.isl (a0.Maps.map enc)]∧e.at 3=V.int .i64 v3_1
def P39_1(a0:qh)(t:(Unit)⊕Bool)(x:Ex)(e:Env)(h:Heap):Prop:=
 match t with
 | .inl _=> x= .normal∧∃k8:Nat,h=⟨[(0,none)],k8⟩∧e.length=112∧e.at 1=V.iptr [V.int .i64 a0.Prime,V.isl (a0.Dims.map enc),V.isl (a0.Maps.map enc)]
 | .inr r=> x= .ret∧Fin p39 (enc r) .ret e h
theorem l39_1(a0:qh){lo:Int}{s:Unit}{t:(Unit)⊕Bool}(hF:forR lo (a0.Dims.length:Int) (F39_1_B a0) (F39_1_D a0) s=some t){e:Env}{h:Heap}(hI:I39_1 a0 lo s e h):W A c39_1 e h (P39_1 a0 t):=by
 show W A (.block 0 (.loop false b39_1)) e h _;rw[qr];refine qD hF 1 (by obtain⟨_,rfl,_⟩:=hI; rfl) (I39_1 a0) hI ?_ ?_
 ·rintro v3_1 _ e h ⟨k8,rfl,h_7⟩ hlt hw o ho
  unfold F39_1_B at ho;obtain⟨x10,gx10,ho⟩:=bS ho;obtain⟨w11a,w11b⟩:=qk gx10;obtain⟨x12,gx12,ho⟩:=bS ho;have w13:=s54 x10 0 8 gx12;cases x12 with
  |true=>
   rw[if_pos rfl]at ho;cases ho;simp only[simprocAttr,R0,b39_1, *];refine ai rfl (ei _ (ai rfl ?_));simp only[simprocAttr,R0, *]
  |false=>
   rw[if_neg wE]at ho;cases ho;simp only[simprocAttr,R0,b39_1, *];intro ht; subst ht;simp only[simprocAttr,RR,RB];exact ai rfl (qf (by simp only[simprocAttr,R0,qg,p39,Rs.ev,qc, *]))
 ·rintro v3_1 _ e h ⟨k8,rfl,h_7⟩ hge t1 ho
  unfold F39_1_D at ho;cases ho;simp only[simprocAttr,R0,b39_1, *];intro ht; subst ht;refine ai rfl (ei _ (ai rfl ?_));simp only[simprocAttr,R0, *]
def I39_3(a0:qh)(v4_2:Int)(v5_3:Int)(e:Env)(h:Heap):Prop:=
 ∃k27:Nat,h=⟨[(0,none)],k27⟩∧e.length=112∧e.at 1=V.iptr [V.int .i64 a0.Prime,V.isl (a0.Dims.map enc),V.isl (a0.Maps.map enc)]∧e.at 4=V.int .i64 v4_2∧e.at 5=V.int .i64 v5_3
def P39_3(a0:qh)(v4_2:Int)(t:(Unit)⊕Bool)(x:Ex)(e:Env)(h:Heap):Prop:=
 match t with
 | .inl _=> x= .normal∧∃k27:Nat,h=⟨[(0,none)],k27⟩∧e.length=112∧e.at 1=V.iptr [V.int .i64 a0.Prime,V.isl (a0.Dims.map enc),V.isl (a0.Maps.map enc)]∧e.at 4=V.int .i64 v4_2
 | .inr r=> x= .ret∧Fin p39 (enc r) .ret e h
theorem l39_3(a0:qh)(v4_2:Int){s:Int}{t:(Unit)⊕Bool}(hF:qV (F39_3_S a0 v4_2) s=some t){e:Env}{h:Heap}(hI:I39_3 a0 v4_2 s e h):W A c39_3 e h (P39_3 a0 v4_2 t):=by
 show W A (.block 4 (.loop false b39_3)) e h _;rw[qr];refine jh hF 1 (by obtain⟨_,rfl,_⟩:=hI; rfl) (I39_3 a0 v4_2) hI ?_
 ·rintro v5_3 e h ⟨k27,rfl,h_26⟩ o ho
  unfold F39_3_S at ho;obtain⟨x29,gx29,ho⟩:=bS ho;obtain⟨w30a,w30b⟩:=qk gx29;by_cases c31:v5_3 < (x29.length:Int)
  ·rw[if_pos c31]at ho
   by_cases c32:0 < v4_2
   ·rw[if_pos c32]at ho
    obtain⟨x33,gx33,ho⟩:=bS ho;have wx33:=qz gx33;obtain⟨x34,gx34,ho⟩:=bS ho;obtain⟨w35a,w35b⟩:=qk gx34;obtain⟨x36,gx36,ho⟩:=bS ho;obtain⟨w37a,w37b⟩:=qk gx36;obtain⟨x38,gx38,ho⟩:=bS ho;obtain⟨w39a,w39b⟩:=qk gx38;obtain⟨x40,gx40,ho⟩:=bS ho;have w41:=s80 a0.Prime x34 x36 x38 gx40;obtain⟨x42,gx42,ho⟩:=bS ho;have w43:=s81 x40 gx42;by_cases c44:0≤x42
    ·rw[if_pos c44]at ho
     cases ho;simp only[simprocAttr,R0,b39_3, *];intro ht; subst ht;simp only[simprocAttr,RR,RB];exact ai rfl (qf (by simp only[simprocAttr,R0,qg,p39,Rs.ev,qc, *]))
    ·rw[if_neg c44]at ho
     obtain⟨x45,gx45,ho⟩:=bS ho;have wx45:=qz gx45;cases ho;simp only[simprocAttr,R0,b39_3, *];refine ai rfl (ei _ (ai rfl ?_));simp only[simprocAttr,R0, *]
   ·rw[if_neg c32]at ho
    cases ho;simp only[simprocAttr,R0,b39_3, *];intro ht; subst ht;simp only[simprocAttr,RR,RB];refine ai rfl (ei _ (ai rfl ?_));simp only[simprocAttr,R0, *]
  ·rw[if_neg c31]at ho
   cases ho;simp only[simprocAttr,R0,b39_3, *];intro ht; subst ht;simp only[simprocAttr,RR,RB];refine ai rfl (ei _ (ai rfl ?_));simp only[simprocAttr,R0, *]
def I39_2(a0:qh)(v4_2:Int)(s:Unit)(e:Env)(h:Heap):Prop:=
 ∃k16:Nat,h=⟨[(0,none)],k16⟩∧e.length=112∧e.at 1=V.iptr [V.int .i64 a0.Prime,V.isl (a0.Dims.map enc),V.isl (a0.Maps.map enc)]∧e.at 4=V.int .i64 v4_2
def P39_2(a0:qh)(t:(Unit)⊕Bool)(x:Ex)(e:Env)(h:Heap):Prop:=
 match t with
 | .inl _=> x= .normal∧∃k16:Nat,h=⟨[(0,none)],k16⟩∧e.length=112
 | .inr r=> x= .ret∧Fin p39 (enc r) .ret e h
theorem l39_2(a0:qh){lo:Int}{s:Unit}{t:(Unit)⊕Bool}(hF:forR lo (a0.Maps.length:Int) (F39_2_B a0) (F39_2_D a0) s=some t){e:Env}{h:Heap}(hI:I39_2 a0 lo s e h):W A c39_2 e h (P39_2 a0 t):=by
 show W A (.block 2 (.loop false b39_2)) e h _;rw[qr];refine qD hF 1 (by obtain⟨_,rfl,_⟩:=hI; rfl) (I39_2 a0) hI ?_ ?_
 ·rintro v4_2 _ e h ⟨k16,rfl,h_15⟩ hlt hw o ho
  unfold F39_2_B at ho;obtain⟨x18,gx18,ho⟩:=bS ho;obtain⟨w19a,w19b⟩:=qk gx18;obtain⟨x20,gx20,ho⟩:=bS ho;obtain⟨w21a,w21b⟩:=qk gx20;obtain⟨x22,gx22,ho⟩:=bS ho;obtain⟨w23a,w23b⟩:=qk gx22;obtain⟨x24,gx24,ho⟩:=bS ho;have w25:=s79 a0.Prime x18 x20 x22 gx24;cases x24 with
  |true=>
   rw[if_pos rfl]at ho;obtain⟨t46,gt46,ho⟩:=bS ho;rcases t46 with _|r47
   ·dsimp only at ho
    simp only[simprocAttr,R0,b39_2, *];refine W.mono (l39_3 a0 v4_2 gt46 (ei _ (ai rfl ?_))) ?_
    ·simp only[simprocAttr,R0, *]
    rintro _ e _ ⟨rfl,k27,rfl,h_28⟩;cases ho;simp only[simprocAttr,R0, *];refine ai rfl (ei _ (ai rfl ?_));simp only[simprocAttr,R0, *]
   ·dsimp only at ho
    cases ho;simp only[simprocAttr,R0,b39_2, *];refine W.mono (l39_3 a0 v4_2 gt46 (ei _ (ai rfl ?_))) ?_
    ·simp only[simprocAttr,R0, *]
    rintro _ e h ⟨rfl,hq⟩;simp only[simprocAttr,RR,RB];intro ht; subst ht;simp only[simprocAttr,RR,RB];exact ai rfl hq
  |false=>
   rw[if_neg wE]at ho;cases ho;simp only[simprocAttr,R0,b39_2, *];intro ht; subst ht;simp only[simprocAttr,RR,RB];exact ai rfl (qf (by simp only[simprocAttr,R0,qg,p39,Rs.ev,qc, *]))
 ·rintro v4_2 _ e h ⟨k16,rfl,h_15⟩ hge t1 ho
  unfold F39_2_D at ho;cases ho;simp only[simprocAttr,R0,b39_2, *];intro ht; subst ht;refine ai rfl (ei _ (ai rfl ?_));simp only[simprocAttr,R0, *]
theorem s39(a0:qh){r:Bool}(hF:F39 a0=some r):ans A 39 [(eC a0)]=some (enc r):=by
 refine qw (f:=p39) rfl rfl rfl fun e hl he=>?_;have h0_0:e.at 0=(eC a0):=he 0 _ rfl;have hl_0:e.length=112:=hl;clear he hl;have h_0:=ai hl_0 h0_0;show W A b39 e ⟨[],0⟩ _;unfold F39 at hF;obtain⟨x1,gx1,hF⟩:=bS hF;have w2:=s78 a0.Prime gx1;cases x1 with
 |true=>
  rw[if_pos rfl]at hF;by_cases c3:(a0.Dims.length:Int) < 1
  ·rw[if_pos c3]at hF
   cases hF;simp only[simprocAttr,R0,b39, *];exact qf (by simp only[simprocAttr,R0,qg,p39,Rs.ev,qc, *])
  ·rw[if_neg c3]at hF
   by_cases c4:6 < (a0.Dims.length:Int)
   ·rw[if_pos c4]at hF
    cases hF;simp only[simprocAttr,R0,b39, *];exact qf (by simp only[simprocAttr,R0,qg,p39,Rs.ev,qc, *])
   ·rw[if_neg c4]at hF
    obtain⟨x5,gx5,hF⟩:=bS hF;have wx5:=qz gx5;by_cases c6:(a0.Maps.length:Int)=x5
    ·rw[if_pos c6]at hF
     obtain⟨t14,gt14,hF⟩:=bS hF;rcases t14 with _|r50
     ·dsimp only at hF
      simp only[simprocAttr,R0,b39, *];refine W.mono (l39_1 a0 gt14 (ei _ (ai rfl ?_))) ?_
      ·simp only[simprocAttr,R0, *]
      rintro _ e _ ⟨rfl,k8,rfl,h_9⟩;obtain⟨t48,gt48,hF⟩:=bS hF;rcases t48 with _|r49
      ·dsimp only at hF
       simp only[simprocAttr,R0, *];refine W.mono (l39_2 a0 gt48 (ei _ (ai rfl ?_))) ?_
       ·simp only[simprocAttr,R0, *]
       rintro _ e _ ⟨rfl,k16,rfl,hl_17⟩;cases hF;simp only[simprocAttr,R0, *];exact qf (by simp only[simprocAttr,R0,qg,p39,Rs.ev,qc, *])
      ·dsimp only at hF
       cases hF;simp only[simprocAttr,R0, *];refine W.mono (l39_2 a0 gt48 (ei _ (ai rfl ?_))) ?_
       ·simp only[simprocAttr,R0, *]
       rintro _ e h ⟨rfl,hq⟩;simp only[simprocAttr,RR,RB];exact hq
     ·dsimp only at hF
      cases hF;simp only[simprocAttr,R0,b39, *];refine W.mono (l39_1 a0 gt14 (ei _ (ai rfl ?_))) ?_
      ·simp only[simprocAttr,R0, *]
      rintro _ e h ⟨rfl,hq⟩;simp only[simprocAttr,RR,RB];exact hq
    ·rw[if_neg c6]at hF
     cases hF;simp only[simprocAttr,R0,b39, *];exact qf (by simp only[simprocAttr,R0,qg,p39,Rs.ev,qc, *])
 |false=>
  rw[if_neg wE]at hF;cases hF;simp only[simprocAttr,R0,b39, *];exact qf (by simp only[simprocAttr,R0,qg,p39,Rs.ev,qc, *])
def F99(a0:qh)(a1:Int):Option Int:=
 (chk ((a0.Dims.length:Int) - 1)).bind fun x1=>
 (F54 a1 0 x1).bind fun x2=>
 if x2=true then
  (getI a0.Dims a1).bind fun x4=>
  some x4
 else
  some 0
theorem s99(a0:qh)(a1:Int){r:Int}(hF:F99 a0 a1=some r):ans A 99 [(eC a0),V.int .i64 a1]=some (enc r):=by
 refine qw (f:=p99) rfl rfl rfl fun e hl he=>?_;have h0_0:e.at 0=(eC a0):=he 0 _ rfl;have h1_0:e.at 1=V.int .i64 a1:=he 1 _ rfl;have hl_0:e.length=17:=hl;clear he hl;have h_0:=ai hl_0 (ai h0_0 h1_0);show W A b99 e ⟨[],0⟩ _;unfold F99 at hF;obtain⟨x1,gx1,hF⟩:=bS hF;have wx1:=qz gx1;obtain⟨x2,gx2,hF⟩:=bS hF;have w3:=s54 a1 0 x1 gx2;cases x2 with
 |true=>
  rw[if_pos rfl]at hF;obtain⟨x4,gx4,hF⟩:=bS hF;obtain⟨w5a,w5b⟩:=qk gx4;cases hF;simp only[simprocAttr,R0,b99, *];exact qf (by simp only[simprocAttr,R0,qg,p99,Rs.ev,qc, *])
 |false=>
  rw[if_neg wE]at hF;cases hF;simp only[simprocAttr,R0,b99, *];exact qf (by simp only[simprocAttr,R0,qg,p99,Rs.ev,qc, *])
def F76_1_S(a0:qh)(a1:Int)(s:(List (List Int))×Int):Option (((List (List Int))×Int)⊕((List (List Int)))):=
 match s with
 |(o1_1,v6_1)=>
  (F99 a0 a1).bind fun x11=>
  if v6_1 < x11 then
   (app 24 o1_1 ([([]:List Int)])).bind fun l15=>
   (chk (v6_1+1)).bind fun x16=>
   some (.inl (l15,x16))
  else
   some (.inr o1_1)
def F76(a0:qh)(a1:Int):Option (List (List Int)):=
 (chk ((a0.Dims.length:Int) - 1)).bind fun x1=>
 (F54 a1 1 x1).bind fun x2=>
 if x2=true then
  (chk (a1 - 1)).bind fun x4=>
  (getI a0.Maps x4).bind fun x5=>
  some x5
 else
  (qV (F76_1_S a0 a1) ([],0)).bind fun zo1_1=>
  some zo1_1
def I76_1(a0:qh)(a1:Int)(s:(List (List Int))×Int)(e:Env)(h:Heap):Prop:=
 match s with
 |(o1_1,v6_1)=>
  ∃u8 k9:Nat,h=⟨[(0,none),(u8,some (o1_1.map enc))],k9⟩∧e.length=32∧e.at 1=V.int .i64 a1∧e.at 2=V.iptr [V.int .i64 a0.Prime,V.isl (a0.Dims.map enc),V.isl (a0.Maps.map enc)]∧e.at 5=V.sl 1 u8 0 o1_1.length 1∧e.at 6=V.int .i64 v6_1
def P76_1(a0:qh)(a1:Int)(zo1_1:(List (List Int)))(x:Ex)(e:Env)(h:Heap):Prop:=
 x= .normal∧∃u8 k9:Nat,h=⟨[(0,none),(u8,some (zo1_1.map enc))],k9⟩∧e.length=32∧e.at 5=V.sl 1 u8 0 zo1_1.length 1
theorem l76_1(a0:qh)(a1:Int){s:(List (List Int))×Int}{t:(List (List Int))}(hF:qV (F76_1_S a0 a1) s=some t){e:Env}{h:Heap}(hI:I76_1 a0 a1 s e h):W A c76_1 e h (P76_1 a0 a1 t):=by
 show W A (.block 0 (.loop false b76_1)) e h _;rw[qr];refine jh hF 2 (by rcases s with⟨_,_⟩; obtain⟨_,_,rfl,_⟩:=hI; rfl) (I76_1 a0 a1) hI ?_
 ·rintro⟨o1_1,v6_1⟩ e h ⟨u8,k9,rfl,h_7⟩ o ho
  unfold F76_1_S at ho;dsimp only at ho;obtain⟨x11,gx11,ho⟩:=bS ho;have w12:=s99 a0 a1 gx11;by_cases c13:v6_1 < x11
  ·rw[if_pos c13]at ho
   obtain⟨l15,gl15,ho⟩:=bS ho;have w14:=fun a b c d e=> qA (α:=List Int) (n:=o1_1.length) (m:=1) (ds:=[V.isl []]) gl15 (by first|rfl|simp) (by first|rfl|simp) rfl a b c d e;have w14l:=qM gl15;obtain⟨x16,gx16,ho⟩:=bS ho;have wx16:=qz gx16;cases ho;simp only[simprocAttr,R0,b76_1, *];refine ai rfl (ei _ (ei _ (ai rfl ?_)));simp only[simprocAttr,R0, *]
  ·rw[if_neg c13]at ho
   cases ho;simp only[simprocAttr,R0,b76_1, *];intro ht; subst ht;simp only[simprocAttr,RR,RB];refine ai rfl (ei _ (ei _ (ai rfl ?_)));simp only[simprocAttr,R0, *]
theorem s76(a0:qh)(a1:Int){r:List (List Int)}(hF:F76 a0 a1=some r):ans A 76 [(eC a0),V.int .i64 a1]=some (enc r):=by
 refine qw (f:=p76) rfl rfl rfl fun e hl he=>?_;have h0_0:e.at 0=(eC a0):=he 0 _ rfl;have h1_0:e.at 1=V.int .i64 a1:=he 1 _ rfl;have hl_0:e.length=32:=hl;clear he hl;show W A b76 e ⟨[],0⟩ _;unfold F76 at hF;obtain⟨x1,gx1,hF⟩:=bS hF;have wx1:=qz gx1;obtain⟨x2,gx2,hF⟩:=bS hF;have w3:=s54 a1 1 x1 gx2;cases x2 with
 |true=>
  rw[if_pos rfl]at hF;obtain⟨x4,gx4,hF⟩:=bS hF;have wx4:=qz gx4;obtain⟨x5,gx5,hF⟩:=bS hF;obtain⟨w6a,w6b⟩:=qk gx5;have hE:=wA hF; subst hE;simp only[simprocAttr, -Int.reduceNatCast',R0,b76, *];exact qf (by simp only[simprocAttr, -Int.reduceNatCast',R0,qg,p76,Rs.ev,qc, *])
 |false=>
  rw[if_neg wE]at hF;obtain⟨zo1_1,gt17,hF⟩:=bS hF;simp only[simprocAttr, -Int.reduceNatCast',R0,b76, *];refine W.mono (l76_1 a0 a1 gt17 (ei _ (ei _ (ai rfl ?_)))) ?_
  ·simp only[simprocAttr, -Int.reduceNatCast',R0, *]
  rintro _ e _ ⟨rfl,u8,k9,rfl,hl_10,h5_10⟩;have hE:=wA hF; subst hE;simp only[simprocAttr, -Int.reduceNatCast',R0, *];exact qf (by simp only[simprocAttr, -Int.reduceNatCast',R0,qg,p76,Rs.ev,qc,frzs (α:=List Int) zo1_1,qO (α:=List Int) zo1_1, *])
def F77(a0:qd)(a1:Int)(a2:Int):Option Int:=
 (getI a0.Levels a1).bind fun x1=>
 (getI x1 a2).bind fun x3=>
 some x3
theorem s77(a0:qd)(a1:Int)(a2:Int){r:Int}(hF:F77 a0 a1 a2=some r):ans A 77 [(eF a0),V.int .i64 a1,V.int .i64 a2]=some (enc r):=by
 refine qw (f:=p77) rfl rfl rfl fun e hl he=>?_;have h0_0:e.at 0=(eF a0):=he 0 _ rfl;have h1_0:e.at 1=V.int .i64 a1:=he 1 _ rfl;have h2_0:e.at 2=V.int .i64 a2:=he 2 _ rfl;have hl_0:e.length=15:=hl;clear he hl;show W A b77 e ⟨[],0⟩ _;unfold F77 at hF;obtain⟨x1,gx1,hF⟩:=bS hF;obtain⟨w2a,w2b⟩:=qk gx1;obtain⟨x3,gx3,hF⟩:=bS hF;obtain⟨w4a,w4b⟩:=qk gx3;cases hF;simp only[simprocAttr,R0,b77, *];exact qf (by simp only[simprocAttr,R0,qg,p77,Rs.ev,qc, *])
def F38_2_S(a0:qd)(v3_1:Int)(v4_2:Int):Option ((Int)⊕((Unit)⊕Bool)):=
 (getI a0.Levels v3_1).bind fun x15=>
if v4_2 < (x15.length:Int)then
 (getI x15 v4_2).bind fun x18=>
 (F54 x18 0 5).bind fun x20=>
 if x20=true then
  (chk (v4_2+1)).bind fun x22=>
  some (.inl x22)
 else
  some (.inr (.inr false))
else
 some (.inr (.inl ()))
def F38_1_B(a0:qd)(v3_1:Int)(s:Unit):Option ((Unit)⊕((Unit)⊕Bool)):=
 (getI a0.Levels v3_1).bind fun x7=>
(getI a0.Complex.Dims v3_1).bind fun x9=>
if(x7.length:Int)=x9 then
 (qV (F38_2_S a0 v3_1) 0).bind fun t23=> match t23 with
  | .inl _=>
   some (.inl ())
  | .inr r24=> some (.inr (.inr r24))
else
 some (.inr (.inr false))
def F38_1_D(a0:qd)(v3_1:Int)(s:Unit):Option ((Unit)⊕Bool):=
 some (.inl ())
def F38_5_S(a0:qd)(v5_3:Int)(x29:List (List Int))(v7_4:Int)(v8_5:Int):Option ((Int)⊕((Unit)⊕Bool)):=
 (getI x29 v7_4).bind fun x37=>
if v8_5 < (x37.length:Int)then
 (getI x37 v8_5).bind fun x40=>
 if x40=0 then
  (chk (v8_5+1)).bind fun x43=>
  some (.inl x43)
 else
  (chk (v5_3 - 1)).bind fun x44=>
  (F77 a0 x44 v8_5).bind fun x45=>
  (F77 a0 v5_3 v7_4).bind fun x47=>
  if x47 < x45 then
   some (.inr (.inr false))
  else
   (chk (v8_5+1)).bind fun x50=>
   some (.inl x50)
else
 some (.inr (.inl ()))
def F38_4_B(a0:qd)(v5_3:Int)(x29:List (List Int))(v7_4:Int)(s:Unit):Option ((Unit)⊕((Unit)⊕Bool)):=
 (qV (F38_5_S a0 v5_3 x29 v7_4) 0).bind fun t51=> match t51 with
 | .inl _=>
  some (.inl ())
 | .inr r52=> some (.inr (.inr r52))
def F38_4_D(a0:qd)(v5_3:Int)(x29:List (List Int))(v7_4:Int)(s:Unit):Option ((Unit)⊕Bool):=
 some (.inl ())
def F38_3_B(a0:qd)(v5_3:Int)(s:Unit):Option ((Unit)⊕((Unit)⊕Bool)):=
 (F76 a0.Complex v5_3).bind fun x29=>
(forR 0 (x29.length:Int) (F38_4_B a0 v5_3 x29) (F38_4_D a0 v5_3 x29) ()).bind fun t53=> match t53 with
 | .inl _=>
  some (.inl ())
 | .inr r54=> some (.inr (.inr r54))
def F38_3_D(a0:qd)(v5_3:Int)(s:Unit):Option ((Unit)⊕Bool):=
 some (.inl ())
def F38(a0:qd):Option Bool:=
 (F39 a0.Complex).bind fun x1=>
 if x1=true then
  if(a0.Levels.length:Int)=(a0.Complex.Dims.length:Int)then
   (forR 0 (a0.Levels.length:Int) (F38_1_B a0) (F38_1_D a0) ()).bind fun t25=> match t25 with
    | .inl _=>
     (forR 1 (a0.Levels.length:Int) (F38_3_B a0) (F38_3_D a0) ()).bind fun t55=> match t55 with
      | .inl _=>
       some true
      | .inr r56=> some r56
    | .inr r57=> some r57
  else
   some false
 else
  some false
def I38_2(a0:qd)(v3_1:Int)(v4_2:Int)(e:Env)(h:Heap):Prop:=
 ∃k13:Nat,h=⟨[(0,none)],k13⟩∧e.length=109∧e.at 1=V.iptr [V.int .i64 a0.Complex.Prime,V.isl (a0.Complex.Dims.map enc),V.isl (a0.Complex.Maps.map enc),V.isl (a0.Levels.map enc)]∧e.at 3=V.int .i64 v3_1∧e.at 4=V.int .i64 v4_2
def P38_2(a0:qd)(v3_1:Int)(t:(Unit)⊕Bool)(x:Ex)(e:Env)(h:Heap):Prop:=
 match t with
 | .inl _=> x= .normal∧∃k13:Nat,h=⟨[(0,none)],k13⟩∧e.length=109∧e.at 1=V.iptr [V.int .i64 a0.Complex.Prime,V.isl (a0.Complex.Dims.map enc),V.isl (a0.Complex.Maps.map enc),V.isl (a0.Levels.map enc)]∧e.at 3=V.int .i64 v3_1
 | .inr r=> x= .ret∧Fin p38 (enc r) .ret e h
theorem l38_2(a0:qd)(v3_1:Int){s:Int}{t:(Unit)⊕Bool}(hF:qV (F38_2_S a0 v3_1) s=some t){e:Env}{h:Heap}(hI:I38_2 a0 v3_1 s e h):W A c38_2 e h (P38_2 a0 v3_1 t):=by
 show W A (.block 2 (.loop false b38_2)) e h _;rw[qr];refine jh hF 1 (by obtain⟨_,rfl,_⟩:=hI; rfl) (I38_2 a0 v3_1) hI ?_
 ·rintro v4_2 e h ⟨k13,rfl,h_12⟩ o ho
  unfold F38_2_S at ho;obtain⟨x15,gx15,ho⟩:=bS ho;obtain⟨w16a,w16b⟩:=qk gx15;by_cases c17:v4_2 < (x15.length:Int)
  ·rw[if_pos c17]at ho
   obtain⟨x18,gx18,ho⟩:=bS ho;obtain⟨w19a,w19b⟩:=qk gx18;obtain⟨x20,gx20,ho⟩:=bS ho;have w21:=s54 x18 0 5 gx20;cases x20 with
   |true=>
    rw[if_pos rfl]at ho;obtain⟨x22,gx22,ho⟩:=bS ho;have wx22:=qz gx22;cases ho;simp only[simprocAttr,R0,b38_2, *];refine ai rfl (ei _ (ai rfl ?_));simp only[simprocAttr,R0, *]
   |false=>
    rw[if_neg wE]at ho;cases ho;simp only[simprocAttr,R0,b38_2, *];intro ht; subst ht;simp only[simprocAttr,RR,RB];exact ai rfl (qf (by simp only[simprocAttr,R0,qg,p38,Rs.ev,qc, *]))
  ·rw[if_neg c17]at ho
   cases ho;simp only[simprocAttr,R0,b38_2, *];intro ht; subst ht;simp only[simprocAttr,RR,RB];refine ai rfl (ei _ (ai rfl ?_));simp only[simprocAttr,R0, *]
def I38_1(a0:qd)(v3_1:Int)(s:Unit)(e:Env)(h:Heap):Prop:=
 ∃k5:Nat,h=⟨[(0,none)],k5⟩∧e.length=109∧e.at 1=V.iptr [V.int .i64 a0.Complex.Prime,V.isl (a0.Complex.Dims.map enc),V.isl (a0.Complex.Maps.map enc),V.isl (a0.Levels.map enc)]∧e.at 3=V.int .i64 v3_1
def P38_1(a0:qd)(t:(Unit)⊕Bool)(x:Ex)(e:Env)(h:Heap):Prop:=
 match t with
 | .inl _=> x= .normal∧∃k5:Nat,h=⟨[(0,none)],k5⟩∧e.length=109∧e.at 1=V.iptr [V.int .i64 a0.Complex.Prime,V.isl (a0.Complex.Dims.map enc),V.isl (a0.Complex.Maps.map enc),V.isl (a0.Levels.map enc)]
 | .inr r=> x= .ret∧Fin p38 (enc r) .ret e h
theorem l38_1(a0:qd){lo:Int}{s:Unit}{t:(Unit)⊕Bool}(hF:forR lo (a0.Levels.length:Int) (F38_1_B a0) (F38_1_D a0) s=some t){e:Env}{h:Heap}(hI:I38_1 a0 lo s e h):W A c38_1 e h (P38_1 a0 t):=by
 show W A (.block 0 (.loop false b38_1)) e h _;rw[qr];refine qD hF 1 (by obtain⟨_,rfl,_⟩:=hI; rfl) (I38_1 a0) hI ?_ ?_
 ·rintro v3_1 _ e h ⟨k5,rfl,h_4⟩ hlt hw o ho
  unfold F38_1_B at ho;obtain⟨x7,gx7,ho⟩:=bS ho;obtain⟨w8a,w8b⟩:=qk gx7;obtain⟨x9,gx9,ho⟩:=bS ho;obtain⟨w10a,w10b⟩:=qk gx9;by_cases c11:(x7.length:Int)=x9
  ·rw[if_pos c11]at ho
   obtain⟨t23,gt23,ho⟩:=bS ho;rcases t23 with _|r24
   ·dsimp only at ho
    simp only[simprocAttr,R0,b38_1, *];refine W.mono (l38_2 a0 v3_1 gt23 (ei _ (ai rfl ?_))) ?_
    ·simp only[simprocAttr,R0, *]
    rintro _ e _ ⟨rfl,k13,rfl,h_14⟩;cases ho;simp only[simprocAttr,R0, *];refine ai rfl (ei _ (ai rfl ?_));simp only[simprocAttr,R0, *]
   ·dsimp only at ho
    cases ho;simp only[simprocAttr,R0,b38_1, *];refine W.mono (l38_2 a0 v3_1 gt23 (ei _ (ai rfl ?_))) ?_
    ·simp only[simprocAttr,R0, *]
    rintro _ e h ⟨rfl,hq⟩;simp only[simprocAttr,RR,RB];intro ht; subst ht;simp only[simprocAttr,RR,RB];exact ai rfl hq
  ·rw[if_neg c11]at ho
   cases ho;simp only[simprocAttr,R0,b38_1, *];intro ht; subst ht;simp only[simprocAttr,RR,RB];exact ai rfl (qf (by simp only[simprocAttr,R0,qg,p38,Rs.ev,qc, *]))
 ·rintro v3_1 _ e h ⟨k5,rfl,h_4⟩ hge t1 ho
  unfold F38_1_D at ho;cases ho;simp only[simprocAttr,R0,b38_1, *];intro ht; subst ht;refine ai rfl (ei _ (ai rfl ?_));simp only[simprocAttr,R0, *]
def I38_5(a0:qd)(v5_3:Int)(x29:List (List Int))(v7_4:Int)(v8_5:Int)(e:Env)(h:Heap):Prop:=
 ∃k35:Nat,h=⟨[(0,none)],k35⟩∧e.length=109∧e.at 1=V.iptr [V.int .i64 a0.Complex.Prime,V.isl (a0.Complex.Dims.map enc),V.isl (a0.Complex.Maps.map enc),V.isl (a0.Levels.map enc)]∧e.at 5=V.int .i64 v5_3∧e.at 6=V.isl (x29.map enc)∧e.at 7=V.int .i64 v7_4∧e.at 8=V.int .i64 v8_5
def P38_5(a0:qd)(v5_3:Int)(x29:List (List Int))(v7_4:Int)(t:(Unit)⊕Bool)(x:Ex)(e:Env)(h:Heap):Prop:=
 match t with
 | .inl _=> x= .normal∧∃k35:Nat,h=⟨[(0,none)],k35⟩∧e.length=109∧e.at 1=V.iptr [V.int .i64 a0.Complex.Prime,V.isl (a0.Complex.Dims.map enc),V.isl (a0.Complex.Maps.map enc),V.isl (a0.Levels.map enc)]∧e.at 5=V.int .i64 v5_3∧e.at 6=V.isl (x29.map enc)∧e.at 7=V.int .i64 v7_4
 | .inr r=> x= .ret∧Fin p38 (enc r) .ret e h
theorem l38_5(a0:qd)(v5_3:Int)(x29:List (List Int))(v7_4:Int){s:Int}{t:(Unit)⊕Bool}(hF:qV (F38_5_S a0 v5_3 x29 v7_4) s=some t){e:Env}{h:Heap}(hI:I38_5 a0 v5_3 x29 v7_4 s e h):W A c38_5 e h (P38_5 a0 v5_3 x29 v7_4 t):=by
 show W A (.block 8 (.loop false b38_5)) e h _;rw[qr];refine jh hF 1 (by obtain⟨_,rfl,_⟩:=hI; rfl) (I38_5 a0 v5_3 x29 v7_4) hI ?_
 ·rintro v8_5 e h ⟨k35,rfl,h_34⟩ o ho
  unfold F38_5_S at ho;obtain⟨x37,gx37,ho⟩:=bS ho;obtain⟨w38a,w38b⟩:=qk gx37;by_cases c39:v8_5 < (x37.length:Int)
  ·rw[if_pos c39]at ho
   obtain⟨x40,gx40,ho⟩:=bS ho;obtain⟨w41a,w41b⟩:=qk gx40;by_cases c42:x40=0
   ·rw[if_pos c42]at ho
    obtain⟨x43,gx43,ho⟩:=bS ho;have wx43:=qz gx43;cases ho;simp only[simprocAttr,R0,b38_5, *];refine ai rfl (ei _ (ai rfl ?_));simp only[simprocAttr,R0, *]
   ·rw[if_neg c42]at ho
    obtain⟨x44,gx44,ho⟩:=bS ho;have wx44:=qz gx44;obtain⟨x45,gx45,ho⟩:=bS ho;have w46:=s77 a0 x44 v8_5 gx45;obtain⟨x47,gx47,ho⟩:=bS ho;have w48:=s77 a0 v5_3 v7_4 gx47;by_cases c49:x47 < x45
    ·rw[if_pos c49]at ho
     cases ho;simp only[simprocAttr,R0,b38_5, *];intro ht; subst ht;simp only[simprocAttr,RR,RB];exact ai rfl (qf (by simp only[simprocAttr,R0,qg,p38,Rs.ev,qc, *]))
    ·rw[if_neg c49]at ho
     obtain⟨x50,gx50,ho⟩:=bS ho;have wx50:=qz gx50;cases ho;simp only[simprocAttr,R0,b38_5, *];refine ai rfl (ei _ (ai rfl ?_));simp only[simprocAttr,R0, *]
  ·rw[if_neg c39]at ho
   cases ho;simp only[simprocAttr,R0,b38_5, *];intro ht; subst ht;simp only[simprocAttr,RR,RB];refine ai rfl (ei _ (ai rfl ?_));simp only[simprocAttr,R0, *]
def I38_4(a0:qd)(v5_3:Int)(x29:List (List Int))(v7_4:Int)(s:Unit)(e:Env)(h:Heap):Prop:=
 ∃k32:Nat,h=⟨[(0,none)],k32⟩∧e.length=109∧e.at 1=V.iptr [V.int .i64 a0.Complex.Prime,V.isl (a0.Complex.Dims.map enc),V.isl (a0.Complex.Maps.map enc),V.isl (a0.Levels.map enc)]∧e.at 5=V.int .i64 v5_3∧e.at 6=V.isl (x29.map enc)∧e.at 7=V.int .i64 v7_4
def P38_4(a0:qd)(v5_3:Int)(x29:List (List Int))(t:(Unit)⊕Bool)(x:Ex)(e:Env)(h:Heap):Prop:=
 match t with
 | .inl _=> x= .normal∧∃k32:Nat,h=⟨[(0,none)],k32⟩∧e.length=109∧e.at 1=V.iptr [V.int .i64 a0.Complex.Prime,V.isl (a0.Complex.Dims.map enc),V.isl (a0.Complex.Maps.map enc),V.isl (a0.Levels.map enc)]∧e.at 5=V.int .i64 v5_3
 | .inr r=> x= .ret∧Fin p38 (enc r) .ret e h
theorem l38_4(a0:qd)(v5_3:Int)(x29:List (List Int)){lo:Int}{s:Unit}{t:(Unit)⊕Bool}(hF:forR lo (x29.length:Int) (F38_4_B a0 v5_3 x29) (F38_4_D a0 v5_3 x29) s=some t){e:Env}{h:Heap}(hI:I38_4 a0 v5_3 x29 lo s e h):W A c38_4 e h (P38_4 a0 v5_3 x29 t):=by
 show W A (.block 6 (.loop false b38_4)) e h _;rw[qr];refine qD hF 1 (by obtain⟨_,rfl,_⟩:=hI; rfl) (I38_4 a0 v5_3 x29) hI ?_ ?_
 ·rintro v7_4 _ e h ⟨k32,rfl,h_31⟩ hlt hw o ho
  unfold F38_4_B at ho;obtain⟨t51,gt51,ho⟩:=bS ho;rcases t51 with _|r52
  ·dsimp only at ho
   simp only[simprocAttr,R0,b38_4, *];refine W.mono (l38_5 a0 v5_3 x29 v7_4 gt51 (ei _ (ai rfl ?_))) ?_
   ·simp only[simprocAttr,R0, *]
   rintro _ e _ ⟨rfl,k35,rfl,h_36⟩;cases ho;simp only[simprocAttr,R0, *];refine ai rfl (ei _ (ai rfl ?_));simp only[simprocAttr,R0, *]
  ·dsimp only at ho
   cases ho;simp only[simprocAttr,R0,b38_4, *];refine W.mono (l38_5 a0 v5_3 x29 v7_4 gt51 (ei _ (ai rfl ?_))) ?_
   ·simp only[simprocAttr,R0, *]
   rintro _ e h ⟨rfl,hq⟩;simp only[simprocAttr,RR,RB];intro ht; subst ht;simp only[simprocAttr,RR,RB];exact ai rfl hq
 ·rintro v7_4 _ e h ⟨k32,rfl,h_31⟩ hge t1 ho
  unfold F38_4_D at ho;cases ho;simp only[simprocAttr,R0,b38_4, *];intro ht; subst ht;refine ai rfl (ei _ (ai rfl ?_));simp only[simprocAttr,R0, *]
def I38_3(a0:qd)(v5_3:Int)(s:Unit)(e:Env)(h:Heap):Prop:=
 ∃k27:Nat,h=⟨[(0,none)],k27⟩∧e.length=109∧e.at 1=V.iptr [V.int .i64 a0.Complex.Prime,V.isl (a0.Complex.Dims.map enc),V.isl (a0.Complex.Maps.map enc),V.isl (a0.Levels.map enc)]∧e.at 5=V.int .i64 v5_3
def P38_3(a0:qd)(t:(Unit)⊕Bool)(x:Ex)(e:Env)(h:Heap):Prop:=
 match t with
 | .inl _=> x= .normal∧∃k27:Nat,h=⟨[(0,none)],k27⟩∧e.length=109
 | .inr r=> x= .ret∧Fin p38 (enc r) .ret e h
theorem l38_3(a0:qd){lo:Int}{s:Unit}{t:(Unit)⊕Bool}(hF:forR lo (a0.Levels.length:Int) (F38_3_B a0) (F38_3_D a0) s=some t){e:Env}{h:Heap}(hI:I38_3 a0 lo s e h):W A c38_3 e h (P38_3 a0 t):=by
 show W A (.block 4 (.loop false b38_3)) e h _;rw[qr];refine qD hF 1 (by obtain⟨_,rfl,_⟩:=hI; rfl) (I38_3 a0) hI ?_ ?_
 ·rintro v5_3 _ e h ⟨k27,rfl,h_26⟩ hlt hw o ho
  unfold F38_3_B at ho;obtain⟨x29,gx29,ho⟩:=bS ho;have w30:=s76 a0.Complex v5_3 gx29;obtain⟨t53,gt53,ho⟩:=bS ho;rcases t53 with _|r54
  ·dsimp only at ho
   simp only[simprocAttr,R0,b38_3, *];refine W.mono (l38_4 a0 v5_3 x29 gt53 (ei _ (ai rfl ?_))) ?_
   ·simp only[simprocAttr,R0, *]
   rintro _ e _ ⟨rfl,k32,rfl,h_33⟩;cases ho;simp only[simprocAttr,R0, *];refine ai rfl (ei _ (ai rfl ?_));simp only[simprocAttr,R0, *]
  ·dsimp only at ho
   cases ho;simp only[simprocAttr,R0,b38_3, *];refine W.mono (l38_4 a0 v5_3 x29 gt53 (ei _ (ai rfl ?_))) ?_
   ·simp only[simprocAttr,R0, *]
   rintro _ e h ⟨rfl,hq⟩;simp only[simprocAttr,RR,RB];intro ht; subst ht;simp only[simprocAttr,RR,RB];exact ai rfl hq
 ·rintro v5_3 _ e h ⟨k27,rfl,h_26⟩ hge t1 ho
  unfold F38_3_D at ho;cases ho;simp only[simprocAttr,R0,b38_3, *];intro ht; subst ht;refine ai rfl (ei _ (ai rfl ?_));simp only[simprocAttr,R0, *]
theorem s38(a0:qd){r:Bool}(hF:F38 a0=some r):ans A 38 [(eF a0)]=some (enc r):=by
 refine qw (f:=p38) rfl rfl rfl fun e hl he=>?_;have h0_0:e.at 0=(eF a0):=he 0 _ rfl;have hl_0:e.length=109:=hl;clear he hl;have h_0:=ai hl_0 h0_0;show W A b38 e ⟨[],0⟩ _;unfold F38 at hF;obtain⟨x1,gx1,hF⟩:=bS hF;have w2:=s39 a0.Complex gx1;cases x1 with
 |true=>
  rw[if_pos rfl]at hF;by_cases c3:(a0.Levels.length:Int)=(a0.Complex.Dims.length:Int)
  ·rw[if_pos c3]at hF
   obtain⟨t25,gt25,hF⟩:=bS hF;rcases t25 with _|r57
   ·dsimp only at hF
    simp only[simprocAttr,R0,b38, *];refine W.mono (l38_1 a0 gt25 (ei _ (ai rfl ?_))) ?_
    ·simp only[simprocAttr,R0, *]
    rintro _ e _ ⟨rfl,k5,rfl,h_6⟩;obtain⟨t55,gt55,hF⟩:=bS hF;rcases t55 with _|r56
    ·dsimp only at hF
     simp only[simprocAttr,R0, *];refine W.mono (l38_3 a0 gt55 (ei _ (ai rfl ?_))) ?_
     ·simp only[simprocAttr,R0, *]
     rintro _ e _ ⟨rfl,k27,rfl,hl_28⟩;cases hF;simp only[simprocAttr,R0, *];exact qf (by simp only[simprocAttr,R0,qg,p38,Rs.ev,qc, *])
    ·dsimp only at hF
     cases hF;simp only[simprocAttr,R0, *];refine W.mono (l38_3 a0 gt55 (ei _ (ai rfl ?_))) ?_
     ·simp only[simprocAttr,R0, *]
     rintro _ e h ⟨rfl,hq⟩;simp only[simprocAttr,RR,RB];exact hq
   ·dsimp only at hF
    cases hF;simp only[simprocAttr,R0,b38, *];refine W.mono (l38_1 a0 gt25 (ei _ (ai rfl ?_))) ?_
    ·simp only[simprocAttr,R0, *]
    rintro _ e h ⟨rfl,hq⟩;simp only[simprocAttr,RR,RB];exact hq
  ·rw[if_neg c3]at hF
   cases hF;simp only[simprocAttr,R0,b38, *];exact qf (by simp only[simprocAttr,R0,qg,p38,Rs.ev,qc, *])
 |false=>
  rw[if_neg wE]at hF;cases hF;simp only[simprocAttr,R0,b38, *];exact qf (by simp only[simprocAttr,R0,qg,p38,Rs.ev,qc, *])
def F247(a0:qd)(a1:Int)(a2:Int)(a3:Int):Option Int:=
 (F38 a0).bind fun x1=>
 if x1=true then
  (F54 a1 0 8).bind fun x3=>
  if x3=true then
   (chk ((a0.Levels.length:Int) - 1)).bind fun x5=>
   (F54 a2 0 x5).bind fun x6=>
   if x6=true then
    (F54 a3 0 5).bind fun x8=>
    if x8=true then
     some 0
    else
     some 2
   else
    some 2
  else
   some 2
 else
  some 1
theorem s247(a0:qd)(a1:Int)(a2:Int)(a3:Int){r:Int}(hF:F247 a0 a1 a2 a3=some r):ans A 247 [(eF a0),V.int .i64 a1,V.int .i64 a2,V.int .i64 a3]=some (enc r):=by
 refine qw (f:=p247) rfl rfl rfl fun e hl he=>?_;have h0_0:e.at 0=(eF a0):=he 0 _ rfl;have h1_0:e.at 1=V.int .i64 a1:=he 1 _ rfl;have h2_0:e.at 2=V.int .i64 a2:=he 2 _ rfl;have h3_0:e.at 3=V.int .i64 a3:=he 3 _ rfl;have hl_0:e.length=31:=hl;clear he hl;have h_0:=ai hl_0 (ai h0_0 (ai h1_0 (ai h2_0 h3_0)));show W A b247 e ⟨[],0⟩ _;unfold F247 at hF;obtain⟨x1,gx1,hF⟩:=bS hF;have w2:=s38 a0 gx1;cases x1 with
 |true=>
  rw[if_pos rfl]at hF;obtain⟨x3,gx3,hF⟩:=bS hF;have w4:=s54 a1 0 8 gx3;cases x3 with
  |true=>
   rw[if_pos rfl]at hF;obtain⟨x5,gx5,hF⟩:=bS hF;have wx5:=qz gx5;obtain⟨x6,gx6,hF⟩:=bS hF;have w7:=s54 a2 0 x5 gx6;cases x6 with
   |true=>
    rw[if_pos rfl]at hF;obtain⟨x8,gx8,hF⟩:=bS hF;have w9:=s54 a3 0 5 gx8;cases x8 with
    |true=>
     rw[if_pos rfl]at hF;cases hF;simp only[simprocAttr,R0,b247, *];exact qf (by simp only[simprocAttr,R0,qg,p247,Rs.ev,qc, *])
    |false=>
     rw[if_neg wE]at hF;cases hF;simp only[simprocAttr,R0,b247, *];exact qf (by simp only[simprocAttr,R0,qg,p247,Rs.ev,qc, *])
   |false=>
    rw[if_neg wE]at hF;cases hF;simp only[simprocAttr,R0,b247, *];exact qf (by simp only[simprocAttr,R0,qg,p247,Rs.ev,qc, *])
  |false=>
   rw[if_neg wE]at hF;cases hF;simp only[simprocAttr,R0,b247, *];exact qf (by simp only[simprocAttr,R0,qg,p247,Rs.ev,qc, *])
 |false=>
  rw[if_neg wE]at hF;cases hF;simp only[simprocAttr,R0,b247, *];exact qf (by simp only[simprocAttr,R0,qg,p247,Rs.ev,qc, *])
def F94(a0:List Int):Option (List Int):=
 (app 8 ([]:List Int) a0).bind fun l2=>
 some l2
theorem s94(a0:List Int){r:List Int}(hF:F94 a0=some r):ans A 94 [V.isl (a0.map enc)]=some (enc r):=by
 refine qw (f:=p94) rfl rfl rfl fun e hl he=>?_;have h0_0:e.at 0=V.isl (a0.map enc):=he 0 _ rfl;have hl_0:e.length=6:=hl;clear he hl;show W A b94 e ⟨[],0⟩ _;unfold F94 at hF;obtain⟨l2,gl2,hF⟩:=bS hF;have w1:=fun ents key uid clk he=> qA (α:=Int) (n:=0) (m:=a0.length) (ds:=List.map enc a0) gl2 (by first|rfl|simp only[vD]) (by first|rfl|simp only[vD]) rfl ents key uid clk he;have w1l:=qM gl2;have hE:=wA hF; subst hE;simp only[simprocAttr, -Int.reduceNatCast',R0,b94,hl_0,h0_0,w1];exact qf (by simp only[simprocAttr, -Int.reduceNatCast',R0,qg,p94,Rs.ev,qc,hl_0,h0_0,w1,frzs (α:=Int) l2,qO (α:=Int) l2])
theorem t94(a0:List Int){r:List Int}(hF:F94 a0=some r):tans A 94 [1] [V.isl (a0.map enc)]=some (enc r):=by
 refine tans_of (f:=p94) rfl rfl rfl fun e hl he=>?_;have h0_0:e.at 0=V.isl (a0.map enc):=he 0 _ rfl;have hl_0:e.length=6:=hl;clear he hl;show W A b94 e ⟨[],0⟩ _;unfold F94 at hF;obtain⟨l2,gl2,hF⟩:=bS hF;have w1:=fun ents key uid clk he=> qA (α:=Int) (n:=0) (m:=a0.length) (ds:=List.map enc a0) gl2 (by first|rfl|simp only[vD]) (by first|rfl|simp only[vD]) rfl ents key uid clk he;have w1l:=qM gl2;have hE:=wA hF; subst hE;simp only[simprocAttr, -Int.reduceNatCast',R0,b94,hl_0,h0_0,w1];exact tfin_ret (by simp only[simprocAttr, -Int.reduceNatCast',R0,qg,p94,Rs.ev,qc,hl_0,h0_0,w1,frzs (α:=Int) l2,qO (α:=Int) l2])
def F127(a0:Int)(a1:Int):Option Int:=
 (remI a1 a0).bind fun x1=>
 (chk (x1+a0)).bind fun x3=>
 (remI x3 a0).bind fun x4=>
 some x4
theorem s127(a0:Int)(a1:Int){r:Int}(hF:F127 a0 a1=some r):ans A 127 [V.int .i64 a0,V.int .i64 a1]=some (enc r):=by
 refine qw (f:=p127) rfl rfl rfl fun e hl he=>?_;have h0_0:e.at 0=V.int .i64 a0:=he 0 _ rfl;have h1_0:e.at 1=V.int .i64 a1:=he 1 _ rfl;have hl_0:e.length=12:=hl;clear he hl;show W A b127 e ⟨[],0⟩ _;unfold F127 at hF;obtain⟨x1,gx1,hF⟩:=bS hF;obtain⟨w2a,w2b⟩:=rem_w gx1;obtain⟨x3,gx3,hF⟩:=bS hF;have wx3:=qz gx3;obtain⟨x4,gx4,hF⟩:=bS hF;obtain⟨w5a,w5b⟩:=rem_w gx4;cases hF;simp only[simprocAttr,R0,b127, *];exact qf (by simp only[simprocAttr,R0,qg,p127,Rs.ev,qc, *])
end
end Rv
