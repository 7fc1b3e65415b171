/- What the abstract code answers: typed functions, part 1. -/
import Derived.Test.YtgiabfngopkpmaaGreatTpp
set_option maxHeartbeats 8000000
namespace Rv
open Enc (enc)
theorem ai{a b:Prop}(x:a)(y:b):a∧b:=⟨x,y⟩
theorem ei.{u}{α:Sort u}{p:α→Prop}(w:α)(h:p w):∃x,p x:=⟨w,h⟩
set_option linter.unusedVariables false
set_option linter.unusedSimpArgs false
set_option maxRecDepth 100000
noncomputable section
abbrev eC(x:qh):V:=V.agg [V.int .i64 x.Prime,V.isl (x.Dims.map enc),V.isl (x.Maps.map enc)]
abbrev eF(x:qg):V:=V.agg [V.int .i64 x.Complex.Prime,V.isl (x.Complex.Dims.map enc),V.isl (x.Complex.Maps.map enc),V.isl (x.Levels.map enc)]
abbrev eK(x:qj):V:=V.agg [V.isl (x.Down.map enc),V.isl (x.Up.map enc),V.isl (x.Back.map enc)]
theorem R1:type_of%(ai RR (ai RB (ai RZ (ai @ii_eq <|ai @nn_eq <|ai @oM_e <|ai @oL_e <|ai @oS_e <|ai @oF_e <|ai @oB_e <|ai @oC_e <|ai @oI_e <|ai @oN_e <|ai @oP_e <|ai @oQ_e <|ai @oR_e <|ai @oU_e <|ai @opEv.eq_1 <|ai @opEv.eq_2 <|ai @opEv.eq_3 <|ai @opEv.eq_4 <|ai @opEv.eq_5 <|ai @opEv.eq_6 <|ai @opEv.eq_7 <|ai @opEv.eq_8 <|ai @opEv.eq_9 <|ai @opEv.eq_10 <|ai @opEv.eq_11 <|ai @opEv.eq_12 <|ai @opEv.eq_13 <|ai @opEv.eq_14 <|ai @opEv.eq_15 <|ai @opEv.eq_16 <|ai @opEv.eq_17 <|ai @opEv.eq_18 <|ai @opEv.eq_19 <|ai @opEv.eq_20 <|ai @opEv.eq_21 <|ai @opEv.eq_22 <|ai @opEv.eq_23 <|ai @opEv.eq_24 <|ai @opEv.eq_25 <|ai @opEv.eq_26 <|ai @opEv.eq_27 <|ai @opEv.eq_28 <|ai @opEv.eq_29 <|ai @opEv.eq_30 <|ai @opEv.eq_31 <|ai @opEv.eq_32 <|ai @opEv.eq_33 <|ai @opEv.eq_34 <|ai @opEv.eq_35 <|ai @opEv.eq_36 <|ai @opEv.eq_37 <|ai @jL.eq_1 <|ai @jL.eq_2 <|ai @mapO.eq_1 <|ai @mapO.eq_2 <|ai @mapS.eq_1 <| @mapS.eq_2)))):=ai RR (ai RB (ai RZ (ai @ii_eq <|ai @nn_eq <|ai @oM_e <|ai @oL_e <|ai @oS_e <|ai @oF_e <|ai @oB_e <|ai @oC_e <|ai @oI_e <|ai @oN_e <|ai @oP_e <|ai @oQ_e <|ai @oR_e <|ai @oU_e <|ai @opEv.eq_1 <|ai @opEv.eq_2 <|ai @opEv.eq_3 <|ai @opEv.eq_4 <|ai @opEv.eq_5 <|ai @opEv.eq_6 <|ai @opEv.eq_7 <|ai @opEv.eq_8 <|ai @opEv.eq_9 <|ai @opEv.eq_10 <|ai @opEv.eq_11 <|ai @opEv.eq_12 <|ai @opEv.eq_13 <|ai @opEv.eq_14 <|ai @opEv.eq_15 <|ai @opEv.eq_16 <|ai @opEv.eq_17 <|ai @opEv.eq_18 <|ai @opEv.eq_19 <|ai @opEv.eq_20 <|ai @opEv.eq_21 <|ai @opEv.eq_22 <|ai @opEv.eq_23 <|ai @opEv.eq_24 <|ai @opEv.eq_25 <|ai @opEv.eq_26 <|ai @opEv.eq_27 <|ai @opEv.eq_28 <|ai @opEv.eq_29 <|ai @opEv.eq_30 <|ai @opEv.eq_31 <|ai @opEv.eq_32 <|ai @opEv.eq_33 <|ai @opEv.eq_34 <|ai @opEv.eq_35 <|ai @opEv.eq_36 <|ai @opEv.eq_37 <|ai @jL.eq_1 <|ai @jL.eq_2 <|ai @mapO.eq_1 <|ai @mapO.eq_2 <|ai @mapS.eq_1 <| @mapS.eq_2)))
theorem R0:type_of%(ai R1 RE):=ai R1 RE
theorem kS(x:GDga):qB none (List.drop 1 (qb x))=some (V.int .i64 x.Size):=ceGDga_Size_one rfl
theorem kP(x:GDga):qB none (qb x)=some (V.int .i64 x.Prime):=ceGDga_Prime_one (a:=0) rfl
theorem kD(x:GDga){n:Nat}(h:n < 8):qB none (List.drop n (List.drop 2 (qb x)))=some (V.int .i64 (x.Degrees.val.getD n 0)):=by simp only[vO]; exact zC (i:=n) (by omega) h
theorem kL(x:GDga){n:Nat}(h:n < 8):qB none (List.drop n (List.drop 10 (qb x)))=some (V.int .i64 (x.Levels.val.getD n 0)):=by simp only[vO]; exact zF (i:=n) (by omega) h
theorem kI(x:GDga){n:Nat}(h:n < 8):List.take 8 (List.drop (n*8) (List.drop 18 (qb x)))=arc .u8 8 (arP x.Diff.val (n*8) 8):=by simp only[vO]; exact ceGDga_Diff_part (i:=n*8) (m:=8) (by omega) (by omega)
theorem kT(x:GDga){n m:Nat}(h:n < 8)(g:m < 8):List.take 8 (List.drop (m*8) (List.drop (n*64) (List.drop 82 (qb x))))=arc .u8 8 (arP x.Table.val (n*64+m*8) 8):=by simp only[vO]; exact zW (i:=n*64+m*8) (m:=8) (by omega) (by omega)
theorem kIl(x:GDga){n:Nat}(h:n < 8):8≤List.length (List.drop (n*8) (List.drop 18 (qb x))):=by simp only[wU,qw,qf]; omega
theorem kTl(x:GDga){n m:Nat}(h:n < 8)(g:m < 8):8≤List.length (List.drop (m*8) (List.drop (n*64) (List.drop 82 (qb x)))):=by simp only[wU,qw,qf]; omega
theorem k0(l:List Int):List.drop 8 (arc .u8 8 l)=[]:=wC (by rw[qw]; exact wG _)
theorem kA{l:List Int}{n:Nat}(h:n < 8):qB none (List.drop n (arc .u8 8 l))=some (V.int .u8 (l.getD n 0)):=arc_one' (i:=n) (by omega) h
theorem kU(x:GDga){z:GDga}{i:Nat}{y:List Int}(h:some {x with Table:=⟨arU 512 x.Table.val i 8 y⟩}=some z)(a b:Nat)(g:a=82+i∧i+8≤512∧b=a+8):List.take a (qb x)++arc .u8 8 y++List.drop b (qb x)=qb z:=by rw[←wB h]; exact zj (i:=i) g.1 g.2.1 g.2.2
theorem kV(x:GDga){z:GDga}{i:Nat}{y:List Int}(h:some {x with Diff:=⟨arU 64 x.Diff.val i 8 y⟩}=some z)(a b:Nat)(g:a=18+i∧i+8≤64∧b=a+8):List.take a (qb x)++arc .u8 8 y++List.drop b (qb x)=qb z:=by rw[←wB h]; exact ceGDga_Diff_sets (i:=i) g.1 g.2.1 g.2.2
def F67(a0:Int):Option Bool:=
 if a0=2 then
  some true
 else
  if a0=3 then
   some true
  else
   if a0=5 then
    some true
   else
    some (decide (a0=7))
theorem s67(a0:Int){r:Bool}(hF:F67 a0=some r):ans A 67 [V.int .i64 a0]=some (enc r):=by
 refine qp (f:=p67) rfl rfl rfl fun e hl he=>?_;have h0_0:e.at 0=V.int .i64 a0:=he 0 _ rfl;have hl_0:e.length=17:=hl;clear he hl;have h_0:=ai hl_0 h0_0;show W A b67 e ⟨[],0⟩ _;unfold F67 at hF;by_cases c1:a0=2
 ·rw[if_pos c1]at hF
  cases hF;simp only[simprocAttr,R0,b67, *];exact qc (by simp only[simprocAttr,R0,qd,p67,Rs.ev,qa, *])
 ·rw[if_neg c1]at hF
  by_cases c2:a0=3
  ·rw[if_pos c2]at hF
   cases hF;simp only[simprocAttr,R0,b67, *];exact qc (by simp only[simprocAttr,R0,qd,p67,Rs.ev,qa, *])
  ·rw[if_neg c2]at hF
   by_cases c3:a0=5
   ·rw[if_pos c3]at hF
    cases hF;simp only[simprocAttr,R0,b67, *];exact qc (by simp only[simprocAttr,R0,qd,p67,Rs.ev,qa, *])
   ·rw[if_neg c3]at hF
    cases hF;simp only[simprocAttr,R0,b67, *];exact qc (by simp only[simprocAttr,R0,qd,p67,Rs.ev,qa, *])
def F69(a0:GDga)(a1:Int):Option (Ar .u8 8):=
 (ixI 8 a1).bind fun n3=>
 (some (arW 8 [] n3 1)).bind fun l5=>
 some ⟨l5⟩
theorem s69(a0:GDga)(a1:Int){r:Ar .u8 8}(hF:F69 a0 a1=some r):ans A 69 [V.agg (qb a0),V.int .i64 a1]=some (enc r):=by
 refine qp (f:=p69) rfl rfl rfl fun e hl he=>?_;have h0_0:e.at 0=V.agg (qb a0):=he 0 _ rfl;have h1_0:e.at 1=V.int .i64 a1:=he 1 _ rfl;have hl_0:e.length=10:=hl;clear he hl;show W A b69 e ⟨[],0⟩ _;unfold F69 at hF;have w2:=k0 [];obtain⟨n3,gn3,hF⟩:=bS hF;obtain⟨w4a,w4b,w4c,w4d⟩:=qR gn3;obtain⟨l5,gl5,hF⟩:=bS hF;have w6:List.take n3 (arc .u8 8 [])++[V.int .u8 1]++List.drop (n3+1) (arc .u8 8 [])=arc .u8 8 l5:=by rw[←wB gl5]; exact arc_set (by omega)
 have w6l:n3+1≤8:=by omega
 have w9:=k0 [];cases hF;simp only[simprocAttr, -Int.reduceNatCast',R0,b69,wA,wA, *];exact qc (by simp only[simprocAttr, -Int.reduceNatCast',R0,qd,p69,Rs.ev,qa,wA,wA, *])
def F73(a0:List Int):Option Int:=
 some (a0.length:Int)
theorem s73(a0:List Int){r:Int}(hF:F73 a0=some r):ans A 73 [V.isl (a0.map enc)]=some (enc r):=by
 refine qp (f:=p73) rfl rfl rfl fun e hl he=>?_;have h0_0:e.at 0=V.isl (a0.map enc):=he 0 _ rfl;have hl_0:e.length=5:=hl;clear he hl;show W A b73 e ⟨[],0⟩ _;unfold F73 at hF;cases hF;simp only[simprocAttr,R0,b73, *];exact qc (by simp only[simprocAttr,R0,qd,p73,Rs.ev,qa, *])
def F68_1_B(a1:List Int)(a2:List Int)(v16_1:Int)(o1_1:GDga):Option ((GDga)⊕(GDga)):=
 (getI a1 v16_1).bind fun x7=>
(getI a2 v16_1).bind fun x9=>
(ixI 8 v16_1).bind fun n11=>
(some {o1_1 with Degrees:=⟨arW 8 o1_1.Degrees.val n11 x7⟩}).bind fun z14=>
(some {z14 with Levels:=⟨arW 8 z14.Levels.val n11 x9⟩}).bind fun z16=>
(F69 z16 v16_1).bind fun x17=>
(some {z16 with Table:=⟨arU 512 z16.Table.val (n11*8) 8 x17.val⟩}).bind fun z20=>
(some {z20 with Table:=⟨arU 512 z20.Table.val (n11*64) 8 x17.val⟩}).bind fun z22=>
some (.inl z22)
def F68_1_D(a1:List Int)(a2:List Int)(v16_1:Int)(o1_1:GDga):Option (GDga):=
 some o1_1
def F68(a0:Int)(a1:List Int)(a2:List Int):Option GDga:=
 (forR 0 (a1.length:Int) (F68_1_B a1 a2) (F68_1_D a1 a2) (⟨a0,(a1.length:Int),⟨[]⟩,⟨[]⟩,⟨[]⟩,⟨[]⟩⟩:GDga)).bind fun zo1_1=>
 some zo1_1
def I68_1(a1:List Int)(a2:List Int)(v16_1:Int)(o1_1:GDga)(e:Env)(h:Heap):Prop:=
 ∃k5:Nat,h=⟨[(0,some (qb (⟨0,0,⟨[]⟩,⟨[]⟩,⟨[]⟩,⟨[]⟩⟩:GDga))),(1,some (qb o1_1))],k5⟩∧e.length=48∧e.at 2=V.isl (a2.map enc)∧e.at 6=V.ptr 0 0 0∧e.at 7=V.ptr 1 1 0∧e.at 14=V.isl (a1.map enc)∧e.at 15=V.int .i64 (a1.length:Int)∧e.at 16=V.int .i64 v16_1
def P68_1(a1:List Int)(a2:List Int)(zo1_1:GDga)(x:Ex)(e:Env)(h:Heap):Prop:=
 x= .normal∧∃k5:Nat,h=⟨[(0,some (qb (⟨0,0,⟨[]⟩,⟨[]⟩,⟨[]⟩,⟨[]⟩⟩:GDga))),(1,some (qb zo1_1))],k5⟩∧e.length=48∧e.at 6=V.ptr 0 0 0∧e.at 7=V.ptr 1 1 0
theorem l68_1(a1:List Int)(a2:List Int){lo:Int}{s:GDga}{t:GDga}(hF:forR lo (a1.length:Int) (F68_1_B a1 a2) (F68_1_D a1 a2) s=some t){e:Env}{h:Heap}(hI:I68_1 a1 a2 lo s e h):W A c68_1 e h (P68_1 a1 a2 t):=by
 show W A (.block 0 (.loop false b68_1)) e h _;rw[ql];refine qq hF 2 (by obtain⟨_,rfl,_⟩:=hI; rfl) (I68_1 a1 a2) hI ?_ ?_
 ·rintro v16_1 o1_1 e h ⟨k5,rfl,h_4⟩ hlt hw o ho
  unfold F68_1_B at ho;obtain⟨x7,gx7,ho⟩:=bS ho;obtain⟨w8a,w8b⟩:=qm gx7;obtain⟨x9,gx9,ho⟩:=bS ho;obtain⟨w10a,w10b⟩:=qm gx9;obtain⟨n11,gn11,ho⟩:=bS ho;obtain⟨w12a,w12b,w12c,w12d⟩:=qR gn11;have w8bn:=w8b; rw[w12c]at w8bn;have w10bn:=w10b; rw[w12c]at w10bn;obtain⟨z14,gz14,ho⟩:=bS ho;have w13:List.take (2+n11) (qb o1_1)++[V.int .i64 x7]++List.drop (2+n11+1) (qb o1_1)=qb z14:=by rw[←wB gz14]; exact jE (i:=n11) (by omega) (by omega) (by omega)
  have w13l:2+n11+1≤594:=by omega
  obtain⟨z16,gz16,ho⟩:=bS ho;have w15:List.take (10+n11) (qb z14)++[V.int .i64 x9]++List.drop (10+n11+1) (qb z14)=qb z16:=by rw[←wB gz16]; exact ceGDga_Levels_set (i:=n11) (by omega) (by omega) (by omega)
  have w15l:10+n11+1≤594:=by omega
  obtain⟨x17,gx17,ho⟩:=bS ho;have w18:=s69 z16 v16_1 gx17;obtain⟨z20,gz20,ho⟩:=bS ho;have w19:List.take (82+n11*8) (qb z16)++arc .u8 8 x17.val++List.drop (82+n11*8+8) (qb z16)=qb z20:=by rw[←wB gz20]; exact zj (i:=n11*8) (m:=8) (by omega) (by omega) (by omega)
  have w19l:82+n11*8+8≤594:=by omega
  obtain⟨z22,gz22,ho⟩:=bS ho;have w21:List.take (82+n11*64) (qb z20)++arc .u8 8 x17.val++List.drop (82+n11*64+8) (qb z20)=qb z22:=by rw[←wB gz22]; exact zj (i:=n11*64) (m:=8) (by omega) (by omega) (by omega)
  have w21l:82+n11*64+8≤594:=by omega
  cases ho;simp only[simprocAttr, -Int.reduceNatCast',R0,b68_1,(eq_true (show(0:Int) < ((8:Nat):Int) from by decide)), *];refine ai rfl (ei _ (ai rfl ?_));simp only[simprocAttr, -Int.reduceNatCast',R0,(eq_true (show(0:Int) < ((8:Nat):Int) from by decide)), *]
 ·rintro v16_1 o1_1 e h ⟨k5,rfl,h_4⟩ hge t1 ho
  unfold F68_1_D at ho;cases ho;simp only[simprocAttr, -Int.reduceNatCast',R0,b68_1, *];intro ht; subst ht;refine ai rfl (ei _ (ai rfl ?_));simp only[simprocAttr, -Int.reduceNatCast',R0, *]
theorem s68(a0:Int)(a1:List Int)(a2:List Int){r:GDga}(hF:F68 a0 a1 a2=some r):ans A 68 [V.int .i64 a0,V.isl (a1.map enc),V.isl (a2.map enc)]=some (enc r):=by
 refine qp (f:=p68) rfl rfl rfl fun e hl he=>?_;have h0_0:e.at 0=V.int .i64 a0:=he 0 _ rfl;have h1_0:e.at 1=V.isl (a1.map enc):=he 1 _ rfl;have h2_0:e.at 2=V.isl (a2.map enc):=he 2 _ rfl;have hl_0:e.length=48:=hl;clear he hl;show W A b68 e ⟨[],0⟩ _;unfold F68 at hF;have w2:=s73 a1 rfl;obtain⟨zo1_1,gt23,hF⟩:=bS hF;simp only[simprocAttr,R0,b68,qe,qe,qf,wU,qU,qe,(wC (Nat.le_of_eq (qf (⟨0,0,⟨[]⟩,⟨[]⟩,⟨[]⟩,⟨[]⟩⟩:GDga))):List.drop 594 (qb (⟨0,0,⟨[]⟩,⟨[]⟩,⟨[]⟩,⟨[]⟩⟩:GDga))=[]),wA, *];refine W.mono (l68_1 a1 a2 gt23 (ei _ (ai rfl ?_))) ?_
 ·simp only[simprocAttr,R0,qe,qe,qf,wU,qU,qe,(wC (Nat.le_of_eq (qf (⟨0,0,⟨[]⟩,⟨[]⟩,⟨[]⟩,⟨[]⟩⟩:GDga))):List.drop 594 (qb (⟨0,0,⟨[]⟩,⟨[]⟩,⟨[]⟩,⟨[]⟩⟩:GDga))=[]),wA, *]
 rintro _ e _ ⟨rfl,k5,rfl,h_6⟩;cases hF;simp only[simprocAttr,R0,(wC (Nat.le_of_eq (qf (⟨0,0,⟨[]⟩,⟨[]⟩,⟨[]⟩,⟨[]⟩⟩:GDga))):List.drop 594 (qb (⟨0,0,⟨[]⟩,⟨[]⟩,⟨[]⟩,⟨[]⟩⟩:GDga))=[]),wA, *];exact qc (by simp only[simprocAttr,R0,qd,p68,Rs.ev,qa,(wC (Nat.le_of_eq (qf (⟨0,0,⟨[]⟩,⟨[]⟩,⟨[]⟩,⟨[]⟩⟩:GDga))):List.drop 594 (qb (⟨0,0,⟨[]⟩,⟨[]⟩,⟨[]⟩,⟨[]⟩⟩:GDga))=[]),wA, *])
def F70_1_B(a0:GDga)(a2:Ar .u8 8)(x5:Int)(v22_1:Int)(o1_1:(List Int)):Option (((List Int))⊕((List Int))):=
 (ixI 8 v22_1).bind fun n11=>
(chk (o1_1.getD n11 0)).bind fun x15=>
(chk (a2.val.getD n11 0)).bind fun x16=>
(chk (x5*x16)).bind fun x17=>
(chk (x15+x17)).bind fun x18=>
(remI x18 a0.Prime).bind fun x20=>
(some (arW 8 o1_1 n11 (Go.IntKind.wrap .u8 x20))).bind fun l22=>
some (.inl l22)
def F70_1_D(a0:GDga)(a2:Ar .u8 8)(x5:Int)(v22_1:Int)(o1_1:(List Int)):Option ((List Int)):=
 some o1_1
def F70(a0:GDga)(a1:Ar .u8 8)(a2:Ar .u8 8)(a3:Int):Option (Ar .u8 8):=
 (remI a3 a0.Prime).bind fun x2=>
 (chk (x2+a0.Prime)).bind fun x4=>
 (remI x4 a0.Prime).bind fun x5=>
 (forR 0 8 (F70_1_B a0 a2 x5) (F70_1_D a0 a2 x5) a1.val).bind fun zo1_1=>
 some ⟨zo1_1⟩
def I70_1(a0:GDga)(a2:Ar .u8 8)(x5:Int)(v22_1:Int)(o1_1:(List Int))(e:Env)(h:Heap):Prop:=
 ∃k9:Nat,h=⟨[(0,none),(1,some (arc .u8 8 o1_1)),(0,none),(3,some (arc .u8 8 []))],k9⟩∧e.length=43∧e.at 3=V.int .i64 x5∧e.at 4=V.iptr (qb a0)∧e.at 5=V.ptr 1 1 0∧e.at 8=V.ptr 3 3 0∧e.at 21=V.agg (arc .u8 8 a2.val)∧e.at 22=V.int .i64 v22_1
def P70_1(a0:GDga)(a2:Ar .u8 8)(x5:Int)(zo1_1:(List Int))(x:Ex)(e:Env)(h:Heap):Prop:=
 x= .normal∧∃k9:Nat,h=⟨[(0,none),(1,some (arc .u8 8 zo1_1)),(0,none),(3,some (arc .u8 8 []))],k9⟩∧e.length=43∧e.at 5=V.ptr 1 1 0∧e.at 8=V.ptr 3 3 0
theorem l70_1(a0:GDga)(a2:Ar .u8 8)(x5:Int){lo:Int}{s:(List Int)}{t:(List Int)}(hF:forR lo 8 (F70_1_B a0 a2 x5) (F70_1_D a0 a2 x5) s=some t){e:Env}{h:Heap}(hI:I70_1 a0 a2 x5 lo s e h):W A c70_1 e h (P70_1 a0 a2 x5 t):=by
 show W A (.block 0 (.loop false b70_1)) e h _;rw[ql];refine qq hF 4 (by obtain⟨_,rfl,_⟩:=hI; rfl) (I70_1 a0 a2 x5) hI ?_ ?_
 ·rintro v22_1 o1_1 e h ⟨k9,rfl,h_8⟩ hlt hw o ho
  unfold F70_1_B at ho;obtain⟨n11,gn11,ho⟩:=bS ho;obtain⟨w12a,w12b,w12c,w12d⟩:=qR gn11;have w13:=kA (l:=a2.val) w12d;have w14:=kA (l:=o1_1) w12d;obtain⟨x15,gx15,ho⟩:=bS ho;have wx15:=qx gx15;obtain⟨x16,gx16,ho⟩:=bS ho;have wx16:=qx gx16;obtain⟨x17,gx17,ho⟩:=bS ho;have wx17:=qx gx17;obtain⟨x18,gx18,ho⟩:=bS ho;have wx18:=qx gx18;have w19:=kP a0;obtain⟨x20,gx20,ho⟩:=bS ho;obtain⟨w21a,w21b⟩:=rem_w gx20;obtain⟨l22,gl22,ho⟩:=bS ho;have w23:List.take n11 (arc .u8 8 o1_1)++[V.int .u8 (Go.IntKind.wrap .u8 x20)]++List.drop (n11+1) (arc .u8 8 o1_1)=arc .u8 8 l22:=by rw[←wB gl22]; exact arc_set (by omega)
  have w23l:n11+1≤8:=by omega
  cases ho;simp only[simprocAttr,R0,b70_1, *];refine ai rfl (ei _ (ai rfl ?_));simp only[simprocAttr,R0, *]
 ·rintro v22_1 o1_1 e h ⟨k9,rfl,h_8⟩ hge t1 ho
  unfold F70_1_D at ho;cases ho;simp only[simprocAttr,R0,b70_1, *];intro ht; subst ht;refine ai rfl (ei _ (ai rfl ?_));simp only[simprocAttr,R0, *]
theorem s70(a0:GDga)(a1:Ar .u8 8)(a2:Ar .u8 8)(a3:Int){r:Ar .u8 8}(hF:F70 a0 a1 a2 a3=some r):ans A 70 [V.agg (qb a0),V.agg (arc .u8 8 a1.val),V.agg (arc .u8 8 a2.val),V.int .i64 a3]=some (enc r):=by
 refine qp (f:=p70) rfl rfl rfl fun e hl he=>?_;have h0_0:e.at 0=V.agg (qb a0):=he 0 _ rfl;have h1_0:e.at 1=V.agg (arc .u8 8 a1.val):=he 1 _ rfl;have h2_0:e.at 2=V.agg (arc .u8 8 a2.val):=he 2 _ rfl;have h3_0:e.at 3=V.int .i64 a3:=he 3 _ rfl;have hl_0:e.length=43:=hl;clear he hl;show W A b70 e ⟨[],0⟩ _;unfold F70 at hF;have w1:=kP a0;obtain⟨x2,gx2,hF⟩:=bS hF;obtain⟨w3a,w3b⟩:=rem_w gx2;obtain⟨x4,gx4,hF⟩:=bS hF;have wx4:=qx gx4;obtain⟨x5,gx5,hF⟩:=bS hF;obtain⟨w6a,w6b⟩:=rem_w gx5;obtain⟨zo1_1,gt24,hF⟩:=bS hF;simp only[simprocAttr,R0,b70, *];refine W.mono (l70_1 a0 a2 x5 gt24 (ei _ (ai rfl ?_))) ?_
 ·simp only[simprocAttr,R0, *]
 rintro _ e _ ⟨rfl,k9,rfl,h_10⟩;have w27:=k0 [];cases hF;simp only[simprocAttr,R0,wA, *];exact qc (by simp only[simprocAttr,R0,qd,p70,Rs.ev,qa,wA, *])
def F34(a0:Str)(a1:Int):Option (T2 GDga Int):=
 (F67 a1).bind fun x1=>
 if x1=true then
  if(a0.val== [112,111,105,110,116])=true then
   (F68 a1 [0] [0]).bind fun x4=>
   some ⟨x4,0⟩
  else
   if(a0.val== [99,105,114,99,108,101])=true then
    (F68 a1 [0,1] [0,1]).bind fun x8=>
    some ⟨x8,0⟩
   else
    if(a0.val== [116,111,114,117,115])=true then
     (F68 a1 [0,1,1,2] [0,1,1,2]).bind fun x12=>
     (F69 x12 3).bind fun x15=>
     (some {x12 with Table:=⟨arU 512 x12.Table.val 80 8 x15.val⟩}).bind fun z18=>
     (F69 z18 3).bind fun x19=>
     (F70 z18 ⟨[]⟩ x19 (-1)).bind fun x21=>
     (some {z18 with Table:=⟨arU 512 z18.Table.val 136 8 x21.val⟩}).bind fun z24=>
     some ⟨z24,0⟩
    else
     if(a0.val== [100,105,115,99])=true then
      (F68 a1 [0,0,1,1] [0,1,1,2]).bind fun x27=>
      (F69 x27 3).bind fun x30=>
      (some {x27 with Table:=⟨arU 512 x27.Table.val 80 8 x30.val⟩}).bind fun z33=>
      (some {z33 with Table:=⟨arU 512 z33.Table.val 136 8 x30.val⟩}).bind fun z35=>
      (F69 z35 1).bind fun x36=>
      (some {z35 with Diff:=⟨arU 64 z35.Diff.val 16 8 x36.val⟩}).bind fun z39=>
      some ⟨z39,0⟩
     else
      some ⟨(⟨0,0,⟨[]⟩,⟨[]⟩,⟨[]⟩,⟨[]⟩⟩:GDga),4⟩
 else
  some ⟨(⟨0,0,⟨[]⟩,⟨[]⟩,⟨[]⟩,⟨[]⟩⟩:GDga),2⟩
theorem s34(a0:Str)(a1:Int){r:T2 GDga Int}(hF:F34 a0 a1=some r):ans A 34 [V.str a0.val,V.int .i64 a1]=some (EncR.enc r):=by
 refine qp (f:=p34) rfl rfl rfl fun e hl he=>?_;have h0_0:e.at 0=V.str a0.val:=he 0 _ rfl;have h1_0:e.at 1=V.int .i64 a1:=he 1 _ rfl;have hl_0:e.length=67:=hl;clear he hl;have h_0:=ai hl_0 (ai h0_0 h1_0);show W A b34 e ⟨[],0⟩ _;unfold F34 at hF;obtain⟨x1,gx1,hF⟩:=bS hF;have w2:ans A 67 [V.int .i64 a1]=some (V.bool x1):=s67 a1 gx1;cases x1 with
 |true=>
  rw[if_pos rfl]at hF;by_cases c3:(a0.val== [112,111,105,110,116])=true
  ·rw[if_pos c3]at hF
   obtain⟨x4,gx4,hF⟩:=bS hF;have w5:ans A 68 [V.int .i64 a1,V.isl [V.int .i64 0],V.isl [V.int .i64 0]]=some (V.agg (qb x4)):=s68 a1 [0] [0] gx4;cases hF;simp only[simprocAttr,R0,b34,qe,qk,(wC (Nat.le_of_eq (qf (⟨0,0,⟨[]⟩,⟨[]⟩,⟨[]⟩,⟨[]⟩⟩:GDga))):List.drop 594 (qb (⟨0,0,⟨[]⟩,⟨[]⟩,⟨[]⟩,⟨[]⟩⟩:GDga))=[]),wA, *];exact qc (by simp only[simprocAttr,R0,qd,p34,Rs.ev,qa,qe,qk,(wC (Nat.le_of_eq (qf (⟨0,0,⟨[]⟩,⟨[]⟩,⟨[]⟩,⟨[]⟩⟩:GDga))):List.drop 594 (qb (⟨0,0,⟨[]⟩,⟨[]⟩,⟨[]⟩,⟨[]⟩⟩:GDga))=[]),wA, *])
  ·rw[if_neg c3]at hF
   by_cases c7:(a0.val== [99,105,114,99,108,101])=true
   ·rw[if_pos c7]at hF
    obtain⟨x8,gx8,hF⟩:=bS hF;have w9:ans A 68 [V.int .i64 a1,V.isl [V.int .i64 0,V.int .i64 1],V.isl [V.int .i64 0,V.int .i64 1]]=some (V.agg (qb x8)):=s68 a1 [0,1] [0,1] gx8;cases hF;simp only[simprocAttr,R0,b34,qe,qk,Bool.eq_false_iff.2 c3,qk,(wC (Nat.le_of_eq (qf (⟨0,0,⟨[]⟩,⟨[]⟩,⟨[]⟩,⟨[]⟩⟩:GDga))):List.drop 594 (qb (⟨0,0,⟨[]⟩,⟨[]⟩,⟨[]⟩,⟨[]⟩⟩:GDga))=[]),wA, *];exact qc (by simp only[simprocAttr,R0,qd,p34,Rs.ev,qa,qe,qk,Bool.eq_false_iff.2 c3,qk,(wC (Nat.le_of_eq (qf (⟨0,0,⟨[]⟩,⟨[]⟩,⟨[]⟩,⟨[]⟩⟩:GDga))):List.drop 594 (qb (⟨0,0,⟨[]⟩,⟨[]⟩,⟨[]⟩,⟨[]⟩⟩:GDga))=[]),wA, *])
   ·rw[if_neg c7]at hF
    by_cases c11:(a0.val== [116,111,114,117,115])=true
    ·rw[if_pos c11]at hF
     obtain⟨x12,gx12,hF⟩:=bS hF;have w13:ans A 68 [V.int .i64 a1,V.isl [V.int .i64 0,V.int .i64 1,V.int .i64 1,V.int .i64 2],V.isl [V.int .i64 0,V.int .i64 1,V.int .i64 1,V.int .i64 2]]=some (V.agg (qb x12)):=s68 a1 [0,1,1,2] [0,1,1,2] gx12;obtain⟨x15,gx15,hF⟩:=bS hF;have w16:ans A 69 [V.agg (qb x12),V.int .i64 3]=some (V.agg (arc .u8 8 x15.val)):=s69 x12 3 gx15;obtain⟨z18,gz18,hF⟩:=bS hF;have w17:=kU x12 gz18 162 170 (by decide);have w17l:170≤594:=by omega
     obtain⟨x19,gx19,hF⟩:=bS hF;have w20:ans A 69 [V.agg (qb z18),V.int .i64 3]=some (V.agg (arc .u8 8 x19.val)):=s69 z18 3 gx19;obtain⟨x21,gx21,hF⟩:=bS hF;have w22:ans A 70 [V.agg (qb z18),V.agg (arc .u8 8 []),V.agg (arc .u8 8 x19.val),V.int .i64 (-1)]=some (V.agg (arc .u8 8 x21.val)):=s70 z18 ⟨[]⟩ x19 (-1) gx21;obtain⟨z24,gz24,hF⟩:=bS hF;have w23:=kU z18 gz24 218 226 (by decide);have w23l:226≤594:=by omega
     cases hF;simp only[simprocAttr,R0,b34,qe,qk,Bool.eq_false_iff.2 c3,qk,Bool.eq_false_iff.2 c7,qk,qe,(wC (Nat.le_of_eq (qf (⟨0,0,⟨[]⟩,⟨[]⟩,⟨[]⟩,⟨[]⟩⟩:GDga))):List.drop 594 (qb (⟨0,0,⟨[]⟩,⟨[]⟩,⟨[]⟩,⟨[]⟩⟩:GDga))=[]),wA,(eq_true (show(1:Int) < ((8:Nat):Int) from by decide)),(eq_true (show(2:Int) < ((8:Nat):Int) from by decide)),(wC (Nat.le_of_eq (qf (⟨0,0,⟨[]⟩,⟨[]⟩,⟨[]⟩,⟨[]⟩⟩:GDga))):List.drop 594 (qb (⟨0,0,⟨[]⟩,⟨[]⟩,⟨[]⟩,⟨[]⟩⟩:GDga))=[]),wA, *];exact qc (by simp only[simprocAttr,R0,qd,p34,Rs.ev,qa,qe,qk,Bool.eq_false_iff.2 c3,qk,Bool.eq_false_iff.2 c7,qk,qe,(wC (Nat.le_of_eq (qf (⟨0,0,⟨[]⟩,⟨[]⟩,⟨[]⟩,⟨[]⟩⟩:GDga))):List.drop 594 (qb (⟨0,0,⟨[]⟩,⟨[]⟩,⟨[]⟩,⟨[]⟩⟩:GDga))=[]),wA,(eq_true (show(1:Int) < ((8:Nat):Int) from by decide)),(eq_true (show(2:Int) < ((8:Nat):Int) from by decide)),(wC (Nat.le_of_eq (qf (⟨0,0,⟨[]⟩,⟨[]⟩,⟨[]⟩,⟨[]⟩⟩:GDga))):List.drop 594 (qb (⟨0,0,⟨[]⟩,⟨[]⟩,⟨[]⟩,⟨[]⟩⟩:GDga))=[]),wA, *])
    ·rw[if_neg c11]at hF
     by_cases c26:(a0.val== [100,105,115,99])=true
     ·rw[if_pos c26]at hF
      obtain⟨x27,gx27,hF⟩:=bS hF;have w28:ans A 68 [V.int .i64 a1,V.isl [V.int .i64 0,V.int .i64 0,V.int .i64 1,V.int .i64 1],V.isl [V.int .i64 0,V.int .i64 1,V.int .i64 1,V.int .i64 2]]=some (V.agg (qb x27)):=s68 a1 [0,0,1,1] [0,1,1,2] gx27;obtain⟨x30,gx30,hF⟩:=bS hF;have w31:ans A 69 [V.agg (qb x27),V.int .i64 3]=some (V.agg (arc .u8 8 x30.val)):=s69 x27 3 gx30;obtain⟨z33,gz33,hF⟩:=bS hF;have w32:=kU x27 gz33 162 170 (by decide);have w32l:170≤594:=by omega
      obtain⟨z35,gz35,hF⟩:=bS hF;have w34:=kU z33 gz35 218 226 (by decide);have w34l:226≤594:=by omega
      obtain⟨x36,gx36,hF⟩:=bS hF;have w37:ans A 69 [V.agg (qb z35),V.int .i64 1]=some (V.agg (arc .u8 8 x36.val)):=s69 z35 1 gx36;obtain⟨z39,gz39,hF⟩:=bS hF;have w38:=kV z35 gz39 34 42 (by decide);have w38l:42≤594:=by omega
      cases hF;simp only[simprocAttr,R0,b34,qe,qk,Bool.eq_false_iff.2 c3,qk,Bool.eq_false_iff.2 c7,qk,Bool.eq_false_iff.2 c11,qk,qe,(wC (Nat.le_of_eq (qf (⟨0,0,⟨[]⟩,⟨[]⟩,⟨[]⟩,⟨[]⟩⟩:GDga))):List.drop 594 (qb (⟨0,0,⟨[]⟩,⟨[]⟩,⟨[]⟩,⟨[]⟩⟩:GDga))=[]),wA,(eq_true (show(1:Int) < ((8:Nat):Int) from by decide)),(eq_true (show(2:Int) < ((8:Nat):Int) from by decide)),(wC (Nat.le_of_eq (qf (⟨0,0,⟨[]⟩,⟨[]⟩,⟨[]⟩,⟨[]⟩⟩:GDga))):List.drop 594 (qb (⟨0,0,⟨[]⟩,⟨[]⟩,⟨[]⟩,⟨[]⟩⟩:GDga))=[]),wA, *];exact qc (by simp only[simprocAttr,R0,qd,p34,Rs.ev,qa,qe,qk,Bool.eq_false_iff.2 c3,qk,Bool.eq_false_iff.2 c7,qk,Bool.eq_false_iff.2 c11,qk,qe,(wC (Nat.le_of_eq (qf (⟨0,0,⟨[]⟩,⟨[]⟩,⟨[]⟩,⟨[]⟩⟩:GDga))):List.drop 594 (qb (⟨0,0,⟨[]⟩,⟨[]⟩,⟨[]⟩,⟨[]⟩⟩:GDga))=[]),wA,(eq_true (show(1:Int) < ((8:Nat):Int) from by decide)),(eq_true (show(2:Int) < ((8:Nat):Int) from by decide)),(wC (Nat.le_of_eq (qf (⟨0,0,⟨[]⟩,⟨[]⟩,⟨[]⟩,⟨[]⟩⟩:GDga))):List.drop 594 (qb (⟨0,0,⟨[]⟩,⟨[]⟩,⟨[]⟩,⟨[]⟩⟩:GDga))=[]),wA, *])
     ·rw[if_neg c26]at hF
      cases hF;simp only[simprocAttr,R0,b34,qe,qk,Bool.eq_false_iff.2 c3,qk,Bool.eq_false_iff.2 c7,qk,Bool.eq_false_iff.2 c11,qk,Bool.eq_false_iff.2 c26,qe,(wC (Nat.le_of_eq (qf (⟨0,0,⟨[]⟩,⟨[]⟩,⟨[]⟩,⟨[]⟩⟩:GDga))):List.drop 594 (qb (⟨0,0,⟨[]⟩,⟨[]⟩,⟨[]⟩,⟨[]⟩⟩:GDga))=[]),wA, *];exact qc (by simp only[simprocAttr,R0,qd,p34,Rs.ev,qa,qe,qk,Bool.eq_false_iff.2 c3,qk,Bool.eq_false_iff.2 c7,qk,Bool.eq_false_iff.2 c11,qk,Bool.eq_false_iff.2 c26,qe,(wC (Nat.le_of_eq (qf (⟨0,0,⟨[]⟩,⟨[]⟩,⟨[]⟩,⟨[]⟩⟩:GDga))):List.drop 594 (qb (⟨0,0,⟨[]⟩,⟨[]⟩,⟨[]⟩,⟨[]⟩⟩:GDga))=[]),wA, *])
 |false=>
  rw[if_neg wE]at hF;cases hF;simp only[simprocAttr,R0,b34,qe,qe,(wC (Nat.le_of_eq (qf (⟨0,0,⟨[]⟩,⟨[]⟩,⟨[]⟩,⟨[]⟩⟩:GDga))):List.drop 594 (qb (⟨0,0,⟨[]⟩,⟨[]⟩,⟨[]⟩,⟨[]⟩⟩:GDga))=[]),wA, *];exact qc (by simp only[simprocAttr,R0,qd,p34,Rs.ev,qa,qe,qe,(wC (Nat.le_of_eq (qf (⟨0,0,⟨[]⟩,⟨[]⟩,⟨[]⟩,⟨[]⟩⟩:GDga))):List.drop 594 (qb (⟨0,0,⟨[]⟩,⟨[]⟩,⟨[]⟩,⟨[]⟩⟩:GDga))=[]),wA, *])
def F140(a0:List U8):Option Bool:=
 some (decide (4096 < (a0.length:Int)))
theorem s140(a0:List U8){r:Bool}(hF:F140 a0=some r):ans A 140 [V.isl (a0.map enc)]=some (enc r):=by
 refine qp (f:=p140) rfl rfl rfl fun e hl he=>?_;have h0_0:e.at 0=V.isl (a0.map enc):=he 0 _ rfl;have hl_0:e.length=6:=hl;clear he hl;show W A b140 e ⟨[],0⟩ _;unfold F140 at hF;cases hF;simp only[simprocAttr,R0,b140, *];exact qc (by simp only[simprocAttr,R0,qd,p140,Rs.ev,qa, *])
def F141_B(code:List U8)(i:Int)(q:Int):Option (Int⊕Int):=(getI code i).bind fun b=> some (.inl (Go.IntKind.wrap .u64 (Go.IntKind.wrap .u64 (Go.IntKind.wrap .u64 (q*1099511628211)+Go.IntKind.wrap .u64 b.val)+5)))
def F141(code:List U8)(seed:Int):Option qP:=(forR 0 (code.length:Int) (F141_B code) (fun _ q=> some q) (Go.IntKind.wrap .u64 (Go.IntKind.wrap .u64 (seed*8237)+Go.IntKind.wrap .u64 (code.length:Int)))).bind fun h=> some ⟨code,0,h⟩
theorem d141(code:List U8)(seed:Int){r:qP}(hF:F141 code seed=some r)(E:List (Nat×Option (List V)))(c:Nat):∃h',res A 141 [V.isl (code.map enc),V.int .u64 seed] ⟨E,c⟩=some (V.ptr E.length c 0,h')∧h'=⟨E++[(c,some [V.isl (r.b.map enc),V.int .i64 r.i,V.int .u64 r.h])],c+1⟩:=by
 refine res_ex (f:=p141) rfl rfl rfl fun e hl he=>?_;have h0_0:e.at 0=V.isl (code.map enc):=he 0 _ rfl;have h1_0:e.at 1=V.int .u64 seed:=he 1 _ rfl;have hl_0:e.length=38:=hl;clear he hl;show W A b141 e ⟨E,c⟩ _;unfold F141 at hF;obtain⟨hh,gh,hF⟩:=bS hF;cases hF;simp only[simprocAttr,R0,b141, *];refine W.mono (Q:=fun x' e h=> x'= .normal∧h=⟨E++[(c,some [V.isl (code.map enc),V.int .i64 0,V.int .u64 hh])],c+1⟩∧e.length=38∧e.at 5=V.ptr E.length c 0) ?_ ?_
 ·show W A (.block 0 (.loop true b141_1)) _ _ _
  rw[ql];refine qq gh _ rfl (fun i q e h=> h=⟨E++[(c,some [V.isl (code.map enc),V.int .i64 0,V.int .u64 q])],c+1⟩∧e.length=38∧e.at 0=V.isl (code.map enc)∧e.at 5=V.ptr E.length c 0∧e.at 6=V.int .i64 i) ?_ ?_ ?_
  ·refine ai rfl ?_
   simp only[simprocAttr,R0, *]
  ·clear hl_0 h0_0 h1_0
   rintro i q e h ⟨rfl,h_1⟩ hlt hw o ho;unfold F141_B at ho;obtain⟨b,gb,ho⟩:=bS ho;obtain⟨wb1,wb2⟩:=qm gb;cases ho;simp only[simprocAttr,R0,b141_1,qy,jm, *];refine ai rfl (ai rfl ?_);simp only[simprocAttr,R0, *]
  ·clear hl_0 h0_0 h1_0
   rintro i q e h ⟨rfl,h_1⟩ hge t1 ho;cases ho;simp only[simprocAttr,R0,b141_1, *];intro ht; subst ht;simp only[simprocAttr,R0, *]
 ·rintro _ e h ⟨rfl,rfl,h_2⟩
  simp only[simprocAttr,R0, *];refine ai (fun _=> trivial) ?_;simp only[simprocAttr,R0,qd,p141,Rs.ev, *]
def F142(src:qP)(a1:Int):Option (T2 Int qP):=
 if a1 < 1 then
  some ⟨0,src⟩
 else
  (chk (Go.IntKind.wrap .u64 (BitVec.ofInt (Go.IntKind.bits .u64) (Int.fdiv (Go.IntKind.wrap .u64 ((Go.IntKind.wrap .u64 (src.h*6364136223846793005))+1442695040888963407)) (2^min 33 (Go.IntKind.bits .u64)))&&& BitVec.ofInt (Go.IntKind.bits .u64) 16777215).toNat)).bind fun x2=>
  if src.i < (src.b.length:Int)then
   (getI src.b src.i).bind fun x4=>
   (chk x4.val).bind fun x6=>
   (chk (x2+x6)).bind fun x7=>
   (chk (src.i+1)).bind fun x8=>
   (remI x7 a1).bind fun x9=>
   some ⟨x9,⟨src.b,x8,Go.IntKind.wrap .u64 ((Go.IntKind.wrap .u64 (src.h*6364136223846793005))+1442695040888963407)⟩⟩
  else
   (remI x2 a1).bind fun x11=>
   some ⟨x11,⟨src.b,src.i,Go.IntKind.wrap .u64 ((Go.IntKind.wrap .u64 (src.h*6364136223846793005))+1442695040888963407)⟩⟩
theorem s142(src:qP)(a1:Int){r:T2 Int qP}(hF:F142 src a1=some r):xans A 142 [V.isl (src.b.map enc),V.int .i64 src.i,V.int .u64 src.h] [V.int .i64 a1]=some (V.int .i64 r.a,[V.isl (r.b.b.map enc),V.int .i64 r.b.i,V.int .u64 r.b.h]):=by
 refine xans_of (f:=p142) rfl rfl rfl fun e hl h0 he=>?_;have h0_0:e.at 0=V.ptr 0 0 0:=h0;have h1_0:e.at 1=V.int .i64 a1:=he 0 _ rfl;have hl_0:e.length=58:=hl;clear h0 he hl;show W A b142 e ⟨[(0,some [V.isl (src.b.map enc),V.int .i64 src.i,V.int .u64 src.h])],1⟩ _;unfold F142 at hF;by_cases c1:a1 < 1
 ·rw[if_pos c1]at hF
  cases hF;simp only[simprocAttr,R0,b142, *];exact xfin_ret (by simp only[simprocAttr,R0,qd,p142,Rs.ev,qa, *])
 ·rw[if_neg c1]at hF
  obtain⟨x2,gx2,hF⟩:=bS hF;have wx2:=qx gx2;by_cases c3:src.i < (src.b.length:Int)
  ·rw[if_pos c3]at hF
   obtain⟨x4,gx4,hF⟩:=bS hF;obtain⟨w5a,w5b⟩:=qm gx4;obtain⟨x6,gx6,hF⟩:=bS hF;have wx6:=qx gx6;obtain⟨x7,gx7,hF⟩:=bS hF;have wx7:=qx gx7;obtain⟨x8,gx8,hF⟩:=bS hF;have wx8:=qx gx8;obtain⟨x9,gx9,hF⟩:=bS hF;obtain⟨w10a,w10b⟩:=rem_w gx9;cases hF;simp only[simprocAttr,R0,b142,binV_shr33,binV_and64, *];exact xfin_ret (by simp only[simprocAttr,R0,qd,p142,Rs.ev,qa,binV_shr33,binV_and64, *])
  ·rw[if_neg c3]at hF
   obtain⟨x11,gx11,hF⟩:=bS hF;obtain⟨w12a,w12b⟩:=rem_w gx11;cases hF;simp only[simprocAttr,R0,b142,binV_shr33,binV_and64, *];exact xfin_ret (by simp only[simprocAttr,R0,qd,p142,Rs.ev,qa,binV_shr33,binV_and64, *])
def F104(a0:Int):Option (Ar .u8 8):=
 (ixI 8 a0).bind fun n3=>
 (some (arW 8 [] n3 1)).bind fun l5=>
 some ⟨l5⟩
theorem s104(a0:Int){r:Ar .u8 8}(hF:F104 a0=some r):ans A 104 [V.int .i64 a0]=some (enc r):=by
 refine qp (f:=p104) rfl rfl rfl fun e hl he=>?_;have h0_0:e.at 0=V.int .i64 a0:=he 0 _ rfl;have hl_0:e.length=8:=hl;clear he hl;show W A b104 e ⟨[],0⟩ _;unfold F104 at hF;have w2:=k0 [];obtain⟨n3,gn3,hF⟩:=bS hF;obtain⟨w4a,w4b,w4c,w4d⟩:=qR gn3;obtain⟨l5,gl5,hF⟩:=bS hF;have w6:List.take n3 (arc .u8 8 [])++[V.int .u8 1]++List.drop (n3+1) (arc .u8 8 [])=arc .u8 8 l5:=by rw[←wB gl5]; exact arc_set (by omega)
 have w6l:n3+1≤8:=by omega
 have w9:=k0 [];cases hF;simp only[simprocAttr, -Int.reduceNatCast',R0,b104,wA,wA, *];exact qc (by simp only[simprocAttr, -Int.reduceNatCast',R0,qd,p104,Rs.ev,qa,wA,wA, *])
def F127(a0:Int)(a1:Int):Option Int:=
 (remI a1 a0).bind fun x1=>
 (chk (x1+a0)).bind fun x3=>
 (remI x3 a0).bind fun x4=>
 some x4
theorem s127(a0:Int)(a1:Int){r:Int}(hF:F127 a0 a1=some r):ans A 127 [V.int .i64 a0,V.int .i64 a1]=some (enc r):=by
 refine qp (f:=p127) rfl rfl rfl fun e hl he=>?_;have h0_0:e.at 0=V.int .i64 a0:=he 0 _ rfl;have h1_0:e.at 1=V.int .i64 a1:=he 1 _ rfl;have hl_0:e.length=12:=hl;clear he hl;show W A b127 e ⟨[],0⟩ _;unfold F127 at hF;obtain⟨x1,gx1,hF⟩:=bS hF;obtain⟨w2a,w2b⟩:=rem_w gx1;obtain⟨x3,gx3,hF⟩:=bS hF;have wx3:=qx gx3;obtain⟨x4,gx4,hF⟩:=bS hF;obtain⟨w5a,w5b⟩:=rem_w gx4;cases hF;simp only[simprocAttr,R0,b127, *];exact qc (by simp only[simprocAttr,R0,qd,p127,Rs.ev,qa, *])
def F105_1_B(a0:Int)(a2:Ar .u8 8)(a3:Int)(v9_1:Int)(o0_1:(List Int)):Option (((List Int))⊕((List Int))):=
 (ixI 8 v9_1).bind fun n4=>
(chk (o0_1.getD n4 0)).bind fun x7=>
(chk (a2.val.getD n4 0)).bind fun x9=>
(chk (a3*x9)).bind fun x10=>
(chk (x7+x10)).bind fun x11=>
(F127 a0 x11).bind fun x12=>
(some (arW 8 o0_1 n4 (Go.IntKind.wrap .u8 x12))).bind fun l14=>
some (.inl l14)
def F105_1_D(a0:Int)(a2:Ar .u8 8)(a3:Int)(v9_1:Int)(o0_1:(List Int)):Option ((List Int)):=
 some o0_1
def F105(a0:Int)(a1:Ar .u8 8)(a2:Ar .u8 8)(a3:Int):Option (Ar .u8 8):=
 (forR 0 8 (F105_1_B a0 a2 a3) (F105_1_D a0 a2 a3) a1.val).bind fun zo0_1=>
 some ⟨zo0_1⟩
def I105_1(a0:Int)(a2:Ar .u8 8)(a3:Int)(v9_1:Int)(o0_1:(List Int))(e:Env)(h:Heap):Prop:=
 ∃k2:Nat,h=⟨[(0,some (arc .u8 8 o0_1)),(0,none),(2,some (arc .u8 8 []))],k2⟩∧e.length=31∧e.at 0=V.int .i64 a0∧e.at 3=V.int .i64 a3∧e.at 5=V.ptr 0 0 0∧e.at 6=V.iptr (arc .u8 8 a2.val)∧e.at 8=V.ptr 2 2 0∧e.at 9=V.int .i64 v9_1
def P105_1(a0:Int)(a2:Ar .u8 8)(a3:Int)(zo0_1:(List Int))(x:Ex)(e:Env)(h:Heap):Prop:=
 x= .normal∧∃k2:Nat,h=⟨[(0,some (arc .u8 8 zo0_1)),(0,none),(2,some (arc .u8 8 []))],k2⟩∧e.length=31∧e.at 5=V.ptr 0 0 0∧e.at 8=V.ptr 2 2 0
theorem l105_1(a0:Int)(a2:Ar .u8 8)(a3:Int){lo:Int}{s:(List Int)}{t:(List Int)}(hF:forR lo 8 (F105_1_B a0 a2 a3) (F105_1_D a0 a2 a3) s=some t){e:Env}{h:Heap}(hI:I105_1 a0 a2 a3 lo s e h):W A c105_1 e h (P105_1 a0 a2 a3 t):=by
 show W A (.block 0 (.loop false b105_1)) e h _;rw[ql];refine qq hF 3 (by obtain⟨_,rfl,_⟩:=hI; rfl) (I105_1 a0 a2 a3) hI ?_ ?_
 ·rintro v9_1 o0_1 e h ⟨k2,rfl,h_1⟩ hlt hw o ho
  unfold F105_1_B at ho;obtain⟨n4,gn4,ho⟩:=bS ho;obtain⟨w5a,w5b,w5c,w5d⟩:=qR gn4;have w6:=kA (l:=o0_1) w5d;obtain⟨x7,gx7,ho⟩:=bS ho;have wx7:=qx gx7;have w8:=kA (l:=a2.val) w5d;obtain⟨x9,gx9,ho⟩:=bS ho;have wx9:=qx gx9;obtain⟨x10,gx10,ho⟩:=bS ho;have wx10:=qx gx10;obtain⟨x11,gx11,ho⟩:=bS ho;have wx11:=qx gx11;obtain⟨x12,gx12,ho⟩:=bS ho;have w13:=s127 a0 x11 gx12;obtain⟨l14,gl14,ho⟩:=bS ho;have w15:List.take n4 (arc .u8 8 o0_1)++[V.int .u8 (Go.IntKind.wrap .u8 x12)]++List.drop (n4+1) (arc .u8 8 o0_1)=arc .u8 8 l14:=by rw[←wB gl14]; exact arc_set (by omega)
  have w15l:n4+1≤8:=by omega
  cases ho;simp only[simprocAttr,R0,b105_1, *];refine ai rfl (ei _ (ai rfl ?_));simp only[simprocAttr,R0, *]
 ·rintro v9_1 o0_1 e h ⟨k2,rfl,h_1⟩ hge t1 ho
  unfold F105_1_D at ho;cases ho;simp only[simprocAttr,R0,b105_1, *];intro ht; subst ht;refine ai rfl (ei _ (ai rfl ?_));simp only[simprocAttr,R0, *]
theorem s105(a0:Int)(a1:Ar .u8 8)(a2:Ar .u8 8)(a3:Int){r:Ar .u8 8}(hF:F105 a0 a1 a2 a3=some r):ans A 105 [V.int .i64 a0,V.agg (arc .u8 8 a1.val),V.agg (arc .u8 8 a2.val),V.int .i64 a3]=some (enc r):=by
 refine qp (f:=p105) rfl rfl rfl fun e hl he=>?_;have h0_0:e.at 0=V.int .i64 a0:=he 0 _ rfl;have h1_0:e.at 1=V.agg (arc .u8 8 a1.val):=he 1 _ rfl;have h2_0:e.at 2=V.agg (arc .u8 8 a2.val):=he 2 _ rfl;have h3_0:e.at 3=V.int .i64 a3:=he 3 _ rfl;have hl_0:e.length=31:=hl;clear he hl;show W A b105 e ⟨[],0⟩ _;unfold F105 at hF;obtain⟨zo0_1,gt16,hF⟩:=bS hF;simp only[simprocAttr,R0,b105, *];refine W.mono (l105_1 a0 a2 a3 gt16 (ei _ (ai rfl ?_))) ?_
 ·simp only[simprocAttr,R0, *]
 rintro _ e _ ⟨rfl,k2,rfl,h_3⟩;have w19:=k0 [];cases hF;simp only[simprocAttr,R0,wA, *];exact qc (by simp only[simprocAttr,R0,qd,p105,Rs.ev,qa,wA, *])
def F64_1_S(a0:Str)(a1:Int)(s:GDga×Int):Option ((GDga×Int)⊕(GDga)):=
 match s with
 |(o1_1,v7_1)=>
  if v7_1 < o1_1.Size then
   (F104 v7_1).bind fun x13=>
   (ixI 8 v7_1).bind fun n15=>
   (some {o1_1 with Table:=⟨arU 512 o1_1.Table.val (n15*8) 8 x13.val⟩}).bind fun z18=>
   (some {z18 with Table:=⟨arU 512 z18.Table.val (n15*64) 8 x13.val⟩}).bind fun z20=>
   (chk (v7_1+1)).bind fun x21=>
   some (.inl (z20,x21))
  else
   some (.inr o1_1)
def F64(a0:Str)(a1:Int):Option (T2 GDga Bool):=
 if(a0.val== [112,111,105,110,116])=true then
  (some {(⟨a1,4,⟨[]⟩,⟨[]⟩,⟨[]⟩,⟨[]⟩⟩:GDga)with Size:=1}).bind fun z4=>
  (some {z4 with Levels:=⟨z4.Degrees.val⟩}).bind fun z7=>
  (jW (F64_1_S a0 a1) 1000 (z7,0)).bind fun zo1_1=>
  if(a0.val== [116,111,114,117,115])=true then
   (F104 3).bind fun x24=>
   (some {zo1_1 with Table:=⟨arU 512 zo1_1.Table.val 80 8 x24.val⟩}).bind fun z27=>
   (F105 a1 ⟨[]⟩ x24 (-1)).bind fun x28=>
   (some {z27 with Table:=⟨arU 512 z27.Table.val 136 8 x28.val⟩}).bind fun z31=>
   some ⟨z31,true⟩
  else
   if(a0.val== [100,105,115,99])=true then
    (some {zo1_1 with Levels:=⟨[0,1,1,2,0,0,0,0]⟩}).bind fun z35=>
    (F104 3).bind fun x36=>
    (some {z35 with Table:=⟨arU 512 z35.Table.val 80 8 x36.val⟩}).bind fun z39=>
    (some {z39 with Table:=⟨arU 512 z39.Table.val 136 8 x36.val⟩}).bind fun z41=>
    (F104 1).bind fun x42=>
    (some {z41 with Diff:=⟨arU 64 z41.Diff.val 16 8 x42.val⟩}).bind fun z45=>
    some ⟨z45,true⟩
   else
    some ⟨zo1_1,true⟩
 else
  if(a0.val== [99,105,114,99,108,101])=true then
   (some {(⟨a1,4,⟨[]⟩,⟨[]⟩,⟨[]⟩,⟨[]⟩⟩:GDga)with Size:=2}).bind fun z50=>
   (some {z50 with Degrees:=⟨arW 8 z50.Degrees.val 1 1⟩}).bind fun z52=>
   (some {z52 with Levels:=⟨z52.Degrees.val⟩}).bind fun z55=>
   (jW (F64_1_S a0 a1) 1000 (z55,0)).bind fun zo1_1=>
   if(a0.val== [116,111,114,117,115])=true then
    (F104 3).bind fun x72=>
    (some {zo1_1 with Table:=⟨arU 512 zo1_1.Table.val 80 8 x72.val⟩}).bind fun z75=>
    (F105 a1 ⟨[]⟩ x72 (-1)).bind fun x76=>
    (some {z75 with Table:=⟨arU 512 z75.Table.val 136 8 x76.val⟩}).bind fun z79=>
    some ⟨z79,true⟩
   else
    if(a0.val== [100,105,115,99])=true then
     (some {zo1_1 with Levels:=⟨[0,1,1,2,0,0,0,0]⟩}).bind fun z83=>
     (F104 3).bind fun x84=>
     (some {z83 with Table:=⟨arU 512 z83.Table.val 80 8 x84.val⟩}).bind fun z87=>
     (some {z87 with Table:=⟨arU 512 z87.Table.val 136 8 x84.val⟩}).bind fun z89=>
     (F104 1).bind fun x90=>
     (some {z89 with Diff:=⟨arU 64 z89.Diff.val 16 8 x90.val⟩}).bind fun z93=>
     some ⟨z93,true⟩
    else
     some ⟨zo1_1,true⟩
  else
   if(a0.val== [116,111,114,117,115])=true then
    (some {(⟨a1,4,⟨[]⟩,⟨[]⟩,⟨[]⟩,⟨[]⟩⟩:GDga)with Degrees:=⟨[0,1,1,2,0,0,0,0]⟩}).bind fun z98=>
    (some {z98 with Levels:=⟨z98.Degrees.val⟩}).bind fun z101=>
    (jW (F64_1_S a0 a1) 1000 (z101,0)).bind fun zo1_1=>
    (F104 3).bind fun x117=>
    (some {zo1_1 with Table:=⟨arU 512 zo1_1.Table.val 80 8 x117.val⟩}).bind fun z120=>
    (F105 a1 ⟨[]⟩ x117 (-1)).bind fun x121=>
    (some {z120 with Table:=⟨arU 512 z120.Table.val 136 8 x121.val⟩}).bind fun z124=>
    some ⟨z124,true⟩
   else
    if(a0.val== [100,105,115,99])=true then
     (some {(⟨a1,4,⟨[]⟩,⟨[]⟩,⟨[]⟩,⟨[]⟩⟩:GDga)with Degrees:=⟨[0,0,1,1,0,0,0,0]⟩}).bind fun z128=>
     (some {z128 with Levels:=⟨z128.Degrees.val⟩}).bind fun z131=>
     (jW (F64_1_S a0 a1) 1000 (z131,0)).bind fun zo1_1=>
     (some {zo1_1 with Levels:=⟨[0,1,1,2,0,0,0,0]⟩}).bind fun z148=>
     (F104 3).bind fun x149=>
     (some {z148 with Table:=⟨arU 512 z148.Table.val 80 8 x149.val⟩}).bind fun z152=>
     (some {z152 with Table:=⟨arU 512 z152.Table.val 136 8 x149.val⟩}).bind fun z154=>
     (F104 1).bind fun x155=>
     (some {z154 with Diff:=⟨arU 64 z154.Diff.val 16 8 x155.val⟩}).bind fun z158=>
     some ⟨z158,true⟩
    else
     some ⟨(⟨a1,4,⟨[]⟩,⟨[]⟩,⟨[]⟩,⟨[]⟩⟩:GDga),false⟩
def I64_1(a0:Str)(a1:Int)(s:GDga×Int)(e:Env)(h:Heap):Prop:=
 match s with
 |(o1_1,v7_1)=>
  ∃k9:Nat,h=⟨[(0,some (qb (⟨0,0,⟨[]⟩,⟨[]⟩,⟨[]⟩,⟨[]⟩⟩:GDga))),(1,some (qb o1_1))],k9⟩∧e.length=79∧e.at 0=V.str a0.val∧e.at 1=V.int .i64 a1∧e.at 4=V.ptr 0 0 0∧e.at 6=V.ptr 1 1 0∧e.at 7=V.int .i64 v7_1
def P64_1(a0:Str)(a1:Int)(zo1_1:GDga)(x:Ex)(e:Env)(h:Heap):Prop:=
 x= .normal∧∃k9:Nat,h=⟨[(0,some (qb (⟨0,0,⟨[]⟩,⟨[]⟩,⟨[]⟩,⟨[]⟩⟩:GDga))),(1,some (qb zo1_1))],k9⟩∧e.length=79∧e.at 0=V.str a0.val∧e.at 1=V.int .i64 a1∧e.at 4=V.ptr 0 0 0∧e.at 6=V.ptr 1 1 0
theorem l64_1(a0:Str)(a1:Int){s:GDga×Int}{t:GDga}(hF:loopW (F64_1_S a0 a1) s=some t){e:Env}{h:Heap}(hI:I64_1 a0 a1 s e h):W A c64_1 e h (P64_1 a0 a1 t):=by
 show W A (.block 1 (.loop false b64_1)) e h _;rw[ql];refine W_loop hF 2 (by rcases s with⟨_,_⟩; obtain⟨_,rfl,_⟩:=hI; rfl) (I64_1 a0 a1) hI ?_
 ·rintro⟨o1_1,v7_1⟩ e h ⟨k9,rfl,h_8⟩ o ho
  unfold F64_1_S at ho;dsimp only at ho;have w11:=kS o1_1;by_cases c12:v7_1 < o1_1.Size
  ·rw[if_pos c12]at ho
   obtain⟨x13,gx13,ho⟩:=bS ho;have w14:=s104 v7_1 gx13;obtain⟨n15,gn15,ho⟩:=bS ho;obtain⟨w16a,w16b,w16c,w16d⟩:=qR gn15;obtain⟨z18,gz18,ho⟩:=bS ho;have w17:List.take (82+n15*8) (qb o1_1)++arc .u8 8 x13.val++List.drop (82+n15*8+8) (qb o1_1)=qb z18:=by rw[←wB gz18]; exact zj (i:=n15*8) (m:=8) (by omega) (by omega) (by omega)
   have w17l:82+n15*8+8≤594:=by omega
   obtain⟨z20,gz20,ho⟩:=bS ho;have w19:List.take (82+n15*64) (qb z18)++arc .u8 8 x13.val++List.drop (82+n15*64+8) (qb z18)=qb z20:=by rw[←wB gz20]; exact zj (i:=n15*64) (m:=8) (by omega) (by omega) (by omega)
   have w19l:82+n15*64+8≤594:=by omega
   obtain⟨x21,gx21,ho⟩:=bS ho;have wx21:=qx gx21;cases ho;simp only[simprocAttr, -Int.reduceNatCast',R0,b64_1,(eq_true (show(0:Int) < ((8:Nat):Int) from by decide)), *];refine ai rfl (ei _ (ai rfl ?_));simp only[simprocAttr, -Int.reduceNatCast',R0,(eq_true (show(0:Int) < ((8:Nat):Int) from by decide)), *]
  ·rw[if_neg c12]at ho
   cases ho;simp only[simprocAttr, -Int.reduceNatCast',R0,b64_1, *];intro ht; subst ht;simp only[simprocAttr, -Int.reduceNatCast',RR,RB];refine ai rfl (ei _ (ai rfl ?_));simp only[simprocAttr, -Int.reduceNatCast',R0, *]
theorem s64(a0:Str)(a1:Int){r:T2 GDga Bool}(hF:F64 a0 a1=some r):ans A 64 [V.str a0.val,V.int .i64 a1]=some (EncR.enc r):=by
 refine qp (f:=p64) rfl rfl rfl fun e hl he=>?_;have h0_0:e.at 0=V.str a0.val:=he 0 _ rfl;have h1_0:e.at 1=V.int .i64 a1:=he 1 _ rfl;have hl_0:e.length=79:=hl;clear he hl;have h_0:=ai hl_0 (ai h0_0 h1_0);show W A b64 e ⟨[],0⟩ _;unfold F64 at hF;by_cases c2:(a0.val== [112,111,105,110,116])=true
 ·rw[if_pos c2]at hF
  obtain⟨z4,gz4,hF⟩:=bS hF;have w3:List.take 1 (qb (⟨a1,4,⟨[]⟩,⟨[]⟩,⟨[]⟩,⟨[]⟩⟩:GDga))++[V.int .i64 1]++List.drop 2 (qb (⟨a1,4,⟨[]⟩,⟨[]⟩,⟨[]⟩,⟨[]⟩⟩:GDga))=qb z4:=by rw[←wB gz4]; exact ceGDga_Size_set
  have w3l:2≤594:=by omega
  have w5:List.take 8 (List.drop 2 (qb z4))=arc .i64 8 z4.Degrees.val:=qW (by omega);have w5l:8≤List.length (List.drop 2 (qb z4)):=by simp only[wU,qw,qf]; omega
  obtain⟨z7,gz7,hF⟩:=bS hF;have w6:List.take 10 (qb z4)++arc .i64 8 z4.Degrees.val++List.drop 18 (qb z4)=qb z7:=by rw[←wB gz7]; exact qN (by omega) (by omega)
  have w6l:18≤594:=by omega
  obtain⟨zo1_1,gt22,hF⟩:=bS hF;simp only[simprocAttr,R0,b64,qe,qe,qf,wU,qU,qe,(wC (Nat.le_of_eq (qf (⟨0,0,⟨[]⟩,⟨[]⟩,⟨[]⟩,⟨[]⟩⟩:GDga))):List.drop 594 (qb (⟨0,0,⟨[]⟩,⟨[]⟩,⟨[]⟩,⟨[]⟩⟩:GDga))=[]),wA,qk, *];refine W.mono (l64_1 a0 a1 (zQ gt22) (ei _ (ai rfl ?_))) ?_
  ·simp only[simprocAttr,R0,qe,qe,qf,wU,qU,qe,(wC (Nat.le_of_eq (qf (⟨0,0,⟨[]⟩,⟨[]⟩,⟨[]⟩,⟨[]⟩⟩:GDga))):List.drop 594 (qb (⟨0,0,⟨[]⟩,⟨[]⟩,⟨[]⟩,⟨[]⟩⟩:GDga))=[]),wA,qk, *]
  rintro _ e _ ⟨rfl,k9,rfl,h_10⟩;by_cases c23:(a0.val== [116,111,114,117,115])=true
  ·rw[if_pos c23]at hF
   obtain⟨x24,gx24,hF⟩:=bS hF;have w25:=s104 3 gx24;obtain⟨z27,gz27,hF⟩:=bS hF;have w26:=kU zo1_1 gz27 162 170 (by decide);have w26l:170≤594:=by omega
   obtain⟨x28,gx28,hF⟩:=bS hF;have w29:ans A 105 [V.int .i64 a1,V.agg (arc .u8 8 []),V.agg (arc .u8 8 x24.val),V.int .i64 (-1)]=some (V.agg (arc .u8 8 x28.val)):=s105 a1 ⟨[]⟩ x24 (-1) gx28;obtain⟨z31,gz31,hF⟩:=bS hF;have w30:=kU z27 gz31 218 226 (by decide);have w30l:226≤594:=by omega
   cases hF;simp only[simprocAttr,R0,qk,(eq_true (show(1:Int) < ((8:Nat):Int) from by decide)),(eq_true (show(2:Int) < ((8:Nat):Int) from by decide)),(wC (Nat.le_of_eq (qf (⟨0,0,⟨[]⟩,⟨[]⟩,⟨[]⟩,⟨[]⟩⟩:GDga))):List.drop 594 (qb (⟨0,0,⟨[]⟩,⟨[]⟩,⟨[]⟩,⟨[]⟩⟩:GDga))=[]),wA, *];exact qc (by simp only[simprocAttr,R0,qd,p64,Rs.ev,qa,qk,(eq_true (show(1:Int) < ((8:Nat):Int) from by decide)),(eq_true (show(2:Int) < ((8:Nat):Int) from by decide)),(wC (Nat.le_of_eq (qf (⟨0,0,⟨[]⟩,⟨[]⟩,⟨[]⟩,⟨[]⟩⟩:GDga))):List.drop 594 (qb (⟨0,0,⟨[]⟩,⟨[]⟩,⟨[]⟩,⟨[]⟩⟩:GDga))=[]),wA, *])
  ·rw[if_neg c23]at hF
   by_cases c33:(a0.val== [100,105,115,99])=true
   ·rw[if_pos c33]at hF
    obtain⟨z35,gz35,hF⟩:=bS hF;have w34:List.take 10 (qb zo1_1)++arc .i64 8 [0,1,1,2,0,0,0,0]++List.drop 18 (qb zo1_1)=qb z35:=by rw[←wB gz35]; exact qN (by omega) (by omega)
    have w34l:18≤594:=by omega
    obtain⟨x36,gx36,hF⟩:=bS hF;have w37:=s104 3 gx36;obtain⟨z39,gz39,hF⟩:=bS hF;have w38:=kU z35 gz39 162 170 (by decide);have w38l:170≤594:=by omega
    obtain⟨z41,gz41,hF⟩:=bS hF;have w40:=kU z39 gz41 218 226 (by decide);have w40l:226≤594:=by omega
    obtain⟨x42,gx42,hF⟩:=bS hF;have w43:=s104 1 gx42;obtain⟨z45,gz45,hF⟩:=bS hF;have w44:=kV z41 gz45 34 42 (by decide);have w44l:42≤594:=by omega
    cases hF;simp only[simprocAttr,R0,qk,Bool.eq_false_iff.2 c23,qk,(show [V.int .i64 0,V.int .i64 1,V.int .i64 1,V.int .i64 2,V.int .i64 0,V.int .i64 0,V.int .i64 0,V.int .i64 0]=arc .i64 8 [0,1,1,2,0,0,0,0] from rfl),(eq_true (show(1:Int) < ((8:Nat):Int) from by decide)),(eq_true (show(2:Int) < ((8:Nat):Int) from by decide)),(wC (Nat.le_of_eq (qf (⟨0,0,⟨[]⟩,⟨[]⟩,⟨[]⟩,⟨[]⟩⟩:GDga))):List.drop 594 (qb (⟨0,0,⟨[]⟩,⟨[]⟩,⟨[]⟩,⟨[]⟩⟩:GDga))=[]),wA, *];exact qc (by simp only[simprocAttr,R0,qd,p64,Rs.ev,qa,qk,Bool.eq_false_iff.2 c23,qk,(show [V.int .i64 0,V.int .i64 1,V.int .i64 1,V.int .i64 2,V.int .i64 0,V.int .i64 0,V.int .i64 0,V.int .i64 0]=arc .i64 8 [0,1,1,2,0,0,0,0] from rfl),(eq_true (show(1:Int) < ((8:Nat):Int) from by decide)),(eq_true (show(2:Int) < ((8:Nat):Int) from by decide)),(wC (Nat.le_of_eq (qf (⟨0,0,⟨[]⟩,⟨[]⟩,⟨[]⟩,⟨[]⟩⟩:GDga))):List.drop 594 (qb (⟨0,0,⟨[]⟩,⟨[]⟩,⟨[]⟩,⟨[]⟩⟩:GDga))=[]),wA, *])
   ·rw[if_neg c33]at hF
    cases hF;simp only[simprocAttr,R0,qk,Bool.eq_false_iff.2 c23,qk,Bool.eq_false_iff.2 c33,(wC (Nat.le_of_eq (qf (⟨0,0,⟨[]⟩,⟨[]⟩,⟨[]⟩,⟨[]⟩⟩:GDga))):List.drop 594 (qb (⟨0,0,⟨[]⟩,⟨[]⟩,⟨[]⟩,⟨[]⟩⟩:GDga))=[]),wA, *];exact qc (by simp only[simprocAttr,R0,qd,p64,Rs.ev,qa,qk,Bool.eq_false_iff.2 c23,qk,Bool.eq_false_iff.2 c33,(wC (Nat.le_of_eq (qf (⟨0,0,⟨[]⟩,⟨[]⟩,⟨[]⟩,⟨[]⟩⟩:GDga))):List.drop 594 (qb (⟨0,0,⟨[]⟩,⟨[]⟩,⟨[]⟩,⟨[]⟩⟩:GDga))=[]),wA, *])
 ·rw[if_neg c2]at hF
  by_cases c48:(a0.val== [99,105,114,99,108,101])=true
  ·rw[if_pos c48]at hF
   obtain⟨z50,gz50,hF⟩:=bS hF;have w49:List.take 1 (qb (⟨a1,4,⟨[]⟩,⟨[]⟩,⟨[]⟩,⟨[]⟩⟩:GDga))++[V.int .i64 2]++List.drop 2 (qb (⟨a1,4,⟨[]⟩,⟨[]⟩,⟨[]⟩,⟨[]⟩⟩:GDga))=qb z50:=by rw[←wB gz50]; exact ceGDga_Size_set
   have w49l:2≤594:=by omega
   obtain⟨z52,gz52,hF⟩:=bS hF;have w51:List.take 3 (qb z50)++[V.int .i64 1]++List.drop 4 (qb z50)=qb z52:=by rw[←wB gz52]; exact jE (i:=1) (by omega) (by omega) (by omega)
   have w51l:4≤594:=by omega
   have w53:List.take 8 (List.drop 2 (qb z52))=arc .i64 8 z52.Degrees.val:=qW (by omega);have w53l:8≤List.length (List.drop 2 (qb z52)):=by simp only[wU,qw,qf]; omega
   obtain⟨z55,gz55,hF⟩:=bS hF;have w54:List.take 10 (qb z52)++arc .i64 8 z52.Degrees.val++List.drop 18 (qb z52)=qb z55:=by rw[←wB gz55]; exact qN (by omega) (by omega)
   have w54l:18≤594:=by omega
   obtain⟨zo1_1,gt70,hF⟩:=bS hF;simp only[simprocAttr,R0,b64,qe,qe,qf,wU,qU,qe,(wC (Nat.le_of_eq (qf (⟨0,0,⟨[]⟩,⟨[]⟩,⟨[]⟩,⟨[]⟩⟩:GDga))):List.drop 594 (qb (⟨0,0,⟨[]⟩,⟨[]⟩,⟨[]⟩,⟨[]⟩⟩:GDga))=[]),wA,qk,Bool.eq_false_iff.2 c2,qk,(eq_true (show(1:Int) < ((8:Nat):Int) from by decide)), *];refine W.mono (l64_1 a0 a1 (zQ gt70) (ei _ (ai rfl ?_))) ?_
   ·simp only[simprocAttr,R0,qe,qe,qf,wU,qU,qe,(wC (Nat.le_of_eq (qf (⟨0,0,⟨[]⟩,⟨[]⟩,⟨[]⟩,⟨[]⟩⟩:GDga))):List.drop 594 (qb (⟨0,0,⟨[]⟩,⟨[]⟩,⟨[]⟩,⟨[]⟩⟩:GDga))=[]),wA,qk,Bool.eq_false_iff.2 c2,qk,(eq_true (show(1:Int) < ((8:Nat):Int) from by decide)), *]
   rintro _ e _ ⟨rfl,k57,rfl,h_58⟩;by_cases c71:(a0.val== [116,111,114,117,115])=true
   ·rw[if_pos c71]at hF
    obtain⟨x72,gx72,hF⟩:=bS hF;have w73:=s104 3 gx72;obtain⟨z75,gz75,hF⟩:=bS hF;have w74:=kU zo1_1 gz75 162 170 (by decide);have w74l:170≤594:=by omega
    obtain⟨x76,gx76,hF⟩:=bS hF;have w77:ans A 105 [V.int .i64 a1,V.agg (arc .u8 8 []),V.agg (arc .u8 8 x72.val),V.int .i64 (-1)]=some (V.agg (arc .u8 8 x76.val)):=s105 a1 ⟨[]⟩ x72 (-1) gx76;obtain⟨z79,gz79,hF⟩:=bS hF;have w78:=kU z75 gz79 218 226 (by decide);have w78l:226≤594:=by omega
    cases hF;simp only[simprocAttr,R0,qk,(eq_true (show(1:Int) < ((8:Nat):Int) from by decide)),(eq_true (show(2:Int) < ((8:Nat):Int) from by decide)),(wC (Nat.le_of_eq (qf (⟨0,0,⟨[]⟩,⟨[]⟩,⟨[]⟩,⟨[]⟩⟩:GDga))):List.drop 594 (qb (⟨0,0,⟨[]⟩,⟨[]⟩,⟨[]⟩,⟨[]⟩⟩:GDga))=[]),wA, *];exact qc (by simp only[simprocAttr,R0,qd,p64,Rs.ev,qa,qk,(eq_true (show(1:Int) < ((8:Nat):Int) from by decide)),(eq_true (show(2:Int) < ((8:Nat):Int) from by decide)),(wC (Nat.le_of_eq (qf (⟨0,0,⟨[]⟩,⟨[]⟩,⟨[]⟩,⟨[]⟩⟩:GDga))):List.drop 594 (qb (⟨0,0,⟨[]⟩,⟨[]⟩,⟨[]⟩,⟨[]⟩⟩:GDga))=[]),wA, *])
   ·rw[if_neg c71]at hF
    by_cases c81:(a0.val== [100,105,115,99])=true
    ·rw[if_pos c81]at hF
     obtain⟨z83,gz83,hF⟩:=bS hF;have w82:List.take 10 (qb zo1_1)++arc .i64 8 [0,1,1,2,0,0,0,0]++List.drop 18 (qb zo1_1)=qb z83:=by rw[←wB gz83]; exact qN (by omega) (by omega)
     have w82l:18≤594:=by omega
     obtain⟨x84,gx84,hF⟩:=bS hF;have w85:=s104 3 gx84;obtain⟨z87,gz87,hF⟩:=bS hF;have w86:=kU z83 gz87 162 170 (by decide);have w86l:170≤594:=by omega
     obtain⟨z89,gz89,hF⟩:=bS hF;have w88:=kU z87 gz89 218 226 (by decide);have w88l:226≤594:=by omega
     obtain⟨x90,gx90,hF⟩:=bS hF;have w91:=s104 1 gx90;obtain⟨z93,gz93,hF⟩:=bS hF;have w92:=kV z89 gz93 34 42 (by decide);have w92l:42≤594:=by omega
     cases hF;simp only[simprocAttr,R0,qk,Bool.eq_false_iff.2 c71,qk,(show [V.int .i64 0,V.int .i64 1,V.int .i64 1,V.int .i64 2,V.int .i64 0,V.int .i64 0,V.int .i64 0,V.int .i64 0]=arc .i64 8 [0,1,1,2,0,0,0,0] from rfl),(eq_true (show(1:Int) < ((8:Nat):Int) from by decide)),(eq_true (show(2:Int) < ((8:Nat):Int) from by decide)),(wC (Nat.le_of_eq (qf (⟨0,0,⟨[]⟩,⟨[]⟩,⟨[]⟩,⟨[]⟩⟩:GDga))):List.drop 594 (qb (⟨0,0,⟨[]⟩,⟨[]⟩,⟨[]⟩,⟨[]⟩⟩:GDga))=[]),wA, *];exact qc (by simp only[simprocAttr,R0,qd,p64,Rs.ev,qa,qk,Bool.eq_false_iff.2 c71,qk,(show [V.int .i64 0,V.int .i64 1,V.int .i64 1,V.int .i64 2,V.int .i64 0,V.int .i64 0,V.int .i64 0,V.int .i64 0]=arc .i64 8 [0,1,1,2,0,0,0,0] from rfl),(eq_true (show(1:Int) < ((8:Nat):Int) from by decide)),(eq_true (show(2:Int) < ((8:Nat):Int) from by decide)),(wC (Nat.le_of_eq (qf (⟨0,0,⟨[]⟩,⟨[]⟩,⟨[]⟩,⟨[]⟩⟩:GDga))):List.drop 594 (qb (⟨0,0,⟨[]⟩,⟨[]⟩,⟨[]⟩,⟨[]⟩⟩:GDga))=[]),wA, *])
    ·rw[if_neg c81]at hF
     cases hF;simp only[simprocAttr,R0,qk,Bool.eq_false_iff.2 c71,qk,Bool.eq_false_iff.2 c81,(wC (Nat.le_of_eq (qf (⟨0,0,⟨[]⟩,⟨[]⟩,⟨[]⟩,⟨[]⟩⟩:GDga))):List.drop 594 (qb (⟨0,0,⟨[]⟩,⟨[]⟩,⟨[]⟩,⟨[]⟩⟩:GDga))=[]),wA, *];exact qc (by simp only[simprocAttr,R0,qd,p64,Rs.ev,qa,qk,Bool.eq_false_iff.2 c71,qk,Bool.eq_false_iff.2 c81,(wC (Nat.le_of_eq (qf (⟨0,0,⟨[]⟩,⟨[]⟩,⟨[]⟩,⟨[]⟩⟩:GDga))):List.drop 594 (qb (⟨0,0,⟨[]⟩,⟨[]⟩,⟨[]⟩,⟨[]⟩⟩:GDga))=[]),wA, *])
  ·rw[if_neg c48]at hF
   by_cases c96:(a0.val== [116,111,114,117,115])=true
   ·rw[if_pos c96]at hF
    obtain⟨z98,gz98,hF⟩:=bS hF;have w97:List.take 2 (qb (⟨a1,4,⟨[]⟩,⟨[]⟩,⟨[]⟩,⟨[]⟩⟩:GDga))++arc .i64 8 [0,1,1,2,0,0,0,0]++List.drop 10 (qb (⟨a1,4,⟨[]⟩,⟨[]⟩,⟨[]⟩,⟨[]⟩⟩:GDga))=qb z98:=by rw[←wB gz98]; exact jw (by omega) (by omega)
    have w97l:10≤594:=by omega
    have w99:List.take 8 (List.drop 2 (qb z98))=arc .i64 8 z98.Degrees.val:=qW (by omega);have w99l:8≤List.length (List.drop 2 (qb z98)):=by simp only[wU,qw,qf]; omega
    obtain⟨z101,gz101,hF⟩:=bS hF;have w100:List.take 10 (qb z98)++arc .i64 8 z98.Degrees.val++List.drop 18 (qb z98)=qb z101:=by rw[←wB gz101]; exact qN (by omega) (by omega)
    have w100l:18≤594:=by omega
    obtain⟨zo1_1,gt116,hF⟩:=bS hF;simp only[simprocAttr,R0,b64,qe,qe,qf,wU,qU,qe,(wC (Nat.le_of_eq (qf (⟨0,0,⟨[]⟩,⟨[]⟩,⟨[]⟩,⟨[]⟩⟩:GDga))):List.drop 594 (qb (⟨0,0,⟨[]⟩,⟨[]⟩,⟨[]⟩,⟨[]⟩⟩:GDga))=[]),wA,qk,Bool.eq_false_iff.2 c2,qk,Bool.eq_false_iff.2 c48,qk,(show [V.int .i64 0,V.int .i64 1,V.int .i64 1,V.int .i64 2,V.int .i64 0,V.int .i64 0,V.int .i64 0,V.int .i64 0]=arc .i64 8 [0,1,1,2,0,0,0,0] from rfl), *];refine W.mono (l64_1 a0 a1 (zQ gt116) (ei _ (ai rfl ?_))) ?_
    ·simp only[simprocAttr,R0,qe,qe,qf,wU,qU,qe,(wC (Nat.le_of_eq (qf (⟨0,0,⟨[]⟩,⟨[]⟩,⟨[]⟩,⟨[]⟩⟩:GDga))):List.drop 594 (qb (⟨0,0,⟨[]⟩,⟨[]⟩,⟨[]⟩,⟨[]⟩⟩:GDga))=[]),wA,qk,Bool.eq_false_iff.2 c2,qk,Bool.eq_false_iff.2 c48,qk,(show [V.int .i64 0,V.int .i64 1,V.int .i64 1,V.int .i64 2,V.int .i64 0,V.int .i64 0,V.int .i64 0,V.int .i64 0]=arc .i64 8 [0,1,1,2,0,0,0,0] from rfl), *]
    rintro _ e _ ⟨rfl,k103,rfl,h_104⟩;obtain⟨x117,gx117,hF⟩:=bS hF;have w118:=s104 3 gx117;obtain⟨z120,gz120,hF⟩:=bS hF;have w119:=kU zo1_1 gz120 162 170 (by decide);have w119l:170≤594:=by omega
    obtain⟨x121,gx121,hF⟩:=bS hF;have w122:ans A 105 [V.int .i64 a1,V.agg (arc .u8 8 []),V.agg (arc .u8 8 x117.val),V.int .i64 (-1)]=some (V.agg (arc .u8 8 x121.val)):=s105 a1 ⟨[]⟩ x117 (-1) gx121;obtain⟨z124,gz124,hF⟩:=bS hF;have w123:=kU z120 gz124 218 226 (by decide);have w123l:226≤594:=by omega
    cases hF;simp only[simprocAttr,R0,qk,(eq_true (show(1:Int) < ((8:Nat):Int) from by decide)),(eq_true (show(2:Int) < ((8:Nat):Int) from by decide)),(wC (Nat.le_of_eq (qf (⟨0,0,⟨[]⟩,⟨[]⟩,⟨[]⟩,⟨[]⟩⟩:GDga))):List.drop 594 (qb (⟨0,0,⟨[]⟩,⟨[]⟩,⟨[]⟩,⟨[]⟩⟩:GDga))=[]),wA, *];exact qc (by simp only[simprocAttr,R0,qd,p64,Rs.ev,qa,qk,(eq_true (show(1:Int) < ((8:Nat):Int) from by decide)),(eq_true (show(2:Int) < ((8:Nat):Int) from by decide)),(wC (Nat.le_of_eq (qf (⟨0,0,⟨[]⟩,⟨[]⟩,⟨[]⟩,⟨[]⟩⟩:GDga))):List.drop 594 (qb (⟨0,0,⟨[]⟩,⟨[]⟩,⟨[]⟩,⟨[]⟩⟩:GDga))=[]),wA, *])
   ·rw[if_neg c96]at hF
    by_cases c126:(a0.val== [100,105,115,99])=true
    ·rw[if_pos c126]at hF
     obtain⟨z128,gz128,hF⟩:=bS hF;have w127:List.take 2 (qb (⟨a1,4,⟨[]⟩,⟨[]⟩,⟨[]⟩,⟨[]⟩⟩:GDga))++arc .i64 8 [0,0,1,1,0,0,0,0]++List.drop 10 (qb (⟨a1,4,⟨[]⟩,⟨[]⟩,⟨[]⟩,⟨[]⟩⟩:GDga))=qb z128:=by rw[←wB gz128]; exact jw (by omega) (by omega)
     have w127l:10≤594:=by omega
     have w129:List.take 8 (List.drop 2 (qb z128))=arc .i64 8 z128.Degrees.val:=qW (by omega);have w129l:8≤List.length (List.drop 2 (qb z128)):=by simp only[wU,qw,qf]; omega
     obtain⟨z131,gz131,hF⟩:=bS hF;have w130:List.take 10 (qb z128)++arc .i64 8 z128.Degrees.val++List.drop 18 (qb z128)=qb z131:=by rw[←wB gz131]; exact qN (by omega) (by omega)
     have w130l:18≤594:=by omega
     obtain⟨zo1_1,gt146,hF⟩:=bS hF;simp only[simprocAttr,R0,b64,qe,qe,qf,wU,qU,qe,(wC (Nat.le_of_eq (qf (⟨0,0,⟨[]⟩,⟨[]⟩,⟨[]⟩,⟨[]⟩⟩:GDga))):List.drop 594 (qb (⟨0,0,⟨[]⟩,⟨[]⟩,⟨[]⟩,⟨[]⟩⟩:GDga))=[]),wA,qk,Bool.eq_false_iff.2 c2,qk,Bool.eq_false_iff.2 c48,qk,Bool.eq_false_iff.2 c96,qk,(show [V.int .i64 0,V.int .i64 0,V.int .i64 1,V.int .i64 1,V.int .i64 0,V.int .i64 0,V.int .i64 0,V.int .i64 0]=arc .i64 8 [0,0,1,1,0,0,0,0] from rfl), *];refine W.mono (l64_1 a0 a1 (zQ gt146) (ei _ (ai rfl ?_))) ?_
     ·simp only[simprocAttr,R0,qe,qe,qf,wU,qU,qe,(wC (Nat.le_of_eq (qf (⟨0,0,⟨[]⟩,⟨[]⟩,⟨[]⟩,⟨[]⟩⟩:GDga))):List.drop 594 (qb (⟨0,0,⟨[]⟩,⟨[]⟩,⟨[]⟩,⟨[]⟩⟩:GDga))=[]),wA,qk,Bool.eq_false_iff.2 c2,qk,Bool.eq_false_iff.2 c48,qk,Bool.eq_false_iff.2 c96,qk,(show [V.int .i64 0,V.int .i64 0,V.int .i64 1,V.int .i64 1,V.int .i64 0,V.int .i64 0,V.int .i64 0,V.int .i64 0]=arc .i64 8 [0,0,1,1,0,0,0,0] from rfl), *]
     rintro _ e _ ⟨rfl,k133,rfl,h_134⟩;obtain⟨z148,gz148,hF⟩:=bS hF;have w147:List.take 10 (qb zo1_1)++arc .i64 8 [0,1,1,2,0,0,0,0]++List.drop 18 (qb zo1_1)=qb z148:=by rw[←wB gz148]; exact qN (by omega) (by omega)
     have w147l:18≤594:=by omega
     obtain⟨x149,gx149,hF⟩:=bS hF;have w150:=s104 3 gx149;obtain⟨z152,gz152,hF⟩:=bS hF;have w151:=kU z148 gz152 162 170 (by decide);have w151l:170≤594:=by omega
     obtain⟨z154,gz154,hF⟩:=bS hF;have w153:=kU z152 gz154 218 226 (by decide);have w153l:226≤594:=by omega
     obtain⟨x155,gx155,hF⟩:=bS hF;have w156:=s104 1 gx155;obtain⟨z158,gz158,hF⟩:=bS hF;have w157:=kV z154 gz158 34 42 (by decide);have w157l:42≤594:=by omega
     cases hF;simp only[simprocAttr,R0,qk,Bool.eq_false_iff.2 c96,qk,(show [V.int .i64 0,V.int .i64 1,V.int .i64 1,V.int .i64 2,V.int .i64 0,V.int .i64 0,V.int .i64 0,V.int .i64 0]=arc .i64 8 [0,1,1,2,0,0,0,0] from rfl),(eq_true (show(1:Int) < ((8:Nat):Int) from by decide)),(eq_true (show(2:Int) < ((8:Nat):Int) from by decide)),(wC (Nat.le_of_eq (qf (⟨0,0,⟨[]⟩,⟨[]⟩,⟨[]⟩,⟨[]⟩⟩:GDga))):List.drop 594 (qb (⟨0,0,⟨[]⟩,⟨[]⟩,⟨[]⟩,⟨[]⟩⟩:GDga))=[]),wA, *];exact qc (by simp only[simprocAttr,R0,qd,p64,Rs.ev,qa,qk,Bool.eq_false_iff.2 c96,qk,(show [V.int .i64 0,V.int .i64 1,V.int .i64 1,V.int .i64 2,V.int .i64 0,V.int .i64 0,V.int .i64 0,V.int .i64 0]=arc .i64 8 [0,1,1,2,0,0,0,0] from rfl),(eq_true (show(1:Int) < ((8:Nat):Int) from by decide)),(eq_true (show(2:Int) < ((8:Nat):Int) from by decide)),(wC (Nat.le_of_eq (qf (⟨0,0,⟨[]⟩,⟨[]⟩,⟨[]⟩,⟨[]⟩⟩:GDga))):List.drop 594 (qb (⟨0,0,⟨[]⟩,⟨[]⟩,⟨[]⟩,⟨[]⟩⟩:GDga))=[]),wA, *])
    ·rw[if_neg c126]at hF
     cases hF;simp only[simprocAttr,R0,b64,qe,qe,qf,wU,qU,qe,(wC (Nat.le_of_eq (qf (⟨0,0,⟨[]⟩,⟨[]⟩,⟨[]⟩,⟨[]⟩⟩:GDga))):List.drop 594 (qb (⟨0,0,⟨[]⟩,⟨[]⟩,⟨[]⟩,⟨[]⟩⟩:GDga))=[]),wA,qk,Bool.eq_false_iff.2 c2,qk,Bool.eq_false_iff.2 c48,qk,Bool.eq_false_iff.2 c96,qk,Bool.eq_false_iff.2 c126,(wC (Nat.le_of_eq (qf (⟨0,0,⟨[]⟩,⟨[]⟩,⟨[]⟩,⟨[]⟩⟩:GDga))):List.drop 594 (qb (⟨0,0,⟨[]⟩,⟨[]⟩,⟨[]⟩,⟨[]⟩⟩:GDga))=[]),wA, *];exact qc (by simp only[simprocAttr,R0,qd,p64,Rs.ev,qa,qe,qe,qf,wU,qU,qe,(wC (Nat.le_of_eq (qf (⟨0,0,⟨[]⟩,⟨[]⟩,⟨[]⟩,⟨[]⟩⟩:GDga))):List.drop 594 (qb (⟨0,0,⟨[]⟩,⟨[]⟩,⟨[]⟩,⟨[]⟩⟩:GDga))=[]),wA,qk,Bool.eq_false_iff.2 c2,qk,Bool.eq_false_iff.2 c48,qk,Bool.eq_false_iff.2 c96,qk,Bool.eq_false_iff.2 c126,(wC (Nat.le_of_eq (qf (⟨0,0,⟨[]⟩,⟨[]⟩,⟨[]⟩,⟨[]⟩⟩:GDga))):List.drop 594 (qb (⟨0,0,⟨[]⟩,⟨[]⟩,⟨[]⟩,⟨[]⟩⟩:GDga))=[]),wA, *])
def F78(a0:Int):Option Bool:=
 if a0=2 then
  some true
 else
  if a0=3 then
   some true
  else
   if a0=5 then
    some true
   else
    some (decide (a0=7))
theorem s78(a0:Int){r:Bool}(hF:F78 a0=some r):ans A 78 [V.int .i64 a0]=some (enc r):=by
 refine qp (f:=p78) rfl rfl rfl fun e hl he=>?_;have h0_0:e.at 0=V.int .i64 a0:=he 0 _ rfl;have hl_0:e.length=17:=hl;clear he hl;have h_0:=ai hl_0 h0_0;show W A b78 e ⟨[],0⟩ _;unfold F78 at hF;by_cases c1:a0=2
 ·rw[if_pos c1]at hF
  cases hF;simp only[simprocAttr,R0,b78, *];exact qc (by simp only[simprocAttr,R0,qd,p78,Rs.ev,qa, *])
 ·rw[if_neg c1]at hF
  by_cases c2:a0=3
  ·rw[if_pos c2]at hF
   cases hF;simp only[simprocAttr,R0,b78, *];exact qc (by simp only[simprocAttr,R0,qd,p78,Rs.ev,qa, *])
  ·rw[if_neg c2]at hF
   by_cases c3:a0=5
   ·rw[if_pos c3]at hF
    cases hF;simp only[simprocAttr,R0,b78, *];exact qc (by simp only[simprocAttr,R0,qd,p78,Rs.ev,qa, *])
   ·rw[if_neg c3]at hF
    cases hF;simp only[simprocAttr,R0,b78, *];exact qc (by simp only[simprocAttr,R0,qd,p78,Rs.ev,qa, *])
def F143(a0:Str)(a1:Int):Option (T2 GDga Int):=
 (F78 a1).bind fun x1=>
 if x1=true then
  (F64 ⟨a0.val⟩ a1).bind fun x3=>
  if x3.b=true then
   some ⟨x3.a,0⟩
  else
   some ⟨(⟨0,0,⟨[]⟩,⟨[]⟩,⟨[]⟩,⟨[]⟩⟩:GDga),4⟩
 else
  some ⟨(⟨0,0,⟨[]⟩,⟨[]⟩,⟨[]⟩,⟨[]⟩⟩:GDga),2⟩
theorem s143(a0:Str)(a1:Int){r:T2 GDga Int}(hF:F143 a0 a1=some r):ans A 143 [V.str a0.val,V.int .i64 a1]=some (EncR.enc r):=by
 refine qp (f:=p143) rfl rfl rfl fun e hl he=>?_;have h0_0:e.at 0=V.str a0.val:=he 0 _ rfl;have h1_0:e.at 1=V.int .i64 a1:=he 1 _ rfl;have hl_0:e.length=22:=hl;clear he hl;have h_0:=ai hl_0 (ai h0_0 h1_0);show W A b143 e ⟨[],0⟩ _;unfold F143 at hF;obtain⟨x1,gx1,hF⟩:=bS hF;have w2:=s78 a1 gx1;cases x1 with
 |true=>
  rw[if_pos rfl]at hF;obtain⟨x3,gx3,hF⟩:=bS hF;have w4:ans A 64 [V.str a0.val,V.int .i64 a1]=some (V.tup [V.agg (qb x3.a),V.bool x3.b]):=s64 ⟨a0.val⟩ a1 gx3;by_cases c6:x3.b=true
  ·rw[if_pos c6]at hF
   cases hF;simp only[simprocAttr,R0,b143,qe,qe,(wC (Nat.le_of_eq (qf (⟨0,0,⟨[]⟩,⟨[]⟩,⟨[]⟩,⟨[]⟩⟩:GDga))):List.drop 594 (qb (⟨0,0,⟨[]⟩,⟨[]⟩,⟨[]⟩,⟨[]⟩⟩:GDga))=[]),wA,(wC (Nat.le_of_eq (qf (⟨0,0,⟨[]⟩,⟨[]⟩,⟨[]⟩,⟨[]⟩⟩:GDga))):List.drop 594 (qb (⟨0,0,⟨[]⟩,⟨[]⟩,⟨[]⟩,⟨[]⟩⟩:GDga))=[]),wA, *];exact qc (by simp only[simprocAttr,R0,qd,p143,Rs.ev,qa,qe,qe,(wC (Nat.le_of_eq (qf (⟨0,0,⟨[]⟩,⟨[]⟩,⟨[]⟩,⟨[]⟩⟩:GDga))):List.drop 594 (qb (⟨0,0,⟨[]⟩,⟨[]⟩,⟨[]⟩,⟨[]⟩⟩:GDga))=[]),wA,(wC (Nat.le_of_eq (qf (⟨0,0,⟨[]⟩,⟨[]⟩,⟨[]⟩,⟨[]⟩⟩:GDga))):List.drop 594 (qb (⟨0,0,⟨[]⟩,⟨[]⟩,⟨[]⟩,⟨[]⟩⟩:GDga))=[]),wA, *])
  ·rw[if_neg c6]at hF
   cases hF;simp only[simprocAttr,R0,b143,qe,qe,(wC (Nat.le_of_eq (qf (⟨0,0,⟨[]⟩,⟨[]⟩,⟨[]⟩,⟨[]⟩⟩:GDga))):List.drop 594 (qb (⟨0,0,⟨[]⟩,⟨[]⟩,⟨[]⟩,⟨[]⟩⟩:GDga))=[]),wA,Bool.eq_false_iff.2 c6,qe,(wC (Nat.le_of_eq (qf (⟨0,0,⟨[]⟩,⟨[]⟩,⟨[]⟩,⟨[]⟩⟩:GDga))):List.drop 594 (qb (⟨0,0,⟨[]⟩,⟨[]⟩,⟨[]⟩,⟨[]⟩⟩:GDga))=[]),wA, *];exact qc (by simp only[simprocAttr,R0,qd,p143,Rs.ev,qa,qe,qe,(wC (Nat.le_of_eq (qf (⟨0,0,⟨[]⟩,⟨[]⟩,⟨[]⟩,⟨[]⟩⟩:GDga))):List.drop 594 (qb (⟨0,0,⟨[]⟩,⟨[]⟩,⟨[]⟩,⟨[]⟩⟩:GDga))=[]),wA,Bool.eq_false_iff.2 c6,qe,(wC (Nat.le_of_eq (qf (⟨0,0,⟨[]⟩,⟨[]⟩,⟨[]⟩,⟨[]⟩⟩:GDga))):List.drop 594 (qb (⟨0,0,⟨[]⟩,⟨[]⟩,⟨[]⟩,⟨[]⟩⟩:GDga))=[]),wA, *])
 |false=>
  rw[if_neg wE]at hF;cases hF;simp only[simprocAttr,R0,b143,qe,qe,(wC (Nat.le_of_eq (qf (⟨0,0,⟨[]⟩,⟨[]⟩,⟨[]⟩,⟨[]⟩⟩:GDga))):List.drop 594 (qb (⟨0,0,⟨[]⟩,⟨[]⟩,⟨[]⟩,⟨[]⟩⟩:GDga))=[]),wA, *];exact qc (by simp only[simprocAttr,R0,qd,p143,Rs.ev,qa,qe,qe,(wC (Nat.le_of_eq (qf (⟨0,0,⟨[]⟩,⟨[]⟩,⟨[]⟩,⟨[]⟩⟩:GDga))):List.drop 594 (qb (⟨0,0,⟨[]⟩,⟨[]⟩,⟨[]⟩,⟨[]⟩⟩:GDga))=[]),wA, *])
def F72_1_B(a0:GDga)(a1:Int)(v10_1:Int)(o1_1:(List Int)):Option (((List Int))⊕((List Int))):=
 (ixI 8 v10_1).bind fun n6=>
if(a0.Degrees.val.getD n6 0)=a1 then
 (app 8 o1_1 [v10_1]).bind fun l11=>
 some (.inl l11)
else
 some (.inl o1_1)
def F72_1_D(a0:GDga)(a1:Int)(v10_1:Int)(o1_1:(List Int)):Option ((List Int)):=
 some o1_1
def F72(a0:GDga)(a1:Int):Option (List Int):=
 (forR 0 a0.Size (F72_1_B a0 a1) (F72_1_D a0 a1) ([]:(List Int))).bind fun zo1_1=>
 some zo1_1
def I72_1(a0:GDga)(a1:Int)(v10_1:Int)(o1_1:(List Int))(e:Env)(h:Heap):Prop:=
 ∃u3 k4:Nat,h=⟨[(0,none),(u3,some (o1_1.map enc))],k4⟩∧e.length=25∧e.at 1=V.int .i64 a1∧e.at 2=V.iptr (qb a0)∧e.at 5=V.sl 1 u3 0 o1_1.length 1∧e.at 9=V.int .i64 a0.Size∧e.at 10=V.int .i64 v10_1
def P72_1(a0:GDga)(a1:Int)(zo1_1:(List Int))(x:Ex)(e:Env)(h:Heap):Prop:=
 x= .normal∧∃u3 k4:Nat,h=⟨[(0,none),(u3,some (zo1_1.map enc))],k4⟩∧e.length=25∧e.at 5=V.sl 1 u3 0 zo1_1.length 1
theorem l72_1(a0:GDga)(a1:Int){lo:Int}{s:(List Int)}{t:(List Int)}(hF:forR lo a0.Size (F72_1_B a0 a1) (F72_1_D a0 a1) s=some t){e:Env}{h:Heap}(hI:I72_1 a0 a1 lo s e h):W A c72_1 e h (P72_1 a0 a1 t):=by
 show W A (.block 0 (.loop false b72_1)) e h _;rw[ql];refine qq hF 2 (by obtain⟨_,_,rfl,_⟩:=hI; rfl) (I72_1 a0 a1) hI ?_ ?_
 ·rintro v10_1 o1_1 e h ⟨u3,k4,rfl,h_2⟩ hlt hw o ho
  unfold F72_1_B at ho;obtain⟨n6,gn6,ho⟩:=bS ho;obtain⟨w7a,w7b,w7c,w7d⟩:=qR gn6;have w8:=kD a0 w7d;by_cases c9:(a0.Degrees.val.getD n6 0)=a1
  ·rw[if_pos c9]at ho
   obtain⟨l11,gl11,ho⟩:=bS ho;have w10:=fun a b c d e=> qE (α:=Int) (n:=o1_1.length) (m:=1) (ds:=[V.int .i64 v10_1]) gl11 (by first|rfl|simp) (by first|rfl|simp) rfl a b c d e;have w10l:=qQ gl11;cases ho;simp only[simprocAttr, -Int.reduceNatCast',R0,b72_1, *];refine ai rfl (ei _ (ei _ (ai rfl ?_)));simp only[simprocAttr, -Int.reduceNatCast',R0, *]
  ·rw[if_neg c9]at ho
   cases ho;simp only[simprocAttr, -Int.reduceNatCast',R0,b72_1, *];refine ai rfl (ei _ (ei _ (ai rfl ?_)));simp only[simprocAttr, -Int.reduceNatCast',R0, *]
 ·rintro v10_1 o1_1 e h ⟨u3,k4,rfl,h_2⟩ hge t1 ho
  unfold F72_1_D at ho;cases ho;simp only[simprocAttr, -Int.reduceNatCast',R0,b72_1, *];intro ht; subst ht;refine ai rfl (ei _ (ei _ (ai rfl ?_)));simp only[simprocAttr, -Int.reduceNatCast',R0, *]
theorem s72(a0:GDga)(a1:Int){r:List Int}(hF:F72 a0 a1=some r):ans A 72 [V.agg (qb a0),V.int .i64 a1]=some (enc r):=by
 refine qp (f:=p72) rfl rfl rfl fun e hl he=>?_;have h0_0:e.at 0=V.agg (qb a0):=he 0 _ rfl;have h1_0:e.at 1=V.int .i64 a1:=he 1 _ rfl;have hl_0:e.length=25:=hl;clear he hl;show W A b72 e ⟨[],0⟩ _;unfold F72 at hF;have w1:=kS a0;obtain⟨zo1_1,gt12,hF⟩:=bS hF;simp only[simprocAttr, -Int.reduceNatCast',R0,b72, *];refine W.mono (l72_1 a0 a1 gt12 (ei _ (ei _ (ai rfl ?_)))) ?_
 ·simp only[simprocAttr, -Int.reduceNatCast',R0, *]
 rintro _ e _ ⟨rfl,u3,k4,rfl,hl_5,h5_5⟩;have hE:=wB hF; subst hE;simp only[simprocAttr, -Int.reduceNatCast',R0, *];exact qc (by simp only[simprocAttr, -Int.reduceNatCast',R0,qd,p72,Rs.ev,qa,frzs (α:=Int) zo1_1,qG (α:=Int) zo1_1, *])
def F74_2_B(a1:List Int)(o1_1:List (List (List Int)))(q2_0_1:Int)(q2_1_1:List Int)(v6_1:Int)(x7:Int)(v22_2:Int)(o3_2:(List (List Int))):Option (((List (List Int)))⊕((List (List Int)))):=
 (chk (v6_1 - 1)).bind fun x13=>
(getI a1 x13).bind fun x14=>
(mkL 8 x14 0).bind fun l16=>
(app 24 o3_2 [l16]).bind fun l19=>
some (.inl l19)
def F74_2_D(a1:List Int)(o1_1:List (List (List Int)))(q2_0_1:Int)(q2_1_1:List Int)(v6_1:Int)(x7:Int)(v22_2:Int)(o3_2:(List (List Int))):Option ((List (List Int))):=
 some o3_2
def F74_1_B(a1:List Int)(v6_1:Int)(s:(List (List (List Int)))×Int×(List Int)):Option (((List (List (List Int)))×Int×(List Int))⊕((List (List (List Int)))×Int×(List Int))):=
 match s with
 |(o1_1,q2_0_1,q2_1_1)=>
  (getI a1 v6_1).bind fun x7=>
  (forR 0 x7 (F74_2_B a1 o1_1 q2_0_1 q2_1_1 v6_1 x7) (F74_2_D a1 o1_1 q2_0_1 q2_1_1 v6_1 x7) ([]:(List (List Int)))).bind fun zo3_2=>
  (app 24 o1_1 [zo3_2]).bind fun l22=>
  some (.inl (l22,q2_0_1,q2_1_1))
def F74_1_D(a1:List Int)(v6_1:Int)(s:(List (List (List Int)))×Int×(List Int)):Option ((List (List (List Int)))×Int×(List Int)):=
 match s with
 |(o1_1,q2_0_1,q2_1_1)=>
  some (o1_1,q2_0_1,q2_1_1)
def F74(a0:Int)(a1:List Int):Option qh:=
 (forR 1 (a1.length:Int) (F74_1_B a1) (F74_1_D a1) ([],a0,a1)).bind fun t25=> match t25 with
  |(zo1_1,zq2_0_1,zq2_1_1)=>
   some ⟨zq2_0_1,zq2_1_1,zo1_1⟩
theorem d74(a0:Int)(a1:List Int){r:qh}(hF:F74 a0 a1=some r)(E0:List (Nat×Option (List V)))(c0:Nat){dk du:Nat}(hd0:E0[dk]? =some (du,some (a1.map enc))):∃v h',res A 74 [V.int .i64 a0,V.sl dk du 0 a1.length 1] ⟨E0,c0⟩=some (v,h')∧r.Prime=a0∧r.Dims=a1∧∃m K,v=V.agg [V.int .i64 r.Prime,V.sl dk du 0 a1.length 1,m]∧Deep.rep h' m r.Maps K∧(∀k,K k→E0.length≤k)∧(∀k,k < E0.length→h'.ents[k]? =E0[k]?)∧E0.length≤h'.ents.length:=by
 have hdk:dk < E0.length:=(List.getElem?_eq_some_iff.1 hd0).1;refine je (f:=p74) rfl rfl rfl fun e hl he=>?_;have h0_0:e.at 0=V.int .i64 a0:=he 0 _ rfl;have h1_0:e.at 1=V.sl dk du 0 a1.length 1:=he 1 _ rfl;have hl_0:e.length=41:=hl;clear he hl;show W A b74 e ⟨E0,c0⟩ _;unfold F74 at hF;obtain⟨t13,gt13,hF⟩:=bS hF;have ws:ans A 73 [V.isl (a1.map enc)]=some (V.int .i64 (a1.length:Int)):=s73 a1 rfl;simp only[simprocAttr, -Int.reduceNatCast',R0,b74,hl_0,h0_0,h1_0,le1,qy,ge2a,ge2b,ge3a,ge3b,ge3c,se2a,se2b,se3a,se3b,se3c,jm];show W A (.block 0 (.loop true b74_1)) _ _ _;rw[ql];refine qq gt13 _ rfl (fun i s e h=> s.2=(a0,a1)∧∃u vs K,h.ents[E0.length]? =some (c0,some [V.int .i64 0,V.nils,V.nils])∧h.ents[E0.length+1]? =some (u,some vs)∧h.ents[E0.length+2]? =some (c0+2,some [V.int .i64 a0,V.sl dk du 0 a1.length 1,V.sl (E0.length+1) u 0 s.1.length 1])∧reps h vs s.1 K∧(∀k,K k→E0.length+3≤k)∧(∀k,k < E0.length→h.ents[k]? =E0[k]?)∧e.length=41∧e.at 1=V.sl dk du 0 a1.length 1∧e.at 4=V.ptr E0.length c0 0∧e.at 5=V.ptr (E0.length+2) (c0+2) 0∧e.at 6=V.int .i64 i) ?_ ?_ ?_
 ·refine⟨rfl,c0+1,[],fun _=> False,ge3a ..,ge3b ..,ge3c ..,fun _ x=> x,fun _ x=> x.elim,fun k q=>?_,?_⟩
  ·rw[wT,wT]; exact List.getElem?_append_left q
  simp only[simprocAttr, -Int.reduceNatCast',R0,hl_0,h0_0,h1_0]
 ·clear hl_0 h0_0 h1_0
  rintro i ⟨l,q⟩ e ⟨E,c⟩ ⟨rfl,u,vs,K,g1,g2,g3,g4,g5,g6,hl_1,h1_1,h4_1,h5_1,h6_1⟩ hlt hw o ho;unfold F74_1_B at ho;simp only at ho g1 g2 g3 g4 g6;have hDd:E[dk]? =some (du,some (a1.map enc)):=(g6 dk hdk).trans hd0;have wfz:frz ⟨E,c⟩ 16 (V.sl dk du 0 a1.length 1)=_:=frz_row hDd;obtain⟨x7,gx7,ho⟩:=bS ho;obtain⟨w8a,w8b⟩:=qm gx7;have w8c:=qM gx7;have w8d:qB none (List.drop (Int.toNat i) (a1.map enc))=some (V.int .i64 x7):=qz (by rw[List.getElem?_map,w8b]; rfl);have hDx:∀x,(E++[x])[dk]? =some (du,some (a1.map enc)):=fun x=>(List.getElem?_append_left (List.getElem?_eq_some_iff.1 hDd).1).trans hDd;obtain⟨rows,gt20,ho⟩:=bS ho;obtain⟨l22,gl22,ho⟩:=bS ho;obtain⟨q1,q2,rfl⟩:=app_w gl22;have hE:=wB ho; subst hE;have hE0:E0.length+2 < E.length:=(List.getElem?_eq_some_iff.1 g3).1;simp only[simprocAttr, -Int.reduceNatCast',R0,b74_1,hl_1,h1_1,h4_1,h5_1,h6_1,eq_true hlt,hw,ws,wfz,w8a,eq_true w8c,w8d,hDd,hDx];refine W.mono (Q:=fun x' e h=> x'= .normal∧∃u' vs' K',h.ents[E.length]? =some (u',some vs')∧reps h vs' rows K'∧(∀k,K' k→E.length+1≤k)∧(∀k,k < E.length→h.ents[k]? =E[k]?)∧e.length=41∧e.at 1=V.sl dk du 0 a1.length 1∧e.at 4=V.ptr E0.length c0 0∧e.at 5=V.ptr (E0.length+2) (c0+2) 0∧e.at 6=V.int .i64 i∧e.at 7=V.sl E.length u' 0 rows.length 1) ?_ ?_
  rotate_left
  ·rintro _ e ⟨E1,c1⟩ ⟨rfl,u',vs',K',f1,f2,f3,f4,hl_2,h1_2,h4_2,h5_2,h6_2,h7_2⟩
   simp only at f1 f4;have hln:=g4.len;have hE1:E.length < E1.length:=(List.getElem?_eq_some_iff.1 f1).1;have m0:=(f4 E0.length (by omega)).trans g1;have m1:=(f4 (E0.length+1) (by omega)).trans g2;have m2:=(f4 (E0.length+2) (by omega)).trans g3;have n2:∀y,(E1++[y])[E0.length+2]? =_:=fun y=>(List.getElem?_append_left (by omega)).trans m2;have n2':∀y z,((E1++[y]).set (E0.length+1) z)[E0.length+2]? =_:=fun y z=>(qI (by omega) (by omega)).trans m2;have w9:∀y c',qO 1 24 (.sl (E0.length+1) u 0 l.length 1) 1 [V.sl E.length u' 0 rows.length 1] ⟨E1++[y],c'⟩=_:=fun y c'=> qV (E:=E1++[y]) (vs:=vs) (by rw[List.getElem?_append_left (by omega)]; exact m1) hln (by simpa using q1) (by simpa using q2);simp only[simprocAttr, -Int.reduceNatCast',R0,hl_2,h1_2,h4_2,h5_2,h6_2,h7_2,hw,m2,n2,n2',qy,w9];have r0:Deep.rep ⟨E1,c1⟩ (V.sl E.length u' 0 rows.length 1) rows (fun k=> k=E.length∨K' k):=rep_at f1 f2 (fun q=> by have:=f3 _ q; omega);have hk:∀k,K k∨(k=E.length∨K' k)→E0.length+3≤k:=fun k q=> q.elim (g5 k) (fun q=> q.elim (fun q=> by omega) (fun q=> by have:=f3 k q; omega));have r1:=js (h:=⟨E,c⟩) (h1:=⟨E1,c1⟩) (h2:=⟨((E1++[(c1,some [V.sl E.length u' 0 rows.length 1])]).set (E0.length+1) (c1+1,some (vs++[V.sl E.length u' 0 rows.length 1]))).set (E0.length+2) (c0+2,some [V.int .i64 a0,V.sl dk du 0 a1.length 1,V.sl (E0.length+1) (c1+1) 0 (l.length+1) 1]),c1+1+1⟩) (K:=K) g4
    r0 (fun k q=> q.elim (fun q=> by show E.length≤k; omega) (fun q=> by have:=f3 k q; show E.length≤k; omega)) f4 (fun k p q=> by
     have:=hk k q;rw[qC (by omega)];exact qI (by omega) p) (by show E.length≤E1.length; omega)
   refine ai rfl (ai rfl ⟨c1+1,vs++[V.sl E.length u' 0 rows.length 1],_,?_,?_,?_,r1,hk,fun k q=>?_,?_⟩)
   ·exact(qC (by omega)).trans ((qI (by omega) (by omega)).trans m0)
   ·exact(qC (by omega)).trans (qt (by simp; omega))
   ·simp only[wH,wK,wJ,wV]
    exact qt (by simp; omega)
   ·exact(qC (by omega)).trans ((qI (by omega) (by omega)).trans ((f4 k (by omega)).trans (g6 k q)))
   ·simp only[simprocAttr, -Int.reduceNatCast',R0,hl_2,h1_2,h4_2,h5_2,h6_2,h7_2,hw]
  show W A (.block 2 (.loop true b74_2)) _ _ _;rw[ql];refine qq gt20 _ rfl (fun j rs e h=>∃u' vs' K',h.ents[E.length]? =some (u',some vs')∧reps h vs' rs K'∧(∀k,K' k→E.length+1≤k)∧(∀k,k < E.length→h.ents[k]? =E[k]?)∧e.length=41∧e.at 1=V.sl dk du 0 a1.length 1∧e.at 4=V.ptr E0.length c0 0∧e.at 5=V.ptr (E0.length+2) (c0+2) 0∧e.at 6=V.int .i64 i∧e.at 7=V.sl E.length u' 0 rs.length 1∧e.at 21=V.int .i64 x7∧e.at 22=V.int .i64 j) ?_ ?_ ?_
  ·refine⟨c,[],fun _=> False,qy _ _,fun _ x=> x,fun _ x=> x.elim,fun k q=> List.getElem?_append_left q,?_⟩
   simp only[simprocAttr, -Int.reduceNatCast',R0,hl_1,h1_1,h4_1,h5_1,h6_1]
  ·clear hl_1 h1_1 h4_1 h5_1 h6_1
   rintro j rs e ⟨E1,c1⟩ ⟨u',vs',K',f1,f2,f3,f4,hl_1,h1_1,h4_1,h5_1,h6_1,h7_1,h21_1,h22_1⟩ hlt2 hw2 o ho;unfold F74_2_B at ho;obtain⟨x13,gx13,ho⟩:=bS ho;have wx13:=qx gx13;obtain⟨x14,gx14,ho⟩:=bS ho;obtain⟨w15a,w15b⟩:=qm gx14;have w15c:=qM gx14;have w15d:qB none (List.drop (Int.toNat x13) (a1.map enc))=some (V.int .i64 x14):=qz (by rw[List.getElem?_map,w15b]; rfl);obtain⟨l16,gl16,ho⟩:=bS ho;obtain⟨w17a,w17b,w17c,w17d,w17e⟩:=mkL_w gl16;replace w17e:(List.replicate (Int.toNat x14) [V.int .i64 0]).flatten=List.map enc l16:=w17e;obtain⟨l19,gl19,ho⟩:=bS ho;obtain⟨q1,q2,rfl⟩:=app_w gl19;have hE:=wB ho; subst hE;simp only at f1 f4;have hln:=f2.len;have hE1:E.length < E1.length:=(List.getElem?_eq_some_iff.1 f1).1;have hD1:E1[dk]? =some (du,some (a1.map enc)):=(f4 dk (by omega)).trans hDd;have w9:∀x y c',qO 1 24 (.sl E.length u' 0 rs.length 1) 1 [V.sl E1.length c1 0 (Int.toNat x14) 1] ⟨E1++[x]++[y],c'⟩=_:=fun x y c'=> qV (E:=E1++[x]++[y]) (vs:=vs') (by rw[List.getElem?_append_left (by simp; omega),List.getElem?_append_left hE1]; exact f1) hln (by simpa using q1) (by simpa using q2);simp only[simprocAttr, -Int.reduceNatCast',R0,b74_2,hl_1,h1_1,h4_1,h5_1,h6_1,h7_1,h21_1,h22_1,eq_true hlt2,hw2,wx13,w15a,eq_true w15c,w15d,hD1,w17a,w17b,w17c,w17e,qy,w9];have r0:Deep.rep ⟨E1++[(c1,some (l16.map enc))],c1+1⟩ (V.sl E1.length c1 0 (Int.toNat x14) 1) l16 (fun k=> k=E1.length):=by
    rw[←w17d]; exact zh (qy _ _) fun k=> vU
   have r1:=js (h:=⟨E1,c1⟩) (h1:=⟨E1++[(c1,some (l16.map enc))],c1+1⟩) (h2:=⟨(E1++[(c1,some (l16.map enc))]++[(c1+1,some [V.sl E1.length c1 0 (Int.toNat x14) 1])]).set E.length (c1+1+1,some (vs'++[V.sl E1.length c1 0 (Int.toNat x14) 1])),c1+1+1+1⟩) f2
    r0 (fun k q=> by show E1.length≤k; omega) (fun k q=> List.getElem?_append_left q) (fun k p q=> qI (fun e=> by subst e; exact q.elim (fun q=> by have:=f3 _ q; omega) (fun q=> by omega)) p) (by simp)
   refine ai rfl ⟨_,_,_,qt (by simp; omega),r1,fun k q=> q.elim (f3 k) (fun q=> by omega),fun k q=>?_,?_⟩
   ·refine(qI (by omega) (by simp; omega)).trans ((List.getElem?_append_left (by omega)).trans (f4 k q))
   ·simp only[simprocAttr, -Int.reduceNatCast',R0,hl_1,h1_1,h4_1,h5_1,h6_1,h7_1,h21_1,h22_1,hw2,wH]
  ·clear hl_1 h1_1 h4_1 h5_1 h6_1
   rintro j rs e ⟨E1,c1⟩ ⟨u',vs',K',f1,f2,f3,f4,hl_1,h1_1,h4_1,h5_1,h6_1,h7_1,h21_1,h22_1⟩ hge t1 ho;have hE:=wB ho; subst hE;simp only[simprocAttr, -Int.reduceNatCast',R0,b74_2,hl_1,h1_1,h4_1,h5_1,h6_1,h7_1,h21_1,h22_1,eq_false hge];intro ht; subst ht;exact⟨u',vs',K',f1,f2,f3,f4,rfl⟩
 ·rintro i ⟨l,q⟩ e ⟨E,c⟩ ⟨rfl,u,vs,K,g1,g2,g3,g4,g5,g6,hl_1,h1_1,h4_1,h5_1,h6_1⟩ hge t1 ho
  unfold F74_1_D at ho;have hE:=wB ho; subst hE;simp only at hF g1 g2 g3 g4 g6;have hDd:E[dk]? =some (du,some (a1.map enc)):=(g6 dk hdk).trans hd0;have wfz:frz ⟨E,c⟩ 16 (V.sl dk du 0 a1.length 1)=_:=frz_row hDd;simp only[simprocAttr, -Int.reduceNatCast',R0,b74_1,hl_1,h1_1,h4_1,h5_1,h6_1,eq_false hge,ws,wfz,g1,g2,g3];intro ht; subst ht;have hE:=wB hF; subst hE;have hE0:E0.length+2 < E.length:=(List.getElem?_eq_some_iff.1 g3).1;refine ai (fun _=> trivial) ⟨_,by simp only[simprocAttr, -Int.reduceNatCast',R0,qd,p74,Rs.ev,hl_1,h4_1,qt (show E0.length < E.length by omega)]; rfl,rfl,rfl,_,_,rfl,rep_at (α:=List (List Int)) (K:=K) ?_ (g4.frame fun k q=> qC (by have:=g5 k q; omega)) (fun q=> by have:=g5 _ q; omega),fun k q=> q.elim (fun q=> by omega) (fun q=> by have:=g5 k q; omega),fun k q=>(qC (by omega)).trans (g6 k q),by simp; omega⟩;exact(qC (by omega)).trans g2
theorem dI74(a0:Int)(a1:List Int){r:qh}(hF:F74 a0 a1=some r):∃v h',res A 74 [V.int .i64 a0,V.isl (a1.map enc)] Heap.empty=some (v,h')∧∃m K,v=V.agg [V.int .i64 r.Prime,V.isl (r.Dims.map enc),m]∧Deep.rep h' m r.Maps K:=by
 refine je (f:=p74) rfl rfl rfl fun e hl he=>?_;have h0_0:e.at 0=V.int .i64 a0:=he 0 _ rfl;have h1_0:e.at 1=V.isl (a1.map enc):=he 1 _ rfl;have hl_0:e.length=41:=hl;clear he hl;show W A b74 e ⟨[],0⟩ _;unfold F74 at hF;obtain⟨t13,gt13,hF⟩:=bS hF;have ws:ans A 73 [V.isl (a1.map enc)]=some (V.int .i64 (a1.length:Int)):=s73 a1 rfl;simp only[simprocAttr, -Int.reduceNatCast',R0,b74,hl_0,h0_0,h1_0];show W A (.block 0 (.loop true b74_1)) _ _ _;rw[ql];refine qq gt13 _ rfl (fun i s e h=> s.2=(a0,a1)∧∃u vs K,h.ents[0]? =some (0,some [V.int .i64 0,V.nils,V.nils])∧h.ents[1]? =some (u,some vs)∧h.ents[2]? =some (2,some [V.int .i64 a0,V.isl (a1.map enc),V.sl 1 u 0 s.1.length 1])∧reps h vs s.1 K∧(∀k,K k→3≤k)∧e.length=41∧e.at 1=V.isl (a1.map enc)∧e.at 4=V.ptr 0 0 0∧e.at 5=V.ptr 2 2 0∧e.at 6=V.int .i64 i) ?_ ?_ ?_
 ·refine⟨rfl,1,[],fun _=> False,rfl,rfl,rfl,fun _ x=> x,fun _ x=> x.elim,?_⟩
  simp only[simprocAttr, -Int.reduceNatCast',R0,hl_0,h0_0,h1_0]
 ·clear hl_0 h0_0 h1_0
  rintro i ⟨l,q⟩ e ⟨E,c⟩ ⟨rfl,u,vs,K,g1,g2,g3,g4,g5,hl_1,h1_1,h4_1,h5_1,h6_1⟩ hlt hw o ho;unfold F74_1_B at ho;simp only at ho g1 g2 g3 g4;obtain⟨x7,gx7,ho⟩:=bS ho;obtain⟨w8a,w8b⟩:=qm gx7;obtain⟨rows,gt20,ho⟩:=bS ho;obtain⟨l22,gl22,ho⟩:=bS ho;obtain⟨q1,q2,rfl⟩:=app_w gl22;have hE:=wB ho; subst hE;have hE0:2 < E.length:=(List.getElem?_eq_some_iff.1 g3).1;simp only[simprocAttr, -Int.reduceNatCast',R0,b74_1,hl_1,h1_1,h4_1,h5_1,h6_1,eq_true hlt,hw,ws,w8a,w8b];refine W.mono (Q:=fun x' e h=> x'= .normal∧∃u' vs' K',h.ents[E.length]? =some (u',some vs')∧reps h vs' rows K'∧(∀k,K' k→E.length+1≤k)∧(∀k,k < E.length→h.ents[k]? =E[k]?)∧e.length=41∧e.at 1=V.isl (a1.map enc)∧e.at 4=V.ptr 0 0 0∧e.at 5=V.ptr 2 2 0∧e.at 6=V.int .i64 i∧e.at 7=V.sl E.length u' 0 rows.length 1) ?_ ?_
  rotate_left
  ·rintro _ e ⟨E1,c1⟩ ⟨rfl,u',vs',K',f1,f2,f3,f4,hl_2,h1_2,h4_2,h5_2,h6_2,h7_2⟩
   simp only at f1 f4;have hln:=g4.len;have hE1:E.length < E1.length:=(List.getElem?_eq_some_iff.1 f1).1;have m0:=(f4 0 (by omega)).trans g1;have m1:=(f4 1 (by omega)).trans g2;have m2:=(f4 2 (by omega)).trans g3;have n2:∀y,(E1++[y])[2]? =_:=fun y=>(List.getElem?_append_left (by omega)).trans m2;have n2':∀y z,((E1++[y]).set 1 z)[2]? =_:=fun y z=>(qI (by decide) (by omega)).trans m2;have w9:∀y c',qO 1 24 (.sl 1 u 0 l.length 1) 1 [V.sl E.length u' 0 rows.length 1] ⟨E1++[y],c'⟩=_:=fun y c'=> qV (E:=E1++[y]) (vs:=vs) (by rw[List.getElem?_append_left (by omega)]; exact m1) hln (by simpa using q1) (by simpa using q2);simp only[simprocAttr, -Int.reduceNatCast',R0,hl_2,h1_2,h4_2,h5_2,h6_2,h7_2,hw,m2,n2,n2',qy,w9];have r0:Deep.rep ⟨E1,c1⟩ (V.sl E.length u' 0 rows.length 1) rows (fun k=> k=E.length∨K' k):=rep_at f1 f2 (fun q=> by have:=f3 _ q; omega);have hk:∀k,K k∨(k=E.length∨K' k)→3≤k:=fun k q=> q.elim (g5 k) (fun q=> q.elim (fun q=> by omega) (fun q=> by have:=f3 k q; omega));have r1:=js (h:=⟨E,c⟩) (h1:=⟨E1,c1⟩) (h2:=⟨((E1++[(c1,some [V.sl E.length u' 0 rows.length 1])]).set 1 (c1+1,some (vs++[V.sl E.length u' 0 rows.length 1]))).set 2 (2,some [V.int .i64 a0,V.isl (a1.map enc),V.sl 1 (c1+1) 0 (l.length+1) 1]),c1+1+1⟩) (K:=K) g4
    r0 (fun k q=> q.elim (fun q=> by show E.length≤k; omega) (fun q=> by have:=f3 k q; show E.length≤k; omega)) f4 (fun k p q=> by
     have:=hk k q;rw[qC (by omega)];exact qI (by omega) p) (by show E.length≤E1.length; omega)
   refine ai rfl (ai rfl ⟨c1+1,vs++[V.sl E.length u' 0 rows.length 1],_,?_,?_,?_,r1,hk,?_⟩)
   ·exact(qC (by decide)).trans ((qI (by decide) (by omega)).trans m0)
   ·exact(qC (by decide)).trans (qt (by simp; omega))
   ·simp only[wH,wK,wJ,wV]
    exact qt (by simp; omega)
   ·simp only[simprocAttr, -Int.reduceNatCast',R0,hl_2,h1_2,h4_2,h5_2,h6_2,h7_2,hw]
  show W A (.block 2 (.loop true b74_2)) _ _ _;rw[ql];refine qq gt20 _ rfl (fun j rs e h=>∃u' vs' K',h.ents[E.length]? =some (u',some vs')∧reps h vs' rs K'∧(∀k,K' k→E.length+1≤k)∧(∀k,k < E.length→h.ents[k]? =E[k]?)∧e.length=41∧e.at 1=V.isl (a1.map enc)∧e.at 4=V.ptr 0 0 0∧e.at 5=V.ptr 2 2 0∧e.at 6=V.int .i64 i∧e.at 7=V.sl E.length u' 0 rs.length 1∧e.at 21=V.int .i64 x7∧e.at 22=V.int .i64 j) ?_ ?_ ?_
  ·refine⟨c,[],fun _=> False,qy _ _,fun _ x=> x,fun _ x=> x.elim,fun k q=> List.getElem?_append_left q,?_⟩
   simp only[simprocAttr, -Int.reduceNatCast',R0,hl_1,h1_1,h4_1,h5_1,h6_1]
  ·clear hl_1 h1_1 h4_1 h5_1 h6_1
   rintro j rs e ⟨E1,c1⟩ ⟨u',vs',K',f1,f2,f3,f4,hl_1,h1_1,h4_1,h5_1,h6_1,h7_1,h21_1,h22_1⟩ hlt2 hw2 o ho;unfold F74_2_B at ho;obtain⟨x13,gx13,ho⟩:=bS ho;have wx13:=qx gx13;obtain⟨x14,gx14,ho⟩:=bS ho;obtain⟨w15a,w15b⟩:=qm gx14;obtain⟨l16,gl16,ho⟩:=bS ho;obtain⟨w17a,w17b,w17c,w17d,w17e⟩:=mkL_w gl16;replace w17e:(List.replicate (Int.toNat x14) [V.int .i64 0]).flatten=List.map enc l16:=w17e;obtain⟨l19,gl19,ho⟩:=bS ho;obtain⟨q1,q2,rfl⟩:=app_w gl19;have hE:=wB ho; subst hE;simp only at f1 f4;have hln:=f2.len;have hE1:E.length < E1.length:=(List.getElem?_eq_some_iff.1 f1).1;have w9:∀x y c',qO 1 24 (.sl E.length u' 0 rs.length 1) 1 [V.sl E1.length c1 0 (Int.toNat x14) 1] ⟨E1++[x]++[y],c'⟩=_:=fun x y c'=> qV (E:=E1++[x]++[y]) (vs:=vs') (by rw[List.getElem?_append_left (by simp; omega),List.getElem?_append_left hE1]; exact f1) hln (by simpa using q1) (by simpa using q2);simp only[simprocAttr, -Int.reduceNatCast',R0,b74_2,hl_1,h1_1,h4_1,h5_1,h6_1,h7_1,h21_1,h22_1,eq_true hlt2,hw2,wx13,w15a,w15b,w17a,w17b,w17c,w17e,qy,w9];have r0:Deep.rep ⟨E1++[(c1,some (l16.map enc))],c1+1⟩ (V.sl E1.length c1 0 (Int.toNat x14) 1) l16 (fun k=> k=E1.length):=by
    rw[←w17d]; exact zh (qy _ _) fun k=> vU
   have r1:=js (h:=⟨E1,c1⟩) (h1:=⟨E1++[(c1,some (l16.map enc))],c1+1⟩) (h2:=⟨(E1++[(c1,some (l16.map enc))]++[(c1+1,some [V.sl E1.length c1 0 (Int.toNat x14) 1])]).set E.length (c1+1+1,some (vs'++[V.sl E1.length c1 0 (Int.toNat x14) 1])),c1+1+1+1⟩) f2
    r0 (fun k q=> by show E1.length≤k; omega) (fun k q=> List.getElem?_append_left q) (fun k p q=> qI (fun e=> by subst e; exact q.elim (fun q=> by have:=f3 _ q; omega) (fun q=> by omega)) p) (by simp)
   refine ai rfl ⟨_,_,_,qt (by simp; omega),r1,fun k q=> q.elim (f3 k) (fun q=> by omega),fun k q=>?_,?_⟩
   ·refine(qI (by omega) (by simp; omega)).trans ((List.getElem?_append_left (by omega)).trans (f4 k q))
   ·simp only[simprocAttr, -Int.reduceNatCast',R0,hl_1,h1_1,h4_1,h5_1,h6_1,h7_1,h21_1,h22_1,hw2,wH]
  ·clear hl_1 h1_1 h4_1 h5_1 h6_1
   rintro j rs e ⟨E1,c1⟩ ⟨u',vs',K',f1,f2,f3,f4,hl_1,h1_1,h4_1,h5_1,h6_1,h7_1,h21_1,h22_1⟩ hge t1 ho;have hE:=wB ho; subst hE;simp only[simprocAttr, -Int.reduceNatCast',R0,b74_2,hl_1,h1_1,h4_1,h5_1,h6_1,h7_1,h21_1,h22_1,eq_false hge];intro ht; subst ht;exact⟨u',vs',K',f1,f2,f3,f4,rfl⟩
 ·rintro i ⟨l,q⟩ e ⟨E,c⟩ ⟨rfl,u,vs,K,g1,g2,g3,g4,g5,hl_1,h1_1,h4_1,h5_1,h6_1⟩ hge t1 ho
  unfold F74_1_D at ho;have hE:=wB ho; subst hE;simp only at hF g1 g2 g3 g4;simp only[simprocAttr, -Int.reduceNatCast',R0,b74_1,hl_1,h1_1,h4_1,h5_1,h6_1,eq_false hge,ws,g1,g2,g3];intro ht; subst ht;have hE:=wB hF; subst hE;have hE0:2 < E.length:=(List.getElem?_eq_some_iff.1 g3).1;refine ai (fun _=> trivial) ⟨_,by simp only[simprocAttr, -Int.reduceNatCast',R0,qd,p74,Rs.ev,hl_1,h4_1,qt (show 0 < E.length by omega)]; rfl,_,_,rfl,rep_at (α:=List (List Int)) (K:=K) ?_ (g4.frame fun k q=> qC (by have:=g5 k q; omega)) (fun q=> by have:=g5 _ q; omega)⟩;exact(qC (by decide)).trans g2
theorem s74(a0:Int)(a1:List Int){r:qh}(hF:F74 a0 a1=some r):ans A 74 [V.int .i64 a0,V.isl (a1.map enc)]=some (enc r):=by
 obtain⟨v,h',h1,m,K,rfl,h2⟩:=dI74 a0 a1 hF;exact ans_agg h1 h2
def F75(p:Int)(n r pl v:Int)(s:List (List (List Int))):Option (List (List (List Int))):=
 (chk (n - 1)).bind fun i=>(getI s i).bind fun t=>(getI t r).bind fun row=>(getI row pl).bind fun old=>(chk (old+v)).bind fun a=>(remI a p).bind fun b=>(chk (b+p)).bind fun d=>(remI d p).bind fun z=>
 (setI row pl z).bind fun row'=>(setI t r row').bind fun t'=> setI s i t'
theorem d75{p n r pl v:Int}{dv:V}{s s':List (List (List Int))}(hF:F75 p n r pl v s=some s')(E:List (Nat×Option (List V)))(c:Nat){m:V}{K:Ks}(hr:Deep.rep ⟨E,c⟩ m s K):
  ∃h',res A 75 [V.agg [V.int .i64 p,dv,m],V.int .i64 n,V.int .i64 r,V.int .i64 pl,V.int .i64 v] ⟨E,c⟩=some (V.undef,h')∧Deep.rep h' m s' K∧(∀k,k < E.length→¬K k→h'.ents[k]? =E[k]?)∧E.length≤h'.ents.length:=by
 refine res_ex (f:=p75) rfl rfl rfl fun e hl he=>?_;have h0:e.at 0=V.agg [V.int .i64 p,dv,m]:=he 0 _ rfl;have h1:e.at 1=V.int .i64 n:=he 1 _ rfl;have h2:e.at 2=V.int .i64 r:=he 2 _ rfl;have h3:e.at 3=V.int .i64 pl:=he 3 _ rfl;have h4:e.at 4=V.int .i64 v:=he 4 _ rfl;have hl_0:e.length=38:=hl;clear he hl;show W A b75 e ⟨E,c⟩ _;unfold F75 at hF;obtain⟨i,gi,hF⟩:=bS hF;have wi:=qx gi;obtain⟨t,gt,hF⟩:=bS hF;obtain⟨ta,tb⟩:=qm gt;have tc:=qM gt;obtain⟨row,gr,hF⟩:=bS hF;obtain⟨ra,rb⟩:=qm gr;have rc:=qM gr;obtain⟨old,go,hF⟩:=bS hF;obtain⟨oa,ob⟩:=qm go;have oc:=qM go;obtain⟨a,ga,hF⟩:=bS hF;have wa:=qx ga;obtain⟨b,gb,hF⟩:=bS hF;obtain⟨wb0,wb⟩:=rem_w gb;obtain⟨d,gd,hF⟩:=bS hF;have wd:=qx gd;obtain⟨z,gz,hF⟩:=bS hF;obtain⟨_,wz⟩:=rem_w gz;obtain⟨row',gs,hF⟩:=bS hF;obtain⟨s1,s2,s3,s4,s5⟩:=setI_w gs;obtain⟨t',gt',hF⟩:=bS hF;have st:t'=t.set r.toNat row':=jI gt';have sm:s'=s.set i.toNat t':=jI hF;obtain⟨key,uid,vs,x1,K1,hm,a1,a2,a3,a4,a5,a6⟩:=rep_focus hr tb;obtain⟨key2,uid2,vs2,x2,K2,hx1,b1,b2,b3,b4,b5,b6⟩:=rep_focus a4 rb;rcases row_int b4 with⟨_,rfl,_⟩|⟨key3,uid3,hx2,d1,d2⟩
 ·exact absurd ob (by simp)
 have o1:=qz a2;have o2:=qz b2;have o3:qB none (List.drop pl.toNat (row.map enc))=some (V.int .i64 old):=qz (by rw[List.getElem?_map,ob]; rfl);have s5':List.take pl.toNat (row.map enc)++[V.int .i64 z]++List.drop (pl.toNat+1) (row.map enc)=List.map enc row':=s5;simp only at a1 b1 d1;have k1:key < E.length:=(List.getElem?_eq_some_iff.1 a1).1;have k2:key2 < E.length:=(List.getElem?_eq_some_iff.1 b1).1;have k3:key3 < E.length:=(List.getElem?_eq_some_iff.1 d1).1;have p1:∀x,(E++[x])[key]? =some (uid,some vs):=fun x=>(List.getElem?_append_left k1).trans a1;have p2:∀x,(E++[x])[key2]? =some (uid2,some vs2):=fun x=>(List.getElem?_append_left k2).trans b1;have p3:∀x,(E++[x])[key3]? =some (uid3,some (row.map enc)):=fun x=>(List.getElem?_append_left k3).trans d1;simp only[simprocAttr,R0,b75,hl_0,h0,h1,h2,h3,h4,qy,hm,wi,ta,eq_true tc,p1,o1,hx1,ra,eq_true rc,p2,o2,hx2,oa,eq_true oc,p3,o3,wa,wb0,wb,wd,wz,s3,s5'];rw[←hm];have q:∀k,k≠key3→k < E.length→((E++[(c,some [V.int .i64 p,dv,m])]).set key3 (uid3,some (List.map enc row')))[k]? =E[k]?:=fun k h1 h2=> qI h1 h2;have r0:Deep.rep ⟨(E++[(c,some [V.int .i64 p,dv,m])]).set key3 (uid3,some (List.map enc row')),c+1⟩ x2 row' K2:=by
  rw[hx2,←s4]; exact zh (qt (by simp; omega)) d2
 have r1:=b6 _ _ r0 (fun k hk nk=> q k (fun e=> nk ((d2 k).2 e)) (Deep.bd a4 hk));rw[←st]at r1;have r2:=a6 _ _ r1 (fun k hk nk=> q k (fun e=> nk (b5 k ((d2 k).2 e))) (Deep.bd hr hk));rw[←sm]at r2;refine ai (fun _=> trivial) ⟨?_,r2,fun k hk nk=> q k (fun e=> nk (a5 k (b5 k ((d2 k).2 e)))) hk,by simp⟩;simp only[simprocAttr,R1,qd,p75,mapO];rfl
def F36_2_B(a0:GDga)(ms:List Int)(i:Int)(l:List Int):Option (List Int⊕List Int):=(getI ms i).bind fun k=>(ixI 8 k).bind fun x=>(app 8 l [a0.Levels.val.getD x 0]).bind fun l2=> some (.inl l2)
def F36_1_B(a0:GDga)(n:Int)(s:List (List Int)×List Int):Option ((List (List Int)×List Int)⊕(List (List Int)×List Int)):=(F72 a0 n).bind fun ms=>(forR 0 (ms.length:Int) (F36_2_B a0 ms) (fun _ l=> some l) []).bind fun lv=>(app 24 s.1 [lv]).bind fun l2=>(app 8 s.2 [(lv.length:Int)]).bind fun d2=> some (.inl (l2,d2))
def F36_5_B(a0:GDga)(p n r k:Int)(ms:List Int)(j:Int)(s:List (List (List Int))):Option (List (List (List Int))⊕List (List (List Int))):=(getI ms j).bind fun k2=>(ixI 8 k).bind fun x=>(ixI 8 k2).bind fun y=>(chk (a0.Diff.val.getD (x*8+y) 0)).bind fun v=>(F75 p n r j v s).bind fun s2=> some (.inl s2)
def F36_4_B(a0:GDga)(p n:Int)(ms:List Int)(j:Int)(s:List (List (List Int))):Option (List (List (List Int))⊕List (List (List Int))):=(getI ms j).bind fun k=>(chk (n - 1)).bind fun m=>(F72 a0 m).bind fun ns=>(forR 0 (ns.length:Int) (F36_5_B a0 p n j k ns) (fun _ s=> some s) s).bind fun s2=> some (.inl s2)
def F36_3_B(a0:GDga)(p:Int)(n:Int)(s:List (List (List Int))):Option (List (List (List Int))⊕List (List (List Int))):=(F72 a0 n).bind fun ms=>(forR 0 (ms.length:Int) (F36_4_B a0 p n ms) (fun _ s=> some s) s).bind fun s2=> some (.inl s2)
def F36(a0:GDga):Option qg:=(chk (a0.Size - 1)).bind fun x=>(ixI 8 x).bind fun y=>(chk (a0.Degrees.val.getD y 0+1)).bind fun top=>(forR 0 top (F36_1_B a0) (fun _ s=> some s) ([],[])).bind fun s=>(F74 a0.Prime s.2).bind fun c=>(forR 1 (s.2.length:Int) (F36_3_B a0 c.Prime) (fun _ m=> some m) c.Maps).bind fun m=> some ⟨⟨c.Prime,c.Dims,m⟩,s.1⟩
theorem s36(a0:GDga){r:qg}(hF:F36 a0=some r):ans A 36 [V.agg (qb a0)]=some (enc r):=by
 refine qp (f:=p36) rfl rfl rfl fun e hl he=>?_;have h0_0:e.at 0=V.agg (qb a0):=he 0 _ rfl;have hl_0:e.length=101:=hl;clear he hl;show W A b36 e ⟨[],0⟩ _;unfold F36 at hF;obtain⟨x,gx,hF⟩:=bS hF;have wx:=qx gx;obtain⟨y,gy,hF⟩:=bS hF;obtain⟨ya,yb,yc,yd⟩:=qR gy;obtain⟨top,gtop,hF⟩:=bS hF;have wtop:=qx gtop;have wS:=kS a0;have wP:qB none (qb a0)=some (V.int .i64 a0.Prime):=ceGDga_Prime_one (a:=_) rfl;have wD:qB none (List.drop y (List.drop 2 (qb a0)))=some (V.int .i64 (a0.Degrees.val.getD y 0)):=by simp only[vO]; exact zC (i:=y) (by omega) (by omega)
 obtain⟨⟨lv,dims⟩,g1,hF⟩:=bS hF;dsimp only at hF;simp only[simprocAttr, -Int.reduceNatCast',R0,b36,hl_0,h0_0,wS,wx,ya,yb,yc,wD,wtop];show W A (.block 0 (.loop true b36_1)) _ _ _;rw[ql];refine qq g1 _ rfl (fun i s e h=>∃u ud vs K,h.ents[1]? =some (1,some [V.int .i64 0,.nils,.nils,.nils])∧h.ents[4]? =some (u,some vs)∧h.ents[5]? =some (ud,some (List.map enc s.2))∧h.ents[6]? =some (6,some [V.int .i64 0,V.sl 2 2 0 0 1,V.sl 3 3 0 0 1,V.sl 4 u 0 s.1.length 1])∧reps h vs s.1 K∧(∀k,K k→7≤k)∧e.length=101∧e.at 1=V.iptr (qb a0)∧e.at 2=V.ptr 1 1 0∧e.at 3=V.ptr 6 6 0∧e.at 4=V.sl 5 ud 0 s.2.length 1∧e.at 22=V.int .i64 top∧e.at 23=V.int .i64 i) ?_ ?_ ?_
 ·refine⟨4,5,[],fun _=> False,rfl,rfl,rfl,rfl,fun _ x=> x,fun _ x=> x.elim,?_⟩
  simp only[simprocAttr, -Int.reduceNatCast',R0,hl_0,h0_0]
 ·clear hl_0 h0_0
  rintro i ⟨l,q⟩ e ⟨E,c⟩ ⟨u,ud,vs,K,k1,k4,k5,k6,k7,k8,hl_1,h1_1,h2_1,h3_1,h4_1,h22_1,h23_1⟩ hlt hw o ho;unfold F36_1_B at ho;simp only at ho k1 k4 k5 k6 k7 h4_1;obtain⟨ms,gms,ho⟩:=bS ho;have wM:ans A 72 [V.agg (qb a0),V.int .i64 i]=some (V.isl (ms.map enc)):=s72 a0 i gms;obtain⟨lw,glv,ho⟩:=bS ho;obtain⟨l2,gl2,ho⟩:=bS ho;obtain⟨q1,q2,rfl⟩:=app_w gl2;obtain⟨d2,gd2,ho⟩:=bS ho;obtain⟨p1,p2,rfl⟩:=app_w gd2;have hE:=wB ho; subst hE;have e6:6 < E.length:=(List.getElem?_eq_some_iff.1 k6).1;simp only[simprocAttr, -Int.reduceNatCast',R0,b36_1,hl_1,h1_1,h2_1,h3_1,h4_1,h22_1,h23_1,eq_true hlt,hw,wM];refine W.mono (Q:=fun x' e h=> x'= .normal∧∃u',h.ents[E.length]? =some (u',some (lw.map enc))∧(∀k,k < E.length→h.ents[k]? =E[k]?)∧e.length=101∧e.at 1=V.iptr (qb a0)∧e.at 2=V.ptr 1 1 0∧e.at 3=V.ptr 6 6 0∧e.at 4=V.sl 5 ud 0 q.length 1∧e.at 6=V.sl E.length u' 0 lw.length 1∧e.at 22=V.int .i64 top∧e.at 23=V.int .i64 i) ?_ ?_
  rotate_left
  ·rintro _ e ⟨E1,c1⟩ ⟨rfl,u',f1,f4,hl_2,h1_2,h2_2,h3_2,h4_2,h6_2,h22_2,h23_2⟩
   simp only at f1 f4;have hln:=k7.len;have hE1:E.length < E1.length:=(List.getElem?_eq_some_iff.1 f1).1;have m1:=(f4 1 (by omega)).trans k1;have m4:=(f4 4 (by omega)).trans k4;have m5:=(f4 5 (by omega)).trans k5;have m6:=(f4 6 (by omega)).trans k6;have w9:∀y c',qO 1 24 (.sl 4 u 0 l.length 1) 1 [V.sl E.length u' 0 lw.length 1] ⟨E1++[y],c'⟩=_:=fun y c'=> qV (E:=E1++[y]) (vs:=vs) (by rw[List.getElem?_append_left (by omega)]; exact m4) hln (by simpa using q1) (by simpa using q2);have wf:∀y z c',frz ⟨(E1++[y]).set 4 z,c'⟩ 16 (V.sl E.length u' 0 lw.length 1)=_:=fun y z c'=> frz_row (l:=lw) (by rw[qI (by omega) (by omega)]; exact f1);have ws:ans A 73 [V.isl (lw.map enc)]=some (V.int .i64 (lw.length:Int)):=s73 lw rfl;have w10:∀y z x c',qO 1 8 (.sl 5 ud 0 q.length 1) 1 [V.int .i64 (lw.length:Int)] ⟨(E1++[y]).set 4 z++[x],c'⟩=_:=fun y z x c'=> qV (E:=(E1++[y]).set 4 z++[x]) (vs:=List.map enc q) (by rw[List.getElem?_append_left (by simp; omega),qI (by omega) (by omega)]; exact m5) (by simp) (by simpa using p1) (by simpa using p2);have n6:∀y z x,((E1++[y]).set 4 z++[x])[6]? =_:=fun y z x=>((List.getElem?_append_left (by simp; omega)).trans (qI (by omega) (by omega))).trans m6;have n6':∀y z x z',(((E1++[y]).set 4 z++[x]).set 5 z')[6]? =_:=fun y z x z'=>(qC (by omega)).trans (n6 y z x);have gl2:∀ (y z x),((E1++[y]).set 4 z++[x])[(E1++[y]).length]? =some x:=fun y z x=> by
    rw[List.getElem?_append_right (by simp)]; simp
   have gl3:∀ (y z x),((E1++[y]).set 4 z++[x])[E1.length+1]? =some x:=fun y z x=> by
    rw[List.getElem?_append_right (by simp)]; simp
   simp only[simprocAttr, -Int.reduceNatCast',R0,hl_2,h1_2,h2_2,h3_2,h4_2,h6_2,h22_2,h23_2,hw,m6,qy,w9,wf,ws,w10,n6,n6',gl2,gl3,yB,le1];have hk:∀k,K k∨k=E.length→7≤k:=fun k w=> w.elim (k8 k) (fun w=> by omega);have old:∀ (z4 z5 z6:Nat×Option (List V)) (y x:Nat×Option (List V)) (k:Nat),k≠4→k≠5→k≠6→k < E1.length→((((E1++[y]).set 4 z4++[x]).set 5 z5).set 6 z6)[k]? =E1[k]?:=fun z4 z5 z6 y x k a1 a2 a3 a4=>
    (qC a3).trans ((qC a2).trans ((List.getElem?_append_left (by simp; omega)).trans (qI a1 a4)))
   refine ai rfl ⟨c1+1,c1+1+1+1,vs++[V.sl E.length u' 0 lw.length 1],(fun k=> K k∨k=E.length),?_,?_,?_,?_,?_,hk,?_⟩
   ·exact(old _ _ _ _ _ 1 (by omega) (by omega) (by omega) (by omega)).trans m1
   ·exact(qC (by omega)).trans ((qC (by omega)).trans ((List.getElem?_append_left (by simp; omega)).trans (qt (by simp; omega))))
   ·refine(qC (by omega)).trans ((qt (by simp; omega)).trans ?_)
    simp only[yA,wY,List.map_nil]; rfl
   ·refine(qt (by simp; omega)).trans ?_
    simp only[wH,wK,wJ,wV]
   ·exact js (h:=⟨E,c⟩) (h1:=⟨E1,c1⟩) (K1:=fun k=> k=E.length) k7 (zh f1 fun k=> vU) (fun k w=> by show E.length≤k; omega) f4 (fun k p w=> by have:=hk k w; exact old _ _ _ _ _ k (by omega) (by omega) (by omega) p) (by show E.length≤E1.length; omega)
   ·simp only[simprocAttr, -Int.reduceNatCast',R0,hl_2,h1_2,h2_2,h3_2,h4_2,h6_2,h22_2,h23_2,hw,wH]
  show W A (.block 2 (.loop true b36_2)) _ _ _;rw[ql];refine qq glv _ rfl (fun j l e h=>∃u',h.ents[E.length]? =some (u',some (l.map enc))∧(∀k,k < E.length→h.ents[k]? =E[k]?)∧e.length=101∧e.at 1=V.iptr (qb a0)∧e.at 2=V.ptr 1 1 0∧e.at 3=V.ptr 6 6 0∧e.at 4=V.sl 5 ud 0 q.length 1∧e.at 6=V.sl E.length u' 0 l.length 1∧e.at 22=V.int .i64 top∧e.at 23=V.int .i64 i∧e.at 29=V.isl (ms.map enc)∧e.at 30=V.int .i64 (ms.length:Int)∧e.at 31=V.int .i64 j) ?_ ?_ ?_
  ·refine⟨c,qy _ _,fun k w=> List.getElem?_append_left w,?_⟩
   simp only[simprocAttr, -Int.reduceNatCast',R0,hl_1,h1_1,h2_1,h3_1,h4_1,h22_1,h23_1]
  ·clear hl_1 h1_1 h2_1 h3_1 h4_1 h22_1 h23_1
   rintro j l e ⟨E1,c1⟩ ⟨u',f1,f4,hl_1,h1_1,h2_1,h3_1,h4_1,h6_1,h22_1,h23_1,h29_1,h30_1,h31_1⟩ hlt2 hw2 o ho;unfold F36_2_B at ho;simp only at f1 f4;obtain⟨k,gk,ho⟩:=bS ho;obtain⟨wka,wkb⟩:=qm gk;obtain⟨x,gx,ho⟩:=bS ho;obtain⟨xa,xb,xc,xd⟩:=qR gx;have wL:qB none (List.drop x (List.drop 10 (qb a0)))=some (V.int .i64 (a0.Levels.val.getD x 0)):=by simp only[vO]; exact zF (i:=x) (by omega) (by omega)
   obtain⟨l3,gl3,ho⟩:=bS ho;obtain⟨q1,q2,rfl⟩:=app_w gl3;have hE:=wB ho; subst hE;have hE1:E.length < E1.length:=(List.getElem?_eq_some_iff.1 f1).1;have w9:∀y c',qO 1 8 (.sl E.length u' 0 l.length 1) 1 [V.int .i64 (a0.Levels.val.getD x 0)] ⟨E1++[y],c'⟩=_:=fun y c'=> qV (E:=E1++[y]) (vs:=List.map enc l) (by rw[List.getElem?_append_left hE1]; exact f1) (by simp) (by simpa using q1) (by simpa using q2);simp only[simprocAttr, -Int.reduceNatCast',R0,b36_2,hl_1,h1_1,h2_1,h3_1,h4_1,h6_1,h22_1,h23_1,h29_1,h30_1,h31_1,eq_true hlt2,hw2,wka,wkb,xa,xb,xc,wL,qy,w9];refine ai rfl ⟨c1+1,(qt (by simp; omega)).trans ?_,fun k w=>(qI (by omega) (by omega)).trans (f4 k w),?_⟩
   ·simp only[yA,wY,List.map_nil]; rfl
   ·simp only[simprocAttr, -Int.reduceNatCast',R0,hl_1,h1_1,h2_1,h3_1,h4_1,h6_1,h22_1,h23_1,h29_1,h30_1,h31_1,hw2,wH]
  ·clear hl_1 h1_1 h2_1 h3_1 h4_1 h22_1 h23_1
   rintro j l e ⟨E1,c1⟩ ⟨u',f1,f4,hl_1,h1_1,h2_1,h3_1,h4_1,h6_1,h22_1,h23_1,h29_1,h30_1,h31_1⟩ hge t1 ho;have hE:=wB ho; subst hE;simp only[simprocAttr, -Int.reduceNatCast',R0,b36_2,hl_1,h1_1,h2_1,h3_1,h4_1,h6_1,h22_1,h23_1,h29_1,h30_1,h31_1,eq_false hge];intro ht; subst ht;exact⟨u',f1,f4,rfl⟩
 ·clear hl_0 h0_0
  rintro i ⟨l,q⟩ e ⟨E,c⟩ ⟨u,ud,vs,K,k1,k4,k5,k6,k7,k8,hl_1,h1_1,h2_1,h3_1,h4_1,h22_1,h23_1⟩ hge t1 ho;have hE:=wB ho; subst hE;simp only at k1 k4 k5 k6 k7 h4_1;simp only[simprocAttr, -Int.reduceNatCast',R0,b36_1,hl_1,h1_1,h2_1,h3_1,h4_1,h22_1,h23_1,eq_false hge];intro ht;obtain⟨rfl,rfl⟩:=yQ ht;obtain⟨cx,gcx,hF⟩:=bS hF;obtain⟨m',gm,hF⟩:=bS hF;have hE:=wB hF; subst hE;obtain⟨bv,⟨E0,c0⟩,w1,w2,w3,m,K1,rfl,w4,w5,w6,w7⟩:=d74 a0.Prime q gcx E c (dk:=5) (du:=ud) k5;simp only at w6 w7;have e6:6 < E.length:=(List.getElem?_eq_some_iff.1 k6).1;have n6:=(w6 6 e6).trans k6;simp only[simprocAttr, -Int.reduceNatCast',R0,hl_1,h1_1,h2_1,h3_1,h4_1,h22_1,h23_1,wP,qn,w1,n6];show W A (.block 4 (.loop true b36_3)) _ _ _;rw[ql];refine qq gm _ rfl (fun i s e h=>∃K1,h.ents[6]? =some (6,some [V.int .i64 cx.Prime,V.sl 5 ud 0 q.length 1,m,V.sl 4 u 0 l.length 1])∧(∀k,k < E.length→k≠6→h.ents[k]? =E[k]?)∧Deep.rep h m s K1∧(∀k,K1 k→E.length≤k)∧E.length≤h.ents.length∧e.length=101∧e.at 1=V.iptr (qb a0)∧e.at 2=V.ptr 1 1 0∧e.at 3=V.ptr 6 6 0∧e.at 4=V.sl 5 ud 0 q.length 1∧e.at 9=V.int .i64 i) ?_ ?_ ?_
  ·refine⟨K1,qt (by omega),fun k a b=>(qC b).trans (w6 k a),Deep.frame w4 fun k a=> qC (by have:=w5 k a; omega),w5,by simpa using w7,?_⟩
   simp only[simprocAttr, -Int.reduceNatCast',R0,hl_1,h1_1,h2_1,h3_1,h4_1]
  ·clear hl_1 h1_1 h2_1 h3_1 h4_1 h22_1 h23_1
   rintro i s e ⟨E1,c1⟩ ⟨K2,f6,fo,fr,fk,fl0,hl_1,h1_1,h2_1,h3_1,h4_1,h9_1⟩ hlt hw o ho;unfold F36_3_B at ho;simp only at f6 fo;obtain⟨ms,gms,ho⟩:=bS ho;have wM:ans A 72 [V.agg (qb a0),V.int .i64 i]=some (V.isl (ms.map enc)):=s72 a0 i gms;obtain⟨s2,gs2,ho⟩:=bS ho;have hE:=wB ho; subst hE;have wfz:frz ⟨E1,c1⟩ 16 (V.sl 5 ud 0 q.length 1)=_:=frz_row (l:=q) ((fo 5 (by omega) (by omega)).trans k5);have ws:ans A 73 [V.isl (q.map enc)]=some (V.int .i64 (q.length:Int)):=s73 q rfl;simp only[simprocAttr, -Int.reduceNatCast',R0,b36_3,hl_1,h1_1,h2_1,h3_1,h4_1,h9_1,wfz,ws,eq_true hlt,wM,hw];show W A (.block 6 (.loop true b36_4)) _ _ _;rw[ql];refine qq gs2 _ rfl (fun j s e h=>∃K1,h.ents[6]? =some (6,some [V.int .i64 cx.Prime,V.sl 5 ud 0 q.length 1,m,V.sl 4 u 0 l.length 1])∧(∀k,k < E.length→k≠6→h.ents[k]? =E[k]?)∧Deep.rep h m s K1∧(∀k,K1 k→E.length≤k)∧E.length≤h.ents.length∧e.length=101∧e.at 1=V.iptr (qb a0)∧e.at 2=V.ptr 1 1 0∧e.at 3=V.ptr 6 6 0∧e.at 4=V.sl 5 ud 0 q.length 1∧e.at 9=V.int .i64 i∧e.at 68=V.isl (ms.map enc)∧e.at 69=V.int .i64 (ms.length:Int)∧e.at 70=V.int .i64 j) ?_ ?_ ?_
   ·refine⟨K2,f6,fo,fr,fk,fl0,?_⟩
    simp only[simprocAttr, -Int.reduceNatCast',R0,hl_1,h1_1,h2_1,h3_1,h4_1,h9_1]
   ·clear hl_1 h1_1 h2_1 h3_1 h4_1 h9_1
    rintro j s e ⟨E2,c2⟩ ⟨K3,f6,fo,fr,fk,fl,hl_1,h1_1,h2_1,h3_1,h4_1,h9_1,h68_1,h69_1,h70_1⟩ hlt2 hw2 o ho;unfold F36_4_B at ho;simp only at f6 fo fl;obtain⟨k,gk,ho⟩:=bS ho;obtain⟨wka,wkb⟩:=qm gk;obtain⟨mm,gmm,ho⟩:=bS ho;have wmm:=qx gmm;obtain⟨ns,gns,ho⟩:=bS ho;have wN:ans A 72 [V.agg (qb a0),V.int .i64 mm]=some (V.isl (ns.map enc)):=s72 a0 mm gns;obtain⟨s3,gs3,ho⟩:=bS ho;have hE:=wB ho; subst hE;simp only[simprocAttr, -Int.reduceNatCast',R0,b36_4,hl_1,h1_1,h2_1,h3_1,h4_1,h9_1,h68_1,h69_1,h70_1,eq_true hlt2,wka,wkb,wmm,wN,hw2];show W A (.block 8 (.loop true b36_5)) _ _ _;rw[ql];refine qq gs3 _ rfl (fun jj s e h=>∃K1,h.ents[6]? =some (6,some [V.int .i64 cx.Prime,V.sl 5 ud 0 q.length 1,m,V.sl 4 u 0 l.length 1])∧(∀k,k < E.length→k≠6→h.ents[k]? =E[k]?)∧Deep.rep h m s K1∧(∀k,K1 k→E.length≤k)∧E.length≤h.ents.length∧e.length=101∧e.at 1=V.iptr (qb a0)∧e.at 2=V.ptr 1 1 0∧e.at 3=V.ptr 6 6 0∧e.at 4=V.sl 5 ud 0 q.length 1∧e.at 9=V.int .i64 i∧e.at 10=V.int .i64 j∧e.at 11=V.int .i64 k∧e.at 68=V.isl (ms.map enc)∧e.at 69=V.int .i64 (ms.length:Int)∧e.at 70=V.int .i64 j∧e.at 78=V.isl (ns.map enc)∧e.at 79=V.int .i64 (ns.length:Int)∧e.at 80=V.int .i64 jj) ?_ ?_ ?_
    ·refine⟨K3,f6,fo,fr,fk,fl,?_⟩
     simp only[simprocAttr, -Int.reduceNatCast',R0,hl_1,h1_1,h2_1,h3_1,h4_1,h9_1,h68_1,h69_1,h70_1]
    ·clear hl_1 h1_1 h2_1 h3_1 h4_1 h9_1 h68_1 h69_1 h70_1
     rintro jj s e ⟨E3,c3⟩ ⟨K4,f6,fo,fr,fk,fl2,hl_1,h1_1,h2_1,h3_1,h4_1,h9_1,h10_1,h11_1,h68_1,h69_1,h70_1,h78_1,h79_1,h80_1⟩ hlt3 hw3 o ho;unfold F36_5_B at ho;simp only at f6 fo fl2;obtain⟨k2,gk2,ho⟩:=bS ho;obtain⟨va,vb⟩:=qm gk2;obtain⟨x1,gx1,ho⟩:=bS ho;obtain⟨xa,xb,xc,xd⟩:=qR gx1;obtain⟨x2,gx2,ho⟩:=bS ho;obtain⟨za,zb,zc,zd⟩:=qR gx2;have wL:qB none (List.drop x2 (List.drop (x1*8) (List.drop 18 (qb a0))))=some (V.int .u8 (a0.Diff.val.getD (x1*8+x2) 0)):=by simp only[vO]; exact ceGDga_Diff_one (i:=x1*8+x2) (by omega) (by omega)
     obtain⟨v,gv,ho⟩:=bS ho;have wv:=qx gv;obtain⟨s4,gs4,ho⟩:=bS ho;have hE:=wB ho; subst hE;obtain⟨⟨E4,c4⟩,t1,t2,t3,t4⟩:=d75 (dv:=V.sl 5 ud 0 q.length 1) gs4 E3 c3 fr;simp only at t3 t4;have e3:6 < E3.length:=(List.getElem?_eq_some_iff.1 f6).1;simp only[simprocAttr, -Int.reduceNatCast',R0,b36_5,hl_1,h1_1,h2_1,h3_1,h4_1,h9_1,h10_1,h11_1,h68_1,h69_1,h70_1,h78_1,h79_1,h80_1,eq_true hlt3,va,vb,xa,xb,xc,za,zb,zc,wL,wv,f6,hw3,qn,t1];refine ai rfl ⟨K4,?_,fun k' a b=>?_,t2,fk,vN fl2 t4,?_⟩
     ·exact(t3 6 e3 (fun a=> by have:=fk _ a; omega)).trans f6
     ·exact(t3 k' (by omega) (fun a=> by have:=fk _ a; omega)).trans (fo k' a b)
     ·simp only[simprocAttr, -Int.reduceNatCast',R0,hl_1,h1_1,h2_1,h3_1,h4_1,h9_1,h10_1,h11_1,h68_1,h69_1,h70_1,h78_1,h79_1,h80_1,hw3]
    ·clear hl_1 h1_1 h2_1 h3_1 h4_1 h9_1 h68_1 h69_1 h70_1
     rintro jj s e ⟨E3,c3⟩ ⟨K4,f6,fo,fr,fk,fl2,hl_1,h1_1,h2_1,h3_1,h4_1,h9_1,h10_1,h11_1,h68_1,h69_1,h70_1,h78_1,h79_1,h80_1⟩ hge t1 ho;have hE:=wB ho; subst hE;simp only[simprocAttr, -Int.reduceNatCast',R0,b36_5,hl_1,h1_1,h2_1,h3_1,h4_1,h9_1,h10_1,h11_1,h68_1,h69_1,h70_1,h78_1,h79_1,h80_1,eq_false hge,hw2];intro ht; subst ht;refine ai rfl ⟨K4,f6,fo,fr,fk,fl2,?_⟩;simp only[simprocAttr, -Int.reduceNatCast',R0,hl_1,h1_1,h2_1,h3_1,h4_1,h9_1,h68_1,h69_1,h70_1,hw2]
   ·clear hl_1 h1_1 h2_1 h3_1 h4_1 h9_1
    rintro j s e ⟨E2,c2⟩ ⟨K3,f6,fo,fr,fk,fl,hl_1,h1_1,h2_1,h3_1,h4_1,h9_1,h68_1,h69_1,h70_1⟩ hge t1 ho;have hE:=wB ho; subst hE;simp only[simprocAttr, -Int.reduceNatCast',R0,b36_4,hl_1,h1_1,h2_1,h3_1,h4_1,h9_1,h68_1,h69_1,h70_1,eq_false hge,hw];intro ht; subst ht;refine ai rfl ⟨K3,f6,fo,fr,fk,fl,?_⟩;simp only[simprocAttr, -Int.reduceNatCast',R0,hl_1,h1_1,h2_1,h3_1,h4_1,h9_1,hw]
  ·clear hl_1 h1_1 h2_1 h3_1 h4_1 h22_1 h23_1
   rintro i s e ⟨E1,c1⟩ ⟨K2,f6,fo,fr,fk,fl0,hl_1,h1_1,h2_1,h3_1,h4_1,h9_1⟩ hge t1 ho;have hE:=wB ho; subst hE;simp only at f6 fo;have m1:=(fo 1 (by omega) (by omega)).trans k1;have m4:=(fo 4 (by omega) (by omega)).trans k4;have m5:=(fo 5 (by omega) (by omega)).trans k5;have wfz:frz ⟨E1,c1⟩ 16 (V.sl 5 ud 0 q.length 1)=_:=frz_row (l:=q) m5;have ws:ans A 73 [V.isl (q.map enc)]=some (V.int .i64 (q.length:Int)):=s73 q rfl;simp only[simprocAttr, -Int.reduceNatCast',R0,b36_3,hl_1,h1_1,h2_1,h3_1,h4_1,h9_1,wfz,ws,eq_false hge,f6,m1];intro ht; subst ht;have e1:1 < E1.length:=(List.getElem?_eq_some_iff.1 m1).1;have z5:∀z,frz ⟨E1.set 1 z,c1⟩ 15 (V.sl 5 ud 0 q.length 1)=_:=fun z=> Deep.fz (α:=List Int) (K:=fun k=> k=5) (zh ((qC (by omega)).trans m5) fun k=> vU) 10;have zm:∀z,frz ⟨E1.set 1 z,c1⟩ 15 m=_:=fun z=> Deep.fz (α:=List (List (List Int))) (Deep.frame fr fun k a=> qC (by have:=fk k a; omega)) 8;have zl:∀z,frz ⟨E1.set 1 z,c1⟩ 15 (V.sl 4 u 0 l.length 1)=_:=fun z=> Deep.fz (α:=List (List Int)) (rep_at (K:=K) ((qC (by omega)).trans m4) (k7.frame fun k a=>(qC (by have:=k8 k a; omega)).trans (fo k (k7.bd a) (by have:=k8 k a; omega))) (fun a=> by have:=k8 _ a; omega)) 9;exact qc (by simp only[simprocAttr, -Int.reduceNatCast',R0,qd,p36,Rs.ev,hl_1,h2_1,qt e1,z5,zm,zl,w3])
def F56(a0:Int)(a1:Int)(a2:Int):Option Bool:=
 if a1≤a0 then
  some (decide (a0≤a2))
 else
  some false
theorem s56(a0:Int)(a1:Int)(a2:Int){r:Bool}(hF:F56 a0 a1 a2=some r):ans A 56 [V.int .i64 a0,V.int .i64 a1,V.int .i64 a2]=some (enc r):=by
 refine qp (f:=p56) rfl rfl rfl fun e hl he=>?_;have h0_0:e.at 0=V.int .i64 a0:=he 0 _ rfl;have h1_0:e.at 1=V.int .i64 a1:=he 1 _ rfl;have h2_0:e.at 2=V.int .i64 a2:=he 2 _ rfl;have hl_0:e.length=15:=hl;clear he hl;have h_0:=ai hl_0 (ai h0_0 (ai h1_0 h2_0));show W A b56 e ⟨[],0⟩ _;unfold F56 at hF;by_cases c1:a1≤a0
 ·rw[if_pos c1]at hF
  cases hF;simp only[simprocAttr,R0,b56, *];exact qc (by simp only[simprocAttr,R0,qd,p56,Rs.ev,qa, *])
 ·rw[if_neg c1]at hF
  cases hF;simp only[simprocAttr,R0,b56, *];exact qc (by simp only[simprocAttr,R0,qd,p56,Rs.ev,qa, *])
def F195_1_B(a0:GDga)(a1:Ar .u8 8)(v8_1:Int)(s:Unit):Option ((Unit)⊕((Unit)⊕Bool)):=
 (ixI 8 v8_1).bind fun n5=>
(chk (a1.val.getD n5 0)).bind fun x8=>
if a0.Prime≤x8 then
 some (.inr (.inr false))
else
 if a0.Size≤v8_1 then
  if(a1.val.getD n5 0)=0 then
   some (.inl ())
  else
   some (.inr (.inr false))
 else
  some (.inl ())
def F195_1_D(a0:GDga)(a1:Ar .u8 8)(v8_1:Int)(s:Unit):Option ((Unit)⊕Bool):=
 some (.inl ())
def F195(a0:GDga)(a1:Ar .u8 8):Option Bool:=
 (forR 0 8 (F195_1_B a0 a1) (F195_1_D a0 a1) ()).bind fun t14=> match t14 with
  | .inl _=>
   some true
  | .inr r15=> some r15
def I195_1(a0:GDga)(a1:Ar .u8 8)(v8_1:Int)(s:Unit)(e:Env)(h:Heap):Prop:=
 ∃k3:Nat,h=⟨[(0,none),(0,none)],k3⟩∧e.length=28∧e.at 2=V.iptr (qb a0)∧e.at 7=V.agg (arc .u8 8 a1.val)∧e.at 8=V.int .i64 v8_1
def P195_1(a0:GDga)(a1:Ar .u8 8)(t:(Unit)⊕Bool)(x:Ex)(e:Env)(h:Heap):Prop:=
 match t with
 | .inl _=> x= .normal∧∃k3:Nat,h=⟨[(0,none),(0,none)],k3⟩∧e.length=28
 | .inr r=> x= .ret∧Fin p195 (enc r) .ret e h
theorem l195_1(a0:GDga)(a1:Ar .u8 8){lo:Int}{s:Unit}{t:(Unit)⊕Bool}(hF:forR lo 8 (F195_1_B a0 a1) (F195_1_D a0 a1) s=some t){e:Env}{h:Heap}(hI:I195_1 a0 a1 lo s e h):W A c195_1 e h (P195_1 a0 a1 t):=by
 show W A (.block 0 (.loop false b195_1)) e h _;rw[ql];refine qq hF 2 (by obtain⟨_,rfl,_⟩:=hI; rfl) (I195_1 a0 a1) hI ?_ ?_
 ·rintro v8_1 _ e h ⟨k3,rfl,h_2⟩ hlt hw o ho
  unfold F195_1_B at ho;obtain⟨n5,gn5,ho⟩:=bS ho;obtain⟨w6a,w6b,w6c,w6d⟩:=qR gn5;have w7:=kA (l:=a1.val) w6d;obtain⟨x8,gx8,ho⟩:=bS ho;have wx8:=qx gx8;have w9:=kP a0;by_cases c10:a0.Prime≤x8
  ·rw[if_pos c10]at ho
   cases ho;simp only[simprocAttr,R0,b195_1,h_2,eq_true hlt,hw,w6a,w6b,w6c,w7,wx8,w9,eq_true c10];intro ht; subst ht;simp only[simprocAttr,RR,RB];exact ai rfl (qc (by simp only[simprocAttr,R0,qd,p195,Rs.ev,qa,h_2,eq_true hlt,hw,w6a,w6b,w6c,w7,wx8,w9,eq_true c10]))
  ·rw[if_neg c10]at ho
   have w11:=kS a0;by_cases c12:a0.Size≤v8_1
   ·rw[if_pos c12]at ho
    by_cases c13:(a1.val.getD n5 0)=0
    ·rw[if_pos c13]at ho
     cases ho;simp only[simprocAttr,R0,b195_1,h_2,eq_true hlt,hw,w6a,w6b,w6c,w7,wx8,w9,eq_false c10,w11,eq_true c12,eq_true c13];refine ai rfl (ei _ (ai rfl ?_));simp only[simprocAttr,R0,h_2,eq_true hlt,hw,w6a,w6b,w6c,w7,wx8,w9,eq_false c10,w11,eq_true c12,eq_true c13]
    ·rw[if_neg c13]at ho
     cases ho;simp only[simprocAttr,R0,b195_1,h_2,eq_true hlt,hw,w6a,w6b,w6c,w7,wx8,w9,eq_false c10,w11,eq_true c12,eq_false c13];intro ht; subst ht;simp only[simprocAttr,RR,RB];exact ai rfl (qc (by simp only[simprocAttr,R0,qd,p195,Rs.ev,qa,h_2,eq_true hlt,hw,w6a,w6b,w6c,w7,wx8,w9,eq_false c10,w11,eq_true c12,eq_false c13]))
   ·rw[if_neg c12]at ho
    cases ho;simp only[simprocAttr,R0,b195_1,h_2,eq_true hlt,hw,w6a,w6b,w6c,w7,wx8,w9,eq_false c10,w11,eq_false c12];refine ai rfl (ei _ (ai rfl ?_));simp only[simprocAttr,R0,h_2,eq_true hlt,hw,w6a,w6b,w6c,w7,wx8,w9,eq_false c10,w11,eq_false c12]
 ·rintro v8_1 _ e h ⟨k3,rfl,h_2⟩ hge t1 ho
  unfold F195_1_D at ho;cases ho;simp only[simprocAttr,R0,b195_1,h_2,eq_false hge];intro ht; subst ht;refine ai rfl (ei _ (ai rfl ?_));simp only[simprocAttr,R0,h_2,eq_false hge]
theorem s195(a0:GDga)(a1:Ar .u8 8){r:Bool}(hF:F195 a0 a1=some r):ans A 195 [V.agg (qb a0),V.agg (arc .u8 8 a1.val)]=some (enc r):=by
 refine qp (f:=p195) rfl rfl rfl fun e hl he=>?_;have h0_0:e.at 0=V.agg (qb a0):=he 0 _ rfl;have h1_0:e.at 1=V.agg (arc .u8 8 a1.val):=he 1 _ rfl;have hl_0:e.length=28:=hl;clear he hl;have h_0:=ai hl_0 (ai h0_0 h1_0);show W A b195 e ⟨[],0⟩ _;unfold F195 at hF;obtain⟨t14,gt14,hF⟩:=bS hF;rcases t14 with _|r15
 ·dsimp only at hF
  simp only[simprocAttr,R0,b195, *];refine W.mono (l195_1 a0 a1 gt14 (ei _ (ai rfl ?_))) ?_
  ·simp only[simprocAttr,R0, *]
  rintro _ e _ ⟨rfl,k3,rfl,hl_4⟩;cases hF;simp only[simprocAttr,R0, *];exact qc (by simp only[simprocAttr,R0,qd,p195,Rs.ev,qa, *])
 ·dsimp only at hF
  cases hF;simp only[simprocAttr,R0,b195, *];refine W.mono (l195_1 a0 a1 gt14 (ei _ (ai rfl ?_))) ?_
  ·simp only[simprocAttr,R0, *]
  rintro _ e h ⟨rfl,hq⟩;simp only[simprocAttr,RR,RB];exact hq
def F196_1_B(a0:GDga)(a1:Ar .u8 8)(a2:Int)(a3:Int)(v12_1:Int)(s:Unit):Option ((Unit)⊕((Unit)⊕Bool)):=
 (ixI 8 v12_1).bind fun n5=>
if(a1.val.getD n5 0)=0 then
 some (.inl ())
else
 if(a0.Degrees.val.getD n5 0)=a2 then
  if a3 < (a0.Levels.val.getD n5 0)then
   some (.inr (.inr false))
  else
   some (.inl ())
 else
  some (.inr (.inr false))
def F196_1_D(a0:GDga)(a1:Ar .u8 8)(a2:Int)(a3:Int)(v12_1:Int)(s:Unit):Option ((Unit)⊕Bool):=
 some (.inl ())
def F196(a0:GDga)(a1:Ar .u8 8)(a2:Int)(a3:Int):Option Bool:=
 (forR 0 8 (F196_1_B a0 a1 a2 a3) (F196_1_D a0 a1 a2 a3) ()).bind fun t13=> match t13 with
  | .inl _=>
   some true
  | .inr r14=> some r14
def I196_1(a0:GDga)(a1:Ar .u8 8)(a2:Int)(a3:Int)(v12_1:Int)(s:Unit)(e:Env)(h:Heap):Prop:=
 ∃k3:Nat,h=⟨[(0,none),(0,none)],k3⟩∧e.length=35∧e.at 2=V.int .i64 a2∧e.at 3=V.int .i64 a3∧e.at 4=V.iptr (qb a0)∧e.at 11=V.agg (arc .u8 8 a1.val)∧e.at 12=V.int .i64 v12_1
def P196_1(a0:GDga)(a1:Ar .u8 8)(a2:Int)(a3:Int)(t:(Unit)⊕Bool)(x:Ex)(e:Env)(h:Heap):Prop:=
 match t with
 | .inl _=> x= .normal∧∃k3:Nat,h=⟨[(0,none),(0,none)],k3⟩∧e.length=35
 | .inr r=> x= .ret∧Fin p196 (enc r) .ret e h
theorem l196_1(a0:GDga)(a1:Ar .u8 8)(a2:Int)(a3:Int){lo:Int}{s:Unit}{t:(Unit)⊕Bool}(hF:forR lo 8 (F196_1_B a0 a1 a2 a3) (F196_1_D a0 a1 a2 a3) s=some t){e:Env}{h:Heap}(hI:I196_1 a0 a1 a2 a3 lo s e h):W A c196_1 e h (P196_1 a0 a1 a2 a3 t):=by
 show W A (.block 0 (.loop false b196_1)) e h _;rw[ql];refine qq hF 2 (by obtain⟨_,rfl,_⟩:=hI; rfl) (I196_1 a0 a1 a2 a3) hI ?_ ?_
 ·rintro v12_1 _ e h ⟨k3,rfl,h_2⟩ hlt hw o ho
  unfold F196_1_B at ho;obtain⟨n5,gn5,ho⟩:=bS ho;obtain⟨w6a,w6b,w6c,w6d⟩:=qR gn5;have w7:=kA (l:=a1.val) w6d;by_cases c8:(a1.val.getD n5 0)=0
  ·rw[if_pos c8]at ho
   cases ho;simp only[simprocAttr,R0,b196_1, *];refine ai rfl (ei _ (ai rfl ?_));simp only[simprocAttr,R0, *]
  ·rw[if_neg c8]at ho
   have w9:=kD a0 w6d;by_cases c10:(a0.Degrees.val.getD n5 0)=a2
   ·rw[if_pos c10]at ho
    have w11:=kL a0 w6d;by_cases c12:a3 < (a0.Levels.val.getD n5 0)
    ·rw[if_pos c12]at ho
     cases ho;simp only[simprocAttr,R0,b196_1, *];intro ht; subst ht;simp only[simprocAttr,RR,RB];exact ai rfl (qc (by simp only[simprocAttr,R0,qd,p196,Rs.ev,qa, *]))
    ·rw[if_neg c12]at ho
     cases ho;simp only[simprocAttr,R0,b196_1, *];refine ai rfl (ei _ (ai rfl ?_));simp only[simprocAttr,R0, *]
   ·rw[if_neg c10]at ho
    cases ho;simp only[simprocAttr,R0,b196_1, *];intro ht; subst ht;simp only[simprocAttr,RR,RB];exact ai rfl (qc (by simp only[simprocAttr,R0,qd,p196,Rs.ev,qa, *]))
 ·rintro v12_1 _ e h ⟨k3,rfl,h_2⟩ hge t1 ho
  unfold F196_1_D at ho;cases ho;simp only[simprocAttr,R0,b196_1, *];intro ht; subst ht;refine ai rfl (ei _ (ai rfl ?_));simp only[simprocAttr,R0, *]
theorem s196(a0:GDga)(a1:Ar .u8 8)(a2:Int)(a3:Int){r:Bool}(hF:F196 a0 a1 a2 a3=some r):ans A 196 [V.agg (qb a0),V.agg (arc .u8 8 a1.val),V.int .i64 a2,V.int .i64 a3]=some (enc r):=by
 refine qp (f:=p196) rfl rfl rfl fun e hl he=>?_;have h0_0:e.at 0=V.agg (qb a0):=he 0 _ rfl;have h1_0:e.at 1=V.agg (arc .u8 8 a1.val):=he 1 _ rfl;have h2_0:e.at 2=V.int .i64 a2:=he 2 _ rfl;have h3_0:e.at 3=V.int .i64 a3:=he 3 _ rfl;have hl_0:e.length=35:=hl;clear he hl;have h_0:=ai hl_0 (ai h0_0 (ai h1_0 (ai h2_0 h3_0)));show W A b196 e ⟨[],0⟩ _;unfold F196 at hF;obtain⟨t13,gt13,hF⟩:=bS hF;rcases t13 with _|r14
 ·dsimp only at hF
  simp only[simprocAttr,R0,b196, *];refine W.mono (l196_1 a0 a1 a2 a3 gt13 (ei _ (ai rfl ?_))) ?_
  ·simp only[simprocAttr,R0, *]
  rintro _ e _ ⟨rfl,k3,rfl,hl_4⟩;cases hF;simp only[simprocAttr,R0, *];exact qc (by simp only[simprocAttr,R0,qd,p196,Rs.ev,qa, *])
 ·dsimp only at hF
  cases hF;simp only[simprocAttr,R0,b196, *];refine W.mono (l196_1 a0 a1 a2 a3 gt13 (ei _ (ai rfl ?_))) ?_
  ·simp only[simprocAttr,R0, *]
  rintro _ e h ⟨rfl,hq⟩;simp only[simprocAttr,RR,RB];exact hq
def F176_2_B(a0:GDga)(v17_1:Int)(v106_2:Int)(s:Unit):Option ((Unit)⊕((Unit)⊕Bool)):=
 (ixI 8 v17_1).bind fun n35=>
(ixI 8 v106_2).bind fun n37=>
(F195 a0 ⟨(arP a0.Table.val (n35*64+n37*8) 8)⟩).bind fun x43=>
if x43=true then
 if v17_1 < a0.Size then
  if a0.Size≤v106_2 then
   (arE .u8 8 (arP a0.Table.val (n35*64+n37*8) 8) []).bind fun x49=>
   if x49=true then
    (F196 a0 ⟨(arP a0.Table.val (n35*64+n37*8) 8)⟩ (Go.IntKind.wrap .i64 ((a0.Degrees.val.getD n35 0)+(a0.Degrees.val.getD n37 0))) (Go.IntKind.wrap .i64 ((a0.Levels.val.getD n35 0)+(a0.Levels.val.getD n37 0)))).bind fun x56=>
    if x56=true then
     some (.inl ())
    else
     some (.inr (.inr false))
   else
    some (.inr (.inr false))
  else
   (F196 a0 ⟨(arP a0.Table.val (n35*64+n37*8) 8)⟩ (Go.IntKind.wrap .i64 ((a0.Degrees.val.getD n35 0)+(a0.Degrees.val.getD n37 0))) (Go.IntKind.wrap .i64 ((a0.Levels.val.getD n35 0)+(a0.Levels.val.getD n37 0)))).bind fun x63=>
   if x63=true then
    some (.inl ())
   else
    some (.inr (.inr false))
 else
  (arE .u8 8 (arP a0.Table.val (n35*64+n37*8) 8) []).bind fun x66=>
  if x66=true then
   (F196 a0 ⟨(arP a0.Table.val (n35*64+n37*8) 8)⟩ (Go.IntKind.wrap .i64 ((a0.Degrees.val.getD n35 0)+(a0.Degrees.val.getD n37 0))) (Go.IntKind.wrap .i64 ((a0.Levels.val.getD n35 0)+(a0.Levels.val.getD n37 0)))).bind fun x73=>
   if x73=true then
    some (.inl ())
   else
    some (.inr (.inr false))
  else
   some (.inr (.inr false))
else
 some (.inr (.inr false))
def F176_2_D(a0:GDga)(v17_1:Int)(v106_2:Int)(s:Unit):Option ((Unit)⊕Bool):=
 some (.inl ())
def F176_1_B(a0:GDga)(v17_1:Int)(s:Unit):Option ((Unit)⊕((Unit)⊕Bool)):=
 if v17_1 < a0.Size then
 (ixI 8 v17_1).bind fun n12=>
 (F56 (a0.Degrees.val.getD n12 0) 0 5).bind fun x15=>
 if x15=true then
  (F56 (a0.Levels.val.getD n12 0) 0 5).bind fun x18=>
  if x18=true then
   (F195 a0 ⟨(arP a0.Diff.val (n12*8) 8)⟩).bind fun x21=>
   if x21=true then
    if 0 < v17_1 then
     (chk (v17_1 - 1)).bind fun x24=>
     (ixI 8 x24).bind fun n25=>
     if(a0.Degrees.val.getD n12 0) < (a0.Degrees.val.getD n25 0)then
      some (.inr (.inr false))
     else
      (chk ((a0.Degrees.val.getD n12 0) - 1)).bind fun x29=>
      (F196 a0 ⟨(arP a0.Diff.val (n12*8) 8)⟩ x29 (a0.Levels.val.getD n12 0)).bind fun x30=>
      if x30=true then
       (forR 0 8 (F176_2_B a0 v17_1) (F176_2_D a0 v17_1) ()).bind fun t75=> match t75 with
        | .inl _=>
         some (.inl ())
        | .inr r76=> some (.inr (.inr r76))
      else
       some (.inr (.inr false))
    else
     (chk ((a0.Degrees.val.getD n12 0) - 1)).bind fun x77=>
     (F196 a0 ⟨(arP a0.Diff.val (n12*8) 8)⟩ x77 (a0.Levels.val.getD n12 0)).bind fun x78=>
     if x78=true then
      (forR 0 8 (F176_2_B a0 v17_1) (F176_2_D a0 v17_1) ()).bind fun t123=> match t123 with
       | .inl _=>
        some (.inl ())
       | .inr r124=> some (.inr (.inr r124))
     else
      some (.inr (.inr false))
   else
    some (.inr (.inr false))
  else
   some (.inr (.inr false))
 else
  some (.inr (.inr false))
else
 (ixI 8 v17_1).bind fun n125=>
 if(a0.Degrees.val.getD n125 0)=0 then
  if(a0.Levels.val.getD n125 0)=0 then
   (arE .u8 8 (arP a0.Diff.val (n125*8) 8) []).bind fun x132=>
   if x132=true then
    (F56 (a0.Degrees.val.getD n125 0) 0 5).bind fun x134=>
    if x134=true then
     (F56 (a0.Levels.val.getD n125 0) 0 5).bind fun x136=>
     if x136=true then
      (F195 a0 ⟨(arP a0.Diff.val (n125*8) 8)⟩).bind fun x138=>
      if x138=true then
       (forR 0 8 (F176_2_B a0 v17_1) (F176_2_D a0 v17_1) ()).bind fun t183=> match t183 with
        | .inl _=>
         some (.inl ())
        | .inr r184=> some (.inr (.inr r184))
      else
       some (.inr (.inr false))
     else
      some (.inr (.inr false))
    else
     some (.inr (.inr false))
   else
    some (.inr (.inr false))
  else
   some (.inr (.inr false))
 else
  some (.inr (.inr false))
def F176_1_D(a0:GDga)(v17_1:Int)(s:Unit):Option ((Unit)⊕Bool):=
 some (.inl ())
def F176(a0:GDga):Option Bool:=
 (F67 a0.Prime).bind fun x2=>
 if x2=true then
  (F56 a0.Size 1 8).bind fun x5=>
  if x5=true then
   (forR 0 8 (F176_1_B a0) (F176_1_D a0) ()).bind fun t185=> match t185 with
    | .inl _=>
     if(a0.Degrees.val.getD 0 0)=0 then
      some (decide ((a0.Levels.val.getD 0 0)=0))
     else
      some false
    | .inr r189=> some r189
  else
   some false
 else
  some false
def I176_2(a0:GDga)(v17_1:Int)(v106_2:Int)(s:Unit)(e:Env)(h:Heap):Prop:=
 ∃k33:Nat,h=⟨[(0,none)],k33⟩∧e.length=170∧e.at 1=V.iptr (qb a0)∧e.at 3=V.int .i64 v17_1∧e.at 4=V.bool (decide (v17_1 < a0.Size))∧e.at 17=V.int .i64 v17_1∧e.at 106=V.int .i64 v106_2
def P176_2(a0:GDga)(v17_1:Int)(t:(Unit)⊕Bool)(x:Ex)(e:Env)(h:Heap):Prop:=
 match t with
 | .inl _=> x= .normal∧∃k33:Nat,h=⟨[(0,none)],k33⟩∧e.length=170∧e.at 1=V.iptr (qb a0)∧e.at 17=V.int .i64 v17_1
 | .inr r=> x= .ret∧Fin p176 (enc r) .ret e h
theorem l176_2(a0:GDga)(v17_1:Int){lo:Int}{s:Unit}{t:(Unit)⊕Bool}(hF:forR lo 8 (F176_2_B a0 v17_1) (F176_2_D a0 v17_1) s=some t){e:Env}{h:Heap}(hI:I176_2 a0 v17_1 lo s e h):W A c176_2 e h (P176_2 a0 v17_1 t):=by
 show W A (.block 2 (.loop false b176_2)) e h _;rw[ql];refine qq hF 1 (by obtain⟨_,rfl,_⟩:=hI; rfl) (I176_2 a0 v17_1) hI ?_ ?_
 ·rintro v106_2 _ e h ⟨k33,rfl,h_32⟩ hlt hw o ho
  unfold F176_2_B at ho;obtain⟨n35,gn35,ho⟩:=bS ho;obtain⟨w36a,w36b,w36c,w36d⟩:=qR gn35;obtain⟨n37,gn37,ho⟩:=bS ho;obtain⟨w38a,w38b,w38c,w38d⟩:=qR gn37;have w39:=kT a0 w36d w38d;have w39l:=kTl a0 w36d w38d;have w41:=k0 [];obtain⟨x43,gx43,ho⟩:=bS ho;have w44:ans A 195 [V.agg (qb a0),V.agg (arc .u8 8 (arP a0.Table.val (n35*64+n37*8) 8))]=some (V.bool x43):=s195 a0 ⟨(arP a0.Table.val (n35*64+n37*8) 8)⟩ gx43;cases x43 with
  |true=>
   rw[if_pos rfl]at ho;by_cases c45:v17_1 < a0.Size
   ·rw[if_pos c45]at ho
    have w46:=kS a0;by_cases c47:a0.Size≤v106_2
    ·rw[if_pos c47]at ho
     obtain⟨x49,gx49,ho⟩:=bS ho;have w50:eqSV true 12 (Lay.arr 8 8 1 (Lay.int Go.IntKind.u8)) (V.agg (arc .u8 8 (arP a0.Table.val (n35*64+n37*8) 8))) (V.agg (arc .u8 8 []))=some (V.bool (!x49)):=ze gx49;cases x49 with
     |true=>
      rw[if_pos rfl]at ho;have w52:=kD a0 w36d;have w53:=kD a0 w38d;have w54:=kL a0 w36d;have w55:=kL a0 w38d;obtain⟨x56,gx56,ho⟩:=bS ho;have w57:ans A 196 [V.agg (qb a0),V.agg (arc .u8 8 (arP a0.Table.val (n35*64+n37*8) 8)),V.int .i64 (Go.IntKind.wrap .i64 ((a0.Degrees.val.getD n35 0)+(a0.Degrees.val.getD n37 0))),V.int .i64 (Go.IntKind.wrap .i64 ((a0.Levels.val.getD n35 0)+(a0.Levels.val.getD n37 0)))]=some (V.bool x56):=s196 a0 ⟨(arP a0.Table.val (n35*64+n37*8) 8)⟩ (Go.IntKind.wrap .i64 ((a0.Degrees.val.getD n35 0)+(a0.Degrees.val.getD n37 0))) (Go.IntKind.wrap .i64 ((a0.Levels.val.getD n35 0)+(a0.Levels.val.getD n37 0))) gx56;cases x56 with
      |true=>
       rw[if_pos rfl]at ho;cases ho;simp only[simprocAttr, -Int.reduceNatCast',R0,b176_2,wA, *];refine ai rfl (ei _ (ai rfl ?_));simp only[simprocAttr, -Int.reduceNatCast',R0,wA, *]
      |false=>
       rw[if_neg wE]at ho;cases ho;simp only[simprocAttr, -Int.reduceNatCast',R0,b176_2,wA, *];intro ht; subst ht;simp only[simprocAttr, -Int.reduceNatCast',RR,RB];exact ai rfl (qc (by simp only[simprocAttr, -Int.reduceNatCast',R0,qd,p176,Rs.ev,qa,wA, *]))
     |false=>
      rw[if_neg wE]at ho;cases ho;simp only[simprocAttr, -Int.reduceNatCast',R0,b176_2,wA, *];intro ht; subst ht;simp only[simprocAttr, -Int.reduceNatCast',RR,RB];exact ai rfl (qc (by simp only[simprocAttr, -Int.reduceNatCast',R0,qd,p176,Rs.ev,qa,wA, *]))
    ·rw[if_neg c47]at ho
     have w59:=kD a0 w36d;have w60:=kD a0 w38d;have w61:=kL a0 w36d;have w62:=kL a0 w38d;obtain⟨x63,gx63,ho⟩:=bS ho;have w64:ans A 196 [V.agg (qb a0),V.agg (arc .u8 8 (arP a0.Table.val (n35*64+n37*8) 8)),V.int .i64 (Go.IntKind.wrap .i64 ((a0.Degrees.val.getD n35 0)+(a0.Degrees.val.getD n37 0))),V.int .i64 (Go.IntKind.wrap .i64 ((a0.Levels.val.getD n35 0)+(a0.Levels.val.getD n37 0)))]=some (V.bool x63):=s196 a0 ⟨(arP a0.Table.val (n35*64+n37*8) 8)⟩ (Go.IntKind.wrap .i64 ((a0.Degrees.val.getD n35 0)+(a0.Degrees.val.getD n37 0))) (Go.IntKind.wrap .i64 ((a0.Levels.val.getD n35 0)+(a0.Levels.val.getD n37 0))) gx63;cases x63 with
     |true=>
      rw[if_pos rfl]at ho;cases ho;simp only[simprocAttr, -Int.reduceNatCast',R0,b176_2,wA, *];refine ai rfl (ei _ (ai rfl ?_));simp only[simprocAttr, -Int.reduceNatCast',R0,wA, *]
     |false=>
      rw[if_neg wE]at ho;cases ho;simp only[simprocAttr, -Int.reduceNatCast',R0,b176_2,wA, *];intro ht; subst ht;simp only[simprocAttr, -Int.reduceNatCast',RR,RB];exact ai rfl (qc (by simp only[simprocAttr, -Int.reduceNatCast',R0,qd,p176,Rs.ev,qa,wA, *]))
   ·rw[if_neg c45]at ho
    obtain⟨x66,gx66,ho⟩:=bS ho;have w67:eqSV true 12 (Lay.arr 8 8 1 (Lay.int Go.IntKind.u8)) (V.agg (arc .u8 8 (arP a0.Table.val (n35*64+n37*8) 8))) (V.agg (arc .u8 8 []))=some (V.bool (!x66)):=ze gx66;cases x66 with
    |true=>
     rw[if_pos rfl]at ho;have w69:=kD a0 w36d;have w70:=kD a0 w38d;have w71:=kL a0 w36d;have w72:=kL a0 w38d;obtain⟨x73,gx73,ho⟩:=bS ho;have w74:ans A 196 [V.agg (qb a0),V.agg (arc .u8 8 (arP a0.Table.val (n35*64+n37*8) 8)),V.int .i64 (Go.IntKind.wrap .i64 ((a0.Degrees.val.getD n35 0)+(a0.Degrees.val.getD n37 0))),V.int .i64 (Go.IntKind.wrap .i64 ((a0.Levels.val.getD n35 0)+(a0.Levels.val.getD n37 0)))]=some (V.bool x73):=s196 a0 ⟨(arP a0.Table.val (n35*64+n37*8) 8)⟩ (Go.IntKind.wrap .i64 ((a0.Degrees.val.getD n35 0)+(a0.Degrees.val.getD n37 0))) (Go.IntKind.wrap .i64 ((a0.Levels.val.getD n35 0)+(a0.Levels.val.getD n37 0))) gx73;cases x73 with
     |true=>
      rw[if_pos rfl]at ho;cases ho;simp only[simprocAttr, -Int.reduceNatCast',R0,b176_2,wA, *];refine ai rfl (ei _ (ai rfl ?_));simp only[simprocAttr, -Int.reduceNatCast',R0,wA, *]
     |false=>
      rw[if_neg wE]at ho;cases ho;simp only[simprocAttr, -Int.reduceNatCast',R0,b176_2,wA, *];intro ht; subst ht;simp only[simprocAttr, -Int.reduceNatCast',RR,RB];exact ai rfl (qc (by simp only[simprocAttr, -Int.reduceNatCast',R0,qd,p176,Rs.ev,qa,wA, *]))
    |false=>
     rw[if_neg wE]at ho;cases ho;simp only[simprocAttr, -Int.reduceNatCast',R0,b176_2,wA, *];intro ht; subst ht;simp only[simprocAttr, -Int.reduceNatCast',RR,RB];exact ai rfl (qc (by simp only[simprocAttr, -Int.reduceNatCast',R0,qd,p176,Rs.ev,qa,wA, *]))
  |false=>
   rw[if_neg wE]at ho;cases ho;simp only[simprocAttr, -Int.reduceNatCast',R0,b176_2,wA, *];intro ht; subst ht;simp only[simprocAttr, -Int.reduceNatCast',RR,RB];exact ai rfl (qc (by simp only[simprocAttr, -Int.reduceNatCast',R0,qd,p176,Rs.ev,qa,wA, *]))
 ·rintro v106_2 _ e h ⟨k33,rfl,h_32⟩ hge t1 ho
  unfold F176_2_D at ho;cases ho;simp only[simprocAttr, -Int.reduceNatCast',R0,b176_2, *];intro ht; subst ht;refine ai rfl (ei _ (ai rfl ?_));simp only[simprocAttr, -Int.reduceNatCast',R0, *]
def I176_1(a0:GDga)(v17_1:Int)(s:Unit)(e:Env)(h:Heap):Prop:=
 ∃k8:Nat,h=⟨[(0,none)],k8⟩∧e.length=170∧e.at 1=V.iptr (qb a0)∧e.at 17=V.int .i64 v17_1
def P176_1(a0:GDga)(t:(Unit)⊕Bool)(x:Ex)(e:Env)(h:Heap):Prop:=
 match t with
 | .inl _=> x= .normal∧∃k8:Nat,h=⟨[(0,none)],k8⟩∧e.length=170∧e.at 1=V.iptr (qb a0)
 | .inr r=> x= .ret∧Fin p176 (enc r) .ret e h
theorem l176_1(a0:GDga){lo:Int}{s:Unit}{t:(Unit)⊕Bool}(hF:forR lo 8 (F176_1_B a0) (F176_1_D a0) s=some t){e:Env}{h:Heap}(hI:I176_1 a0 lo s e h):W A c176_1 e h (P176_1 a0 t):=by
 show W A (.block 0 (.loop false zK)) e h _;rw[ql];refine qq hF 1 (by obtain⟨_,rfl,_⟩:=hI; rfl) (I176_1 a0) hI ?_ ?_
 ·rintro v17_1 _ e h ⟨k8,rfl,h_7⟩ hlt hw o ho
  unfold F176_1_B at ho;have w10:=kS a0;by_cases c11:v17_1 < a0.Size
  ·rw[if_pos c11]at ho
   obtain⟨n12,gn12,ho⟩:=bS ho;obtain⟨w13a,w13b,w13c,w13d⟩:=qR gn12;have w14:=kD a0 w13d;obtain⟨x15,gx15,ho⟩:=bS ho;have w16:ans A 56 [V.int .i64 (a0.Degrees.val.getD n12 0),V.int .i64 0,V.int .i64 5]=some (V.bool x15):=s56 (a0.Degrees.val.getD n12 0) 0 5 gx15;cases x15 with
   |true=>
    rw[if_pos rfl]at ho;have w17:=kL a0 w13d;obtain⟨x18,gx18,ho⟩:=bS ho;have w19:ans A 56 [V.int .i64 (a0.Levels.val.getD n12 0),V.int .i64 0,V.int .i64 5]=some (V.bool x18):=s56 (a0.Levels.val.getD n12 0) 0 5 gx18;cases x18 with
    |true=>
     rw[if_pos rfl]at ho;have w20:=kI a0 w13d;have w20l:=kIl a0 w13d;obtain⟨x21,gx21,ho⟩:=bS ho;have w22:ans A 195 [V.agg (qb a0),V.agg (arc .u8 8 (arP a0.Diff.val (n12*8) 8))]=some (V.bool x21):=s195 a0 ⟨(arP a0.Diff.val (n12*8) 8)⟩ gx21;cases x21 with
     |true=>
      rw[if_pos rfl]at ho;by_cases c23:0 < v17_1
      ·rw[if_pos c23]at ho
       obtain⟨x24,gx24,ho⟩:=bS ho;have wx24:=qx gx24;obtain⟨n25,gn25,ho⟩:=bS ho;obtain⟨w26a,w26b,w26c,w26d⟩:=qR gn25;have w27:=kD a0 w26d;by_cases c28:(a0.Degrees.val.getD n12 0) < (a0.Degrees.val.getD n25 0)
       ·rw[if_pos c28]at ho
        cases ho;simp only[simprocAttr, -Int.reduceNatCast',R0,zK,h_7,eq_true hlt,hw,w10,eq_true c11,w13a,w13b,w13c,w14,w16,w17,w19,w20,eq_true w20l,w22,eq_true c23,wx24,w26a,w26b,w26c,w27,eq_true c28];intro ht; subst ht;simp only[simprocAttr, -Int.reduceNatCast',RR,RB];exact ai rfl (qc (by simp only[simprocAttr, -Int.reduceNatCast',R0,qd,p176,Rs.ev,qa,h_7,eq_true hlt,hw,w10,eq_true c11,w13a,w13b,w13c,w14,w16,w17,w19,w20,eq_true w20l,w22,eq_true c23,wx24,w26a,w26b,w26c,w27,eq_true c28]))
       ·rw[if_neg c28]at ho
        obtain⟨x29,gx29,ho⟩:=bS ho;have wx29:=qx gx29;obtain⟨x30,gx30,ho⟩:=bS ho;have w31:ans A 196 [V.agg (qb a0),V.agg (arc .u8 8 (arP a0.Diff.val (n12*8) 8)),V.int .i64 x29,V.int .i64 (a0.Levels.val.getD n12 0)]=some (V.bool x30):=s196 a0 ⟨(arP a0.Diff.val (n12*8) 8)⟩ x29 (a0.Levels.val.getD n12 0) gx30;cases x30 with
        |true=>
         rw[if_pos rfl]at ho;obtain⟨t75,gt75,ho⟩:=bS ho;rcases t75 with _|r76
         ·dsimp only at ho
          simp only[simprocAttr, -Int.reduceNatCast',R0,zK,h_7,eq_true hlt,hw,w10,eq_true c11,w13a,w13b,w13c,w14,w16,w17,w19,w20,eq_true w20l,w22,eq_true c23,wx24,w26a,w26b,w26c,w27,eq_false c28,wx29,w31];refine W.mono (l176_2 a0 v17_1 gt75 (ei _ (ai rfl ?_))) ?_
          ·simp only[simprocAttr, -Int.reduceNatCast',R0,h_7,eq_true hlt,hw,w10,eq_true c11,w13a,w13b,w13c,w14,w16,w17,w19,w20,eq_true w20l,w22,eq_true c23,wx24,w26a,w26b,w26c,w27,eq_false c28,wx29,w31]
          rintro _ e _ ⟨rfl,k33,rfl,h_34⟩;cases ho;simp only[simprocAttr, -Int.reduceNatCast',R0,h_34,eq_true hlt,hw,eq_true c11,eq_true w20l,eq_true c23,eq_false c28];refine ai rfl (ei _ (ai rfl ?_));simp only[simprocAttr, -Int.reduceNatCast',R0,h_34,eq_true hlt,hw,eq_true c11,eq_true w20l,eq_true c23,eq_false c28]
         ·dsimp only at ho
          cases ho;simp only[simprocAttr, -Int.reduceNatCast',R0,zK,h_7,eq_true hlt,hw,w10,eq_true c11,w13a,w13b,w13c,w14,w16,w17,w19,w20,eq_true w20l,w22,eq_true c23,wx24,w26a,w26b,w26c,w27,eq_false c28,wx29,w31];refine W.mono (l176_2 a0 v17_1 gt75 (ei _ (ai rfl ?_))) ?_
          ·simp only[simprocAttr, -Int.reduceNatCast',R0,h_7,eq_true hlt,hw,w10,eq_true c11,w13a,w13b,w13c,w14,w16,w17,w19,w20,eq_true w20l,w22,eq_true c23,wx24,w26a,w26b,w26c,w27,eq_false c28,wx29,w31]
          rintro _ e h ⟨rfl,hq⟩;simp only[simprocAttr, -Int.reduceNatCast',RR,RB];intro ht; subst ht;simp only[simprocAttr, -Int.reduceNatCast',RR,RB];exact ai rfl hq
        |false=>
         rw[if_neg wE]at ho;cases ho;simp only[simprocAttr, -Int.reduceNatCast',R0,zK,h_7,eq_true hlt,hw,w10,eq_true c11,w13a,w13b,w13c,w14,w16,w17,w19,w20,eq_true w20l,w22,eq_true c23,wx24,w26a,w26b,w26c,w27,eq_false c28,wx29,w31];intro ht; subst ht;simp only[simprocAttr, -Int.reduceNatCast',RR,RB];exact ai rfl (qc (by simp only[simprocAttr, -Int.reduceNatCast',R0,qd,p176,Rs.ev,qa,h_7,eq_true hlt,hw,w10,eq_true c11,w13a,w13b,w13c,w14,w16,w17,w19,w20,eq_true w20l,w22,eq_true c23,wx24,w26a,w26b,w26c,w27,eq_false c28,wx29,w31]))
      ·rw[if_neg c23]at ho
       obtain⟨x77,gx77,ho⟩:=bS ho;have wx77:=qx gx77;obtain⟨x78,gx78,ho⟩:=bS ho;have w79:ans A 196 [V.agg (qb a0),V.agg (arc .u8 8 (arP a0.Diff.val (n12*8) 8)),V.int .i64 x77,V.int .i64 (a0.Levels.val.getD n12 0)]=some (V.bool x78):=s196 a0 ⟨(arP a0.Diff.val (n12*8) 8)⟩ x77 (a0.Levels.val.getD n12 0) gx78;cases x78 with
       |true=>
        rw[if_pos rfl]at ho;obtain⟨t123,gt123,ho⟩:=bS ho;rcases t123 with _|r124
        ·dsimp only at ho
         simp only[simprocAttr, -Int.reduceNatCast',R0,zK,h_7,eq_true hlt,hw,w10,eq_true c11,w13a,w13b,w13c,w14,w16,w17,w19,w20,eq_true w20l,w22,eq_false c23,wx77,w79];refine W.mono (l176_2 a0 v17_1 gt123 (ei _ (ai rfl ?_))) ?_
         ·simp only[simprocAttr, -Int.reduceNatCast',R0,h_7,eq_true hlt,hw,w10,eq_true c11,w13a,w13b,w13c,w14,w16,w17,w19,w20,eq_true w20l,w22,eq_false c23,wx77,w79]
         rintro _ e _ ⟨rfl,k81,rfl,h_82⟩;cases ho;simp only[simprocAttr, -Int.reduceNatCast',R0,h_82,eq_true hlt,hw,eq_true c11,eq_true w20l,eq_false c23];refine ai rfl (ei _ (ai rfl ?_));simp only[simprocAttr, -Int.reduceNatCast',R0,h_82,eq_true hlt,hw,eq_true c11,eq_true w20l,eq_false c23]
        ·dsimp only at ho
         cases ho;simp only[simprocAttr, -Int.reduceNatCast',R0,zK,h_7,eq_true hlt,hw,w10,eq_true c11,w13a,w13b,w13c,w14,w16,w17,w19,w20,eq_true w20l,w22,eq_false c23,wx77,w79];refine W.mono (l176_2 a0 v17_1 gt123 (ei _ (ai rfl ?_))) ?_
         ·simp only[simprocAttr, -Int.reduceNatCast',R0,h_7,eq_true hlt,hw,w10,eq_true c11,w13a,w13b,w13c,w14,w16,w17,w19,w20,eq_true w20l,w22,eq_false c23,wx77,w79]
         rintro _ e h ⟨rfl,hq⟩;simp only[simprocAttr, -Int.reduceNatCast',RR,RB];intro ht; subst ht;simp only[simprocAttr, -Int.reduceNatCast',RR,RB];exact ai rfl hq
       |false=>
        rw[if_neg wE]at ho;cases ho;simp only[simprocAttr, -Int.reduceNatCast',R0,zK,h_7,eq_true hlt,hw,w10,eq_true c11,w13a,w13b,w13c,w14,w16,w17,w19,w20,eq_true w20l,w22,eq_false c23,wx77,w79];intro ht; subst ht;simp only[simprocAttr, -Int.reduceNatCast',RR,RB];exact ai rfl (qc (by simp only[simprocAttr, -Int.reduceNatCast',R0,qd,p176,Rs.ev,qa,h_7,eq_true hlt,hw,w10,eq_true c11,w13a,w13b,w13c,w14,w16,w17,w19,w20,eq_true w20l,w22,eq_false c23,wx77,w79]))
     |false=>
      rw[if_neg wE]at ho;cases ho;simp only[simprocAttr, -Int.reduceNatCast',R0,zK,h_7,eq_true hlt,hw,w10,eq_true c11,w13a,w13b,w13c,w14,w16,w17,w19,w20,eq_true w20l,w22];intro ht; subst ht;simp only[simprocAttr, -Int.reduceNatCast',RR,RB];exact ai rfl (qc (by simp only[simprocAttr, -Int.reduceNatCast',R0,qd,p176,Rs.ev,qa,h_7,eq_true hlt,hw,w10,eq_true c11,w13a,w13b,w13c,w14,w16,w17,w19,w20,eq_true w20l,w22]))
    |false=>
     rw[if_neg wE]at ho;cases ho;simp only[simprocAttr, -Int.reduceNatCast',R0,zK,h_7,eq_true hlt,hw,w10,eq_true c11,w13a,w13b,w13c,w14,w16,w17,w19];intro ht; subst ht;simp only[simprocAttr, -Int.reduceNatCast',RR,RB];exact ai rfl (qc (by simp only[simprocAttr, -Int.reduceNatCast',R0,qd,p176,Rs.ev,qa,h_7,eq_true hlt,hw,w10,eq_true c11,w13a,w13b,w13c,w14,w16,w17,w19]))
   |false=>
    rw[if_neg wE]at ho;cases ho;simp only[simprocAttr, -Int.reduceNatCast',R0,zK,h_7,eq_true hlt,hw,w10,eq_true c11,w13a,w13b,w13c,w14,w16];intro ht; subst ht;simp only[simprocAttr, -Int.reduceNatCast',RR,RB];exact ai rfl (qc (by simp only[simprocAttr, -Int.reduceNatCast',R0,qd,p176,Rs.ev,qa,h_7,eq_true hlt,hw,w10,eq_true c11,w13a,w13b,w13c,w14,w16]))
  ·rw[if_neg c11]at ho
   obtain⟨n125,gn125,ho⟩:=bS ho;obtain⟨w126a,w126b,w126c,w126d⟩:=qR gn125;have w127:=kD a0 w126d;by_cases c128:(a0.Degrees.val.getD n125 0)=0
   ·rw[if_pos c128]at ho
    have w129:=kL a0 w126d;by_cases c130:(a0.Levels.val.getD n125 0)=0
    ·rw[if_pos c130]at ho
     have w131:=kI a0 w126d;have w131l:=kIl a0 w126d;obtain⟨x132,gx132,ho⟩:=bS ho;have w133:eqSV true 12 (Lay.arr 8 8 1 (Lay.int Go.IntKind.u8)) (V.agg (arc .u8 8 (arP a0.Diff.val (n125*8) 8))) (V.agg (arc .u8 8 []))=some (V.bool (!x132)):=ze gx132;cases x132 with
     |true=>
      rw[if_pos rfl]at ho;obtain⟨x134,gx134,ho⟩:=bS ho;have w135:ans A 56 [V.int .i64 (a0.Degrees.val.getD n125 0),V.int .i64 0,V.int .i64 5]=some (V.bool x134):=s56 (a0.Degrees.val.getD n125 0) 0 5 gx134;cases x134 with
      |true=>
       rw[if_pos rfl]at ho;obtain⟨x136,gx136,ho⟩:=bS ho;have w137:ans A 56 [V.int .i64 (a0.Levels.val.getD n125 0),V.int .i64 0,V.int .i64 5]=some (V.bool x136):=s56 (a0.Levels.val.getD n125 0) 0 5 gx136;cases x136 with
       |true=>
        rw[if_pos rfl]at ho;obtain⟨x138,gx138,ho⟩:=bS ho;have w139:ans A 195 [V.agg (qb a0),V.agg (arc .u8 8 (arP a0.Diff.val (n125*8) 8))]=some (V.bool x138):=s195 a0 ⟨(arP a0.Diff.val (n125*8) 8)⟩ gx138;cases x138 with
        |true=>
         rw[if_pos rfl]at ho;obtain⟨t183,gt183,ho⟩:=bS ho;rcases t183 with _|r184
         ·dsimp only at ho
          simp only[simprocAttr, -Int.reduceNatCast',R0,zK,h_7,eq_true hlt,hw,w10,eq_false c11,w126a,w126b,w126c,w127,eq_true c128,w129,eq_true c130,w131,eq_true w131l,w133,w135,w137,w139];refine W.mono (l176_2 a0 v17_1 gt183 (ei _ (ai rfl ?_))) ?_
          ·simp only[simprocAttr, -Int.reduceNatCast',R0,h_7,eq_true hlt,hw,w10,eq_false c11,w126a,w126b,w126c,w127,eq_true c128,w129,eq_true c130,w131,eq_true w131l,w133,w135,w137,w139]
          rintro _ e _ ⟨rfl,k141,rfl,h_142⟩;cases ho;simp only[simprocAttr, -Int.reduceNatCast',R0,h_142,eq_true hlt,hw,eq_false c11,eq_true c128,eq_true c130,eq_true w131l];refine ai rfl (ei _ (ai rfl ?_));simp only[simprocAttr, -Int.reduceNatCast',R0,h_142,eq_true hlt,hw,eq_false c11,eq_true c128,eq_true c130,eq_true w131l]
         ·dsimp only at ho
          cases ho;simp only[simprocAttr, -Int.reduceNatCast',R0,zK,h_7,eq_true hlt,hw,w10,eq_false c11,w126a,w126b,w126c,w127,eq_true c128,w129,eq_true c130,w131,eq_true w131l,w133,w135,w137,w139];refine W.mono (l176_2 a0 v17_1 gt183 (ei _ (ai rfl ?_))) ?_
          ·simp only[simprocAttr, -Int.reduceNatCast',R0,h_7,eq_true hlt,hw,w10,eq_false c11,w126a,w126b,w126c,w127,eq_true c128,w129,eq_true c130,w131,eq_true w131l,w133,w135,w137,w139]
          rintro _ e h ⟨rfl,hq⟩;simp only[simprocAttr, -Int.reduceNatCast',RR,RB];intro ht; subst ht;simp only[simprocAttr, -Int.reduceNatCast',RR,RB];exact ai rfl hq
        |false=>
         rw[if_neg wE]at ho;cases ho;simp only[simprocAttr, -Int.reduceNatCast',R0,zK,h_7,eq_true hlt,hw,w10,eq_false c11,w126a,w126b,w126c,w127,eq_true c128,w129,eq_true c130,w131,eq_true w131l,w133,w135,w137,w139];intro ht; subst ht;simp only[simprocAttr, -Int.reduceNatCast',RR,RB];exact ai rfl (qc (by simp only[simprocAttr, -Int.reduceNatCast',R0,qd,p176,Rs.ev,qa,h_7,eq_true hlt,hw,w10,eq_false c11,w126a,w126b,w126c,w127,eq_true c128,w129,eq_true c130,w131,eq_true w131l,w133,w135,w137,w139]))
       |false=>
        rw[if_neg wE]at ho;cases ho;simp only[simprocAttr, -Int.reduceNatCast',R0,zK,h_7,eq_true hlt,hw,w10,eq_false c11,w126a,w126b,w126c,w127,eq_true c128,w129,eq_true c130,w131,eq_true w131l,w133,w135,w137];intro ht; subst ht;simp only[simprocAttr, -Int.reduceNatCast',RR,RB];exact ai rfl (qc (by simp only[simprocAttr, -Int.reduceNatCast',R0,qd,p176,Rs.ev,qa,h_7,eq_true hlt,hw,w10,eq_false c11,w126a,w126b,w126c,w127,eq_true c128,w129,eq_true c130,w131,eq_true w131l,w133,w135,w137]))
      |false=>
       rw[if_neg wE]at ho;cases ho;simp only[simprocAttr, -Int.reduceNatCast',R0,zK,h_7,eq_true hlt,hw,w10,eq_false c11,w126a,w126b,w126c,w127,eq_true c128,w129,eq_true c130,w131,eq_true w131l,w133,w135];intro ht; subst ht;simp only[simprocAttr, -Int.reduceNatCast',RR,RB];exact ai rfl (qc (by simp only[simprocAttr, -Int.reduceNatCast',R0,qd,p176,Rs.ev,qa,h_7,eq_true hlt,hw,w10,eq_false c11,w126a,w126b,w126c,w127,eq_true c128,w129,eq_true c130,w131,eq_true w131l,w133,w135]))
     |false=>
      rw[if_neg wE]at ho;cases ho;simp only[simprocAttr, -Int.reduceNatCast',R0,zK,h_7,eq_true hlt,hw,w10,eq_false c11,w126a,w126b,w126c,w127,eq_true c128,w129,eq_true c130,w131,eq_true w131l,w133];intro ht; subst ht;simp only[simprocAttr, -Int.reduceNatCast',RR,RB];exact ai rfl (qc (by simp only[simprocAttr, -Int.reduceNatCast',R0,qd,p176,Rs.ev,qa,h_7,eq_true hlt,hw,w10,eq_false c11,w126a,w126b,w126c,w127,eq_true c128,w129,eq_true c130,w131,eq_true w131l,w133]))
    ·rw[if_neg c130]at ho
     cases ho;simp only[simprocAttr, -Int.reduceNatCast',R0,zK,h_7,eq_true hlt,hw,w10,eq_false c11,w126a,w126b,w126c,w127,eq_true c128,w129,eq_false c130];intro ht; subst ht;simp only[simprocAttr, -Int.reduceNatCast',RR,RB];exact ai rfl (qc (by simp only[simprocAttr, -Int.reduceNatCast',R0,qd,p176,Rs.ev,qa,h_7,eq_true hlt,hw,w10,eq_false c11,w126a,w126b,w126c,w127,eq_true c128,w129,eq_false c130]))
   ·rw[if_neg c128]at ho
    cases ho;simp only[simprocAttr, -Int.reduceNatCast',R0,zK,h_7,eq_true hlt,hw,w10,eq_false c11,w126a,w126b,w126c,w127,eq_false c128];intro ht; subst ht;simp only[simprocAttr, -Int.reduceNatCast',RR,RB];exact ai rfl (qc (by simp only[simprocAttr, -Int.reduceNatCast',R0,qd,p176,Rs.ev,qa,h_7,eq_true hlt,hw,w10,eq_false c11,w126a,w126b,w126c,w127,eq_false c128]))
 ·rintro v17_1 _ e h ⟨k8,rfl,h_7⟩ hge t1 ho
  unfold F176_1_D at ho;cases ho;simp only[simprocAttr, -Int.reduceNatCast',R0,zK,h_7,eq_false hge];intro ht; subst ht;refine ai rfl (ei _ (ai rfl ?_));simp only[simprocAttr, -Int.reduceNatCast',R0,h_7,eq_false hge]
theorem s176(a0:GDga){r:Bool}(hF:F176 a0=some r):ans A 176 [V.agg (qb a0)]=some (enc r):=by
 refine qp (f:=p176) rfl rfl rfl fun e hl he=>?_;have h0_0:e.at 0=V.agg (qb a0):=he 0 _ rfl;have hl_0:e.length=170:=hl;clear he hl;have h_0:=ai hl_0 h0_0;show W A b176 e ⟨[],0⟩ _;unfold F176 at hF;have w1:=kP a0;obtain⟨x2,gx2,hF⟩:=bS hF;have w3:=s67 a0.Prime gx2;cases x2 with
 |true=>
  rw[if_pos rfl]at hF;have w4:=kS a0;obtain⟨x5,gx5,hF⟩:=bS hF;have w6:=s56 a0.Size 1 8 gx5;cases x5 with
  |true=>
   rw[if_pos rfl]at hF;obtain⟨t185,gt185,hF⟩:=bS hF;rcases t185 with _|r189
   ·dsimp only at hF
    simp only[simprocAttr,R0,b176, *];refine W.mono (l176_1 a0 gt185 (ei _ (ai rfl ?_))) ?_
    ·simp only[simprocAttr,R0, *]
    rintro _ e _ ⟨rfl,k8,rfl,h_9⟩;have w186:qB none (List.drop 2 (qb a0))=some (V.int .i64 (a0.Degrees.val.getD 0 0)):=zC (i:=0) (by omega) (by omega);by_cases c187:(a0.Degrees.val.getD 0 0)=0
    ·rw[if_pos c187]at hF
     have w188:qB none (List.drop 10 (qb a0))=some (V.int .i64 (a0.Levels.val.getD 0 0)):=zF (i:=0) (by omega) (by omega);cases hF;simp only[simprocAttr,R0,(eq_true (show(0:Int) < ((8:Nat):Int) from by decide)), *];exact qc (by simp only[simprocAttr,R0,qd,p176,Rs.ev,qa,(eq_true (show(0:Int) < ((8:Nat):Int) from by decide)), *])
    ·rw[if_neg c187]at hF
     cases hF;simp only[simprocAttr,R0,(eq_true (show(0:Int) < ((8:Nat):Int) from by decide)), *];exact qc (by simp only[simprocAttr,R0,qd,p176,Rs.ev,qa,(eq_true (show(0:Int) < ((8:Nat):Int) from by decide)), *])
   ·dsimp only at hF
    cases hF;simp only[simprocAttr,R0,b176, *];refine W.mono (l176_1 a0 gt185 (ei _ (ai rfl ?_))) ?_
    ·simp only[simprocAttr,R0, *]
    rintro _ e h ⟨rfl,hq⟩;simp only[simprocAttr,RR,RB];exact hq
  |false=>
   rw[if_neg wE]at hF;cases hF;simp only[simprocAttr,R0,b176, *];exact qc (by simp only[simprocAttr,R0,qd,p176,Rs.ev,qa, *])
 |false=>
  rw[if_neg wE]at hF;cases hF;simp only[simprocAttr,R0,b176, *];exact qc (by simp only[simprocAttr,R0,qd,p176,Rs.ev,qa, *])
def F177_2_B(a0:GDga)(a1:Ar .u8 8)(a2:Ar .u8 8)(v14_1:Int)(n7:Nat)(v19_2:Int)(o4_2:(List Int)):Option (((List Int))⊕((List Int))):=
 (ixI 8 v19_2).bind fun n14=>
if(a1.val.getD n7 0)=0 then
 some (.inl o4_2)
else
 if(a2.val.getD n14 0)=0 then
  some (.inl o4_2)
 else
  (ixI 8 v14_1).bind fun n20=>
  (chk (a1.val.getD n7 0)).bind fun x23=>
  (chk (a2.val.getD n14 0)).bind fun x24=>
  (chk (x23*x24)).bind fun x25=>
  (F70 a0 ⟨o4_2⟩ ⟨(arP a0.Table.val (n20*64+n14*8) 8)⟩ x25).bind fun x26=>
  some (.inl x26.val)
def F177_2_D(a0:GDga)(a1:Ar .u8 8)(a2:Ar .u8 8)(v14_1:Int)(n7:Nat)(v19_2:Int)(o4_2:(List Int)):Option ((List Int)):=
 some o4_2
def F177_1_B(a0:GDga)(a1:Ar .u8 8)(a2:Ar .u8 8)(v14_1:Int)(o4_1:(List Int)):Option (((List Int))⊕((List Int))):=
 (ixI 8 v14_1).bind fun n7=>
(forR 0 8 (F177_2_B a0 a1 a2 v14_1 n7) (F177_2_D a0 a1 a2 v14_1 n7) o4_1).bind fun zo4_2=>
some (.inl zo4_2)
def F177_1_D(a0:GDga)(a1:Ar .u8 8)(a2:Ar .u8 8)(v14_1:Int)(o4_1:(List Int)):Option ((List Int)):=
 some o4_1
def F177(a0:GDga)(a1:Ar .u8 8)(a2:Ar .u8 8):Option (Ar .u8 8):=
 (forR 0 8 (F177_1_B a0 a1 a2) (F177_1_D a0 a1 a2) ([]:(List Int))).bind fun zo4_1=>
 some ⟨zo4_1⟩
def I177_2(a0:GDga)(a1:Ar .u8 8)(a2:Ar .u8 8)(v14_1:Int)(n7:Nat)(v19_2:Int)(o4_2:(List Int))(e:Env)(h:Heap):Prop:=
 ∃k12:Nat,h=⟨[(0,none),(0,none),(0,none),(3,some (arc .u8 8 [])),(4,some (arc .u8 8 o4_2))],k12⟩∧e.length=46∧e.at 3=V.iptr (qb a0)∧e.at 5=V.iptr (arc .u8 8 a2.val)∧e.at 6=V.ptr 3 3 0∧e.at 7=V.ptr 4 4 0∧e.at 8=V.int .i64 v14_1∧e.at 9=V.int .u8 (a1.val.getD n7 0)∧e.at 13=V.agg (arc .u8 8 a1.val)∧e.at 14=V.int .i64 v14_1∧e.at 18=V.agg (arc .u8 8 a2.val)∧e.at 19=V.int .i64 v19_2
def P177_2(a0:GDga)(a1:Ar .u8 8)(a2:Ar .u8 8)(v14_1:Int)(n7:Nat)(zo4_2:(List Int))(x:Ex)(e:Env)(h:Heap):Prop:=
 x= .normal∧∃k12:Nat,h=⟨[(0,none),(0,none),(0,none),(3,some (arc .u8 8 [])),(4,some (arc .u8 8 zo4_2))],k12⟩∧e.length=46∧e.at 3=V.iptr (qb a0)∧e.at 5=V.iptr (arc .u8 8 a2.val)∧e.at 6=V.ptr 3 3 0∧e.at 7=V.ptr 4 4 0∧e.at 13=V.agg (arc .u8 8 a1.val)∧e.at 14=V.int .i64 v14_1
theorem l177_2(a0:GDga)(a1:Ar .u8 8)(a2:Ar .u8 8)(v14_1:Int)(n7:Nat){lo:Int}{s:(List Int)}{t:(List Int)}(hF:forR lo 8 (F177_2_B a0 a1 a2 v14_1 n7) (F177_2_D a0 a1 a2 v14_1 n7) s=some t){e:Env}{h:Heap}(hI:I177_2 a0 a1 a2 v14_1 n7 lo s e h):W A c177_2 e h (P177_2 a0 a1 a2 v14_1 n7 t):=by
 show W A (.block 2 (.loop false b177_2)) e h _;rw[ql];refine qq hF 5 (by obtain⟨_,rfl,_⟩:=hI; rfl) (I177_2 a0 a1 a2 v14_1 n7) hI ?_ ?_
 ·rintro v19_2 o4_2 e h ⟨k12,rfl,h_11⟩ hlt hw o ho
  unfold F177_2_B at ho;obtain⟨n14,gn14,ho⟩:=bS ho;obtain⟨w15a,w15b,w15c,w15d⟩:=qR gn14;have w16:=kA (l:=a2.val) w15d;by_cases c17:(a1.val.getD n7 0)=0
  ·rw[if_pos c17]at ho
   cases ho;simp only[simprocAttr, -Int.reduceNatCast',R0,b177_2, *];refine ai rfl (ei _ (ai rfl ?_));simp only[simprocAttr, -Int.reduceNatCast',R0, *]
  ·rw[if_neg c17]at ho
   by_cases c18:(a2.val.getD n14 0)=0
   ·rw[if_pos c18]at ho
    cases ho;simp only[simprocAttr, -Int.reduceNatCast',R0,b177_2, *];refine ai rfl (ei _ (ai rfl ?_));simp only[simprocAttr, -Int.reduceNatCast',R0, *]
   ·rw[if_neg c18]at ho
    obtain⟨n20,gn20,ho⟩:=bS ho;obtain⟨w21a,w21b,w21c,w21d⟩:=qR gn20;have w22:=kT a0 w21d w15d;have w22l:=kTl a0 w21d w15d;obtain⟨x23,gx23,ho⟩:=bS ho;have wx23:=qx gx23;obtain⟨x24,gx24,ho⟩:=bS ho;have wx24:=qx gx24;obtain⟨x25,gx25,ho⟩:=bS ho;have wx25:=qx gx25;obtain⟨x26,gx26,ho⟩:=bS ho;have w27:ans A 70 [V.agg (qb a0),V.agg (arc .u8 8 o4_2),V.agg (arc .u8 8 (arP a0.Table.val (n20*64+n14*8) 8)),V.int .i64 x25]=some (V.agg (arc .u8 8 x26.val)):=s70 a0 ⟨o4_2⟩ ⟨(arP a0.Table.val (n20*64+n14*8) 8)⟩ x25 gx26;have w29:=k0 o4_2;cases ho;simp only[simprocAttr, -Int.reduceNatCast',R0,b177_2,wA, *];refine ai rfl (ei _ (ai rfl ?_));simp only[simprocAttr, -Int.reduceNatCast',R0,wA, *]
 ·rintro v19_2 o4_2 e h ⟨k12,rfl,h_11⟩ hge t1 ho
  unfold F177_2_D at ho;cases ho;simp only[simprocAttr, -Int.reduceNatCast',R0,b177_2, *];intro ht; subst ht;refine ai rfl (ei _ (ai rfl ?_));simp only[simprocAttr, -Int.reduceNatCast',R0, *]
def I177_1(a0:GDga)(a1:Ar .u8 8)(a2:Ar .u8 8)(v14_1:Int)(o4_1:(List Int))(e:Env)(h:Heap):Prop:=
 ∃k5:Nat,h=⟨[(0,none),(0,none),(0,none),(3,some (arc .u8 8 [])),(4,some (arc .u8 8 o4_1))],k5⟩∧e.length=46∧e.at 3=V.iptr (qb a0)∧e.at 5=V.iptr (arc .u8 8 a2.val)∧e.at 6=V.ptr 3 3 0∧e.at 7=V.ptr 4 4 0∧e.at 13=V.agg (arc .u8 8 a1.val)∧e.at 14=V.int .i64 v14_1
def P177_1(a0:GDga)(a1:Ar .u8 8)(a2:Ar .u8 8)(zo4_1:(List Int))(x:Ex)(e:Env)(h:Heap):Prop:=
 x= .normal∧∃k5:Nat,h=⟨[(0,none),(0,none),(0,none),(3,some (arc .u8 8 [])),(4,some (arc .u8 8 zo4_1))],k5⟩∧e.length=46∧e.at 6=V.ptr 3 3 0∧e.at 7=V.ptr 4 4 0
theorem l177_1(a0:GDga)(a1:Ar .u8 8)(a2:Ar .u8 8){lo:Int}{s:(List Int)}{t:(List Int)}(hF:forR lo 8 (F177_1_B a0 a1 a2) (F177_1_D a0 a1 a2) s=some t){e:Env}{h:Heap}(hI:I177_1 a0 a1 a2 lo s e h):W A c177_1 e h (P177_1 a0 a1 a2 t):=by
 show W A (.block 0 (.loop false b177_1)) e h _;rw[ql];refine qq hF 5 (by obtain⟨_,rfl,_⟩:=hI; rfl) (I177_1 a0 a1 a2) hI ?_ ?_
 ·rintro v14_1 o4_1 e h ⟨k5,rfl,h_4⟩ hlt hw o ho
  unfold F177_1_B at ho;obtain⟨n7,gn7,ho⟩:=bS ho;obtain⟨w8a,w8b,w8c,w8d⟩:=qR gn7;have w9:=kA (l:=a1.val) w8d;obtain⟨zo4_2,gt30,ho⟩:=bS ho;simp only[simprocAttr,R0,b177_1, *];refine W.mono (l177_2 a0 a1 a2 v14_1 n7 gt30 (ei _ (ai rfl ?_))) ?_
  ·simp only[simprocAttr,R0, *]
  rintro _ e _ ⟨rfl,k12,rfl,h_13⟩;cases ho;simp only[simprocAttr,R0, *];refine ai rfl (ei _ (ai rfl ?_));simp only[simprocAttr,R0, *]
 ·rintro v14_1 o4_1 e h ⟨k5,rfl,h_4⟩ hge t1 ho
  unfold F177_1_D at ho;cases ho;simp only[simprocAttr,R0,b177_1, *];intro ht; subst ht;refine ai rfl (ei _ (ai rfl ?_));simp only[simprocAttr,R0, *]
theorem s177(a0:GDga)(a1:Ar .u8 8)(a2:Ar .u8 8){r:Ar .u8 8}(hF:F177 a0 a1 a2=some r):ans A 177 [V.agg (qb a0),V.agg (arc .u8 8 a1.val),V.agg (arc .u8 8 a2.val)]=some (enc r):=by
 refine qp (f:=p177) rfl rfl rfl fun e hl he=>?_;have h0_0:e.at 0=V.agg (qb a0):=he 0 _ rfl;have h1_0:e.at 1=V.agg (arc .u8 8 a1.val):=he 1 _ rfl;have h2_0:e.at 2=V.agg (arc .u8 8 a2.val):=he 2 _ rfl;have hl_0:e.length=46:=hl;clear he hl;show W A b177 e ⟨[],0⟩ _;unfold F177 at hF;have w2:=k0 [];obtain⟨zo4_1,gt31,hF⟩:=bS hF;simp only[simprocAttr,R0,b177,wA, *];refine W.mono (l177_1 a0 a1 a2 gt31 (ei _ (ai rfl ?_))) ?_
 ·simp only[simprocAttr,R0,wA, *]
 rintro _ e _ ⟨rfl,k5,rfl,h_6⟩;have w34:=k0 [];cases hF;simp only[simprocAttr,R0,wA, *];exact qc (by simp only[simprocAttr,R0,qd,p177,Rs.ev,qa,wA, *])
def F178_1_B(a0:GDga)(a1:Ar .u8 8)(v10_1:Int)(o3_1:(List Int)):Option (((List Int))⊕((List Int))):=
 (ixI 8 v10_1).bind fun n7=>
(chk (a1.val.getD n7 0)).bind fun x12=>
(F70 a0 ⟨o3_1⟩ ⟨(arP a0.Diff.val (n7*8) 8)⟩ x12).bind fun x13=>
some (.inl x13.val)
def F178_1_D(a0:GDga)(a1:Ar .u8 8)(v10_1:Int)(o3_1:(List Int)):Option ((List Int)):=
 some o3_1
def F178(a0:GDga)(a1:Ar .u8 8):Option (Ar .u8 8):=
 (forR 0 8 (F178_1_B a0 a1) (F178_1_D a0 a1) ([]:(List Int))).bind fun zo3_1=>
 some ⟨zo3_1⟩
def I178_1(a0:GDga)(a1:Ar .u8 8)(v10_1:Int)(o3_1:(List Int))(e:Env)(h:Heap):Prop:=
 ∃k5:Nat,h=⟨[(0,none),(0,none),(2,some (arc .u8 8 [])),(3,some (arc .u8 8 o3_1))],k5⟩∧e.length=25∧e.at 2=V.iptr (qb a0)∧e.at 4=V.ptr 2 2 0∧e.at 5=V.ptr 3 3 0∧e.at 9=V.agg (arc .u8 8 a1.val)∧e.at 10=V.int .i64 v10_1
def P178_1(a0:GDga)(a1:Ar .u8 8)(zo3_1:(List Int))(x:Ex)(e:Env)(h:Heap):Prop:=
 x= .normal∧∃k5:Nat,h=⟨[(0,none),(0,none),(2,some (arc .u8 8 [])),(3,some (arc .u8 8 zo3_1))],k5⟩∧e.length=25∧e.at 4=V.ptr 2 2 0∧e.at 5=V.ptr 3 3 0
theorem l178_1(a0:GDga)(a1:Ar .u8 8){lo:Int}{s:(List Int)}{t:(List Int)}(hF:forR lo 8 (F178_1_B a0 a1) (F178_1_D a0 a1) s=some t){e:Env}{h:Heap}(hI:I178_1 a0 a1 lo s e h):W A c178_1 e h (P178_1 a0 a1 t):=by
 show W A (.block 0 (.loop false b178_1)) e h _;rw[ql];refine qq hF 4 (by obtain⟨_,rfl,_⟩:=hI; rfl) (I178_1 a0 a1) hI ?_ ?_
 ·rintro v10_1 o3_1 e h ⟨k5,rfl,h_4⟩ hlt hw o ho
  unfold F178_1_B at ho;obtain⟨n7,gn7,ho⟩:=bS ho;obtain⟨w8a,w8b,w8c,w8d⟩:=qR gn7;have w9:=kA (l:=a1.val) w8d;have w11:=kI a0 w8d;have w11l:=kIl a0 w8d;obtain⟨x12,gx12,ho⟩:=bS ho;have wx12:=qx gx12;obtain⟨x13,gx13,ho⟩:=bS ho;have w14:ans A 70 [V.agg (qb a0),V.agg (arc .u8 8 o3_1),V.agg (arc .u8 8 (arP a0.Diff.val (n7*8) 8)),V.int .i64 x12]=some (V.agg (arc .u8 8 x13.val)):=s70 a0 ⟨o3_1⟩ ⟨(arP a0.Diff.val (n7*8) 8)⟩ x12 gx13;have w16:=k0 o3_1;cases ho;simp only[simprocAttr,R0,b178_1,wA, *];refine ai rfl (ei _ (ai rfl ?_));simp only[simprocAttr,R0,wA, *]
 ·rintro v10_1 o3_1 e h ⟨k5,rfl,h_4⟩ hge t1 ho
  unfold F178_1_D at ho;cases ho;simp only[simprocAttr,R0,b178_1, *];intro ht; subst ht;refine ai rfl (ei _ (ai rfl ?_));simp only[simprocAttr,R0, *]
theorem s178(a0:GDga)(a1:Ar .u8 8){r:Ar .u8 8}(hF:F178 a0 a1=some r):ans A 178 [V.agg (qb a0),V.agg (arc .u8 8 a1.val)]=some (enc r):=by
 refine qp (f:=p178) rfl rfl rfl fun e hl he=>?_;have h0_0:e.at 0=V.agg (qb a0):=he 0 _ rfl;have h1_0:e.at 1=V.agg (arc .u8 8 a1.val):=he 1 _ rfl;have hl_0:e.length=25:=hl;clear he hl;show W A b178 e ⟨[],0⟩ _;unfold F178 at hF;have w2:=k0 [];obtain⟨zo3_1,gt17,hF⟩:=bS hF;simp only[simprocAttr,R0,b178,wA, *];refine W.mono (l178_1 a0 a1 gt17 (ei _ (ai rfl ?_))) ?_
 ·simp only[simprocAttr,R0,wA, *]
 rintro _ e _ ⟨rfl,k5,rfl,h_6⟩;have w20:=k0 [];cases hF;simp only[simprocAttr,R0,wA, *];exact qc (by simp only[simprocAttr,R0,qd,p178,Rs.ev,qa,wA, *])
def F179(a0:Int):Option Int:=
 (remI a0 2).bind fun x1=>
 (chk (x1*2)).bind fun x3=>
 (chk (1 - x3)).bind fun x4=>
 some x4
theorem s179(a0:Int){r:Int}(hF:F179 a0=some r):ans A 179 [V.int .i64 a0]=some (enc r):=by
 refine qp (f:=p179) rfl rfl rfl fun e hl he=>?_;have h0_0:e.at 0=V.int .i64 a0:=he 0 _ rfl;have hl_0:e.length=7:=hl;clear he hl;show W A b179 e ⟨[],0⟩ _;unfold F179 at hF;obtain⟨x1,gx1,hF⟩:=bS hF;obtain⟨w2a,w2b⟩:=rem_w gx1;obtain⟨x3,gx3,hF⟩:=bS hF;have wx3:=qx gx3;obtain⟨x4,gx4,hF⟩:=bS hF;have wx4:=qx gx4;cases hF;simp only[simprocAttr,R0,b179, *];exact qc (by simp only[simprocAttr,R0,qd,p179,Rs.ev,qa, *])
def F157_3_B(a0:GDga)(v15_1:Int)(x7:Ar .u8 8)(v49_2:Int)(x36:Ar .u8 8)(x45:Ar .u8 8)(x60:Ar .u8 8)(v89_3:Int)(s:Unit):Option ((Unit)⊕((Unit)⊕Bool)):=
 (ixI 8 v15_1).bind fun n72=>
(ixI 8 v49_2).bind fun n74=>
(F69 a0 v89_3).bind fun x77=>
(F177 a0 ⟨(arP a0.Table.val (n72*64+n74*8) 8)⟩ x77).bind fun x79=>
(ixI 8 v89_3).bind fun n82=>
(F177 a0 x7 ⟨(arP a0.Table.val (n74*64+n82*8) 8)⟩).bind fun x85=>
(arE .u8 8 x79.val x85.val).bind fun x87=>
if x87=true then
 some (.inl ())
else
 some (.inr (.inr false))
def F157_3_D(a0:GDga)(v15_1:Int)(x7:Ar .u8 8)(v49_2:Int)(x36:Ar .u8 8)(x45:Ar .u8 8)(x60:Ar .u8 8)(v89_3:Int)(s:Unit):Option ((Unit)⊕Bool):=
 some (.inl ())
def F157_2_B(a0:GDga)(v15_1:Int)(x7:Ar .u8 8)(v49_2:Int)(s:Unit):Option ((Unit)⊕((Unit)⊕Bool)):=
 (F69 a0 v49_2).bind fun x36=>
(ixI 8 v15_1).bind fun n40=>
(ixI 8 v49_2).bind fun n42=>
(F178 a0 ⟨(arP a0.Table.val (n40*64+n42*8) 8)⟩).bind fun x45=>
(F177 a0 ⟨(arP a0.Diff.val (n40*8) 8)⟩ x36).bind fun x51=>
(F177 a0 x7 ⟨(arP a0.Diff.val (n42*8) 8)⟩).bind fun x55=>
(F179 (a0.Degrees.val.getD n40 0)).bind fun x58=>
(F70 a0 x51 x55 x58).bind fun x60=>
(arE .u8 8 x45.val x60.val).bind fun x66=>
if x66=true then
 (forR 0 a0.Size (F157_3_B a0 v15_1 x7 v49_2 x36 x45 x60) (F157_3_D a0 v15_1 x7 v49_2 x36 x45 x60) ()).bind fun t89=> match t89 with
  | .inl _=>
   some (.inl ())
  | .inr r90=> some (.inr (.inr r90))
else
 some (.inr (.inr false))
def F157_2_D(a0:GDga)(v15_1:Int)(x7:Ar .u8 8)(v49_2:Int)(s:Unit):Option ((Unit)⊕Bool):=
 some (.inl ())
def F157_1_B(a0:GDga)(v15_1:Int)(s:Unit):Option ((Unit)⊕((Unit)⊕Bool)):=
 (F69 a0 v15_1).bind fun x7=>
(F69 a0 0).bind fun x11=>
(F177 a0 x11 x7).bind fun x14=>
(arE .u8 8 x14.val x7.val).bind fun x17=>
if x17=true then
 (F177 a0 x7 x11).bind fun x20=>
 (arE .u8 8 x20.val x7.val).bind fun x23=>
 if x23=true then
  (ixI 8 v15_1).bind fun n25=>
  (F178 a0 ⟨(arP a0.Diff.val (n25*8) 8)⟩).bind fun x28=>
  (arE .u8 8 x28.val []).bind fun x30=>
  if x30=true then
   (forR 0 a0.Size (F157_2_B a0 v15_1 x7) (F157_2_D a0 v15_1 x7) ()).bind fun t91=> match t91 with
    | .inl _=>
     some (.inl ())
    | .inr r92=> some (.inr (.inr r92))
  else
   some (.inr (.inr false))
 else
  some (.inr (.inr false))
else
 some (.inr (.inr false))
def F157_1_D(a0:GDga)(v15_1:Int)(s:Unit):Option ((Unit)⊕Bool):=
 some (.inl ())
def F157(a0:GDga):Option Bool:=
 (F176 a0).bind fun x1=>
 if x1=true then
  (forR 0 a0.Size (F157_1_B a0) (F157_1_D a0) ()).bind fun t93=> match t93 with
   | .inl _=>
    some true
   | .inr r94=> some r94
 else
  some false
def I157_3(a0:GDga)(v15_1:Int)(x7:Ar .u8 8)(v49_2:Int)(x36:Ar .u8 8)(x45:Ar .u8 8)(x60:Ar .u8 8)(k5 k34:Nat)(v89_3:Int)(s:Unit)(e:Env)(h:Heap):Prop:=
 ∃k70:Nat,h=⟨[(0,none),(k5,some (arc .u8 8 x7.val)),(k34,some (arc .u8 8 x36.val)),((k34+1),some (arc .u8 8 x45.val)),((k34+2),some (arc .u8 8 x60.val))],k70⟩∧e.length=116∧e.at 1=V.iptr (qb a0)∧e.at 3=V.int .i64 v15_1∧e.at 4=V.ptr 1 k5 0∧e.at 5=V.int .i64 v49_2∧e.at 14=V.int .i64 a0.Size∧e.at 15=V.int .i64 v15_1∧e.at 48=V.int .i64 a0.Size∧e.at 49=V.int .i64 v49_2∧e.at 88=V.int .i64 a0.Size∧e.at 89=V.int .i64 v89_3
def P157_3(a0:GDga)(v15_1:Int)(x7:Ar .u8 8)(v49_2:Int)(x36:Ar .u8 8)(x45:Ar .u8 8)(x60:Ar .u8 8)(k5 k34:Nat)(t:(Unit)⊕Bool)(x:Ex)(e:Env)(h:Heap):Prop:=
 match t with
 | .inl _=> x= .normal∧∃k70:Nat,h=⟨[(0,none),(k5,some (arc .u8 8 x7.val)),(k34,some (arc .u8 8 x36.val)),((k34+1),some (arc .u8 8 x45.val)),((k34+2),some (arc .u8 8 x60.val))],k70⟩∧e.length=116∧e.at 1=V.iptr (qb a0)∧e.at 3=V.int .i64 v15_1∧e.at 4=V.ptr 1 k5 0∧e.at 14=V.int .i64 a0.Size∧e.at 15=V.int .i64 v15_1∧e.at 48=V.int .i64 a0.Size∧e.at 49=V.int .i64 v49_2
 | .inr r=> x= .ret∧Fin p157 (enc r) .ret e h
theorem l157_3(a0:GDga)(v15_1:Int)(x7:Ar .u8 8)(v49_2:Int)(x36:Ar .u8 8)(x45:Ar .u8 8)(x60:Ar .u8 8)(k5 k34:Nat){lo:Int}{s:Unit}{t:(Unit)⊕Bool}(hF:forR lo a0.Size (F157_3_B a0 v15_1 x7 v49_2 x36 x45 x60) (F157_3_D a0 v15_1 x7 v49_2 x36 x45 x60) s=some t){e:Env}{h:Heap}(hI:I157_3 a0 v15_1 x7 v49_2 x36 x45 x60 k5 k34 lo s e h):W A c157_3 e h (P157_3 a0 v15_1 x7 v49_2 x36 x45 x60 k5 k34 t):=by
 show W A (.block 4 (.loop false b157_3)) e h _;rw[ql];refine qq hF 5 (by obtain⟨_,rfl,_⟩:=hI; rfl) (I157_3 a0 v15_1 x7 v49_2 x36 x45 x60 k5 k34) hI ?_ ?_
 ·rintro v89_3 _ e h ⟨k70,rfl,h_69⟩ hlt hw o ho
  unfold F157_3_B at ho;obtain⟨n72,gn72,ho⟩:=bS ho;obtain⟨w73a,w73b,w73c,w73d⟩:=qR gn72;obtain⟨n74,gn74,ho⟩:=bS ho;obtain⟨w75a,w75b,w75c,w75d⟩:=qR gn74;have w76:=kT a0 w73d w75d;have w76l:=kTl a0 w73d w75d;obtain⟨x77,gx77,ho⟩:=bS ho;have w78:=s69 a0 v89_3 gx77;obtain⟨x79,gx79,ho⟩:=bS ho;have w80:ans A 177 [V.agg (qb a0),V.agg (arc .u8 8 (arP a0.Table.val (n72*64+n74*8) 8)),V.agg (arc .u8 8 x77.val)]=some (V.agg (arc .u8 8 x79.val)):=s177 a0 ⟨(arP a0.Table.val (n72*64+n74*8) 8)⟩ x77 gx79;obtain⟨n82,gn82,ho⟩:=bS ho;obtain⟨w83a,w83b,w83c,w83d⟩:=qR gn82;have w84:=kT a0 w75d w83d;have w84l:=kTl a0 w75d w83d;obtain⟨x85,gx85,ho⟩:=bS ho;have w86:ans A 177 [V.agg (qb a0),V.agg (arc .u8 8 x7.val),V.agg (arc .u8 8 (arP a0.Table.val (n74*64+n82*8) 8))]=some (V.agg (arc .u8 8 x85.val)):=s177 a0 x7 ⟨(arP a0.Table.val (n74*64+n82*8) 8)⟩ gx85;obtain⟨x87,gx87,ho⟩:=bS ho;have w88:eqSV true 12 (Lay.arr 8 8 1 (Lay.int Go.IntKind.u8)) (V.agg (arc .u8 8 x79.val)) (V.agg (arc .u8 8 x85.val))=some (V.bool (!x87)):=ze gx87;cases x87 with
  |true=>
   rw[if_pos rfl]at ho;cases ho;simp only[simprocAttr, -Int.reduceNatCast',R0,b157_3, *];refine ai rfl (ei _ (ai rfl ?_));simp only[simprocAttr, -Int.reduceNatCast',R0, *]
  |false=>
   rw[if_neg wE]at ho;cases ho;simp only[simprocAttr, -Int.reduceNatCast',R0,b157_3, *];intro ht; subst ht;simp only[simprocAttr, -Int.reduceNatCast',RR,RB];exact ai rfl (qc (by simp only[simprocAttr, -Int.reduceNatCast',R0,qd,p157,Rs.ev,qa, *]))
 ·rintro v89_3 _ e h ⟨k70,rfl,h_69⟩ hge t1 ho
  unfold F157_3_D at ho;cases ho;simp only[simprocAttr, -Int.reduceNatCast',R0,b157_3, *];intro ht; subst ht;refine ai rfl (ei _ (ai rfl ?_));simp only[simprocAttr, -Int.reduceNatCast',R0, *]
def I157_2(a0:GDga)(v15_1:Int)(x7:Ar .u8 8)(k5:Nat)(v49_2:Int)(s:Unit)(e:Env)(h:Heap):Prop:=
 ∃k34:Nat,h=⟨[(0,none),(k5,some (arc .u8 8 x7.val))],k34⟩∧e.length=116∧e.at 1=V.iptr (qb a0)∧e.at 3=V.int .i64 v15_1∧e.at 4=V.ptr 1 k5 0∧e.at 14=V.int .i64 a0.Size∧e.at 15=V.int .i64 v15_1∧e.at 48=V.int .i64 a0.Size∧e.at 49=V.int .i64 v49_2
def P157_2(a0:GDga)(v15_1:Int)(x7:Ar .u8 8)(k5:Nat)(t:(Unit)⊕Bool)(x:Ex)(e:Env)(h:Heap):Prop:=
 match t with
 | .inl _=> x= .normal∧∃k34:Nat,h=⟨[(0,none),(k5,some (arc .u8 8 x7.val))],k34⟩∧e.length=116∧e.at 1=V.iptr (qb a0)∧e.at 14=V.int .i64 a0.Size∧e.at 15=V.int .i64 v15_1
 | .inr r=> x= .ret∧Fin p157 (enc r) .ret e h
theorem l157_2(a0:GDga)(v15_1:Int)(x7:Ar .u8 8)(k5:Nat){lo:Int}{s:Unit}{t:(Unit)⊕Bool}(hF:forR lo a0.Size (F157_2_B a0 v15_1 x7) (F157_2_D a0 v15_1 x7) s=some t){e:Env}{h:Heap}(hI:I157_2 a0 v15_1 x7 k5 lo s e h):W A c157_2 e h (P157_2 a0 v15_1 x7 k5 t):=by
 show W A (.block 2 (.loop false b157_2)) e h _;rw[ql];refine qq hF 2 (by obtain⟨_,rfl,_⟩:=hI; rfl) (I157_2 a0 v15_1 x7 k5) hI ?_ ?_
 ·rintro v49_2 _ e h ⟨k34,rfl,h_33⟩ hlt hw o ho
  unfold F157_2_B at ho;obtain⟨x36,gx36,ho⟩:=bS ho;have w37:=s69 a0 v49_2 gx36;have w39:=k0 [];obtain⟨n40,gn40,ho⟩:=bS ho;obtain⟨w41a,w41b,w41c,w41d⟩:=qR gn40;obtain⟨n42,gn42,ho⟩:=bS ho;obtain⟨w43a,w43b,w43c,w43d⟩:=qR gn42;have w44:=kT a0 w41d w43d;have w44l:=kTl a0 w41d w43d;obtain⟨x45,gx45,ho⟩:=bS ho;have w46:ans A 178 [V.agg (qb a0),V.agg (arc .u8 8 (arP a0.Table.val (n40*64+n42*8) 8))]=some (V.agg (arc .u8 8 x45.val)):=s178 a0 ⟨(arP a0.Table.val (n40*64+n42*8) 8)⟩ gx45;have w48:=k0 [];have w49:=kI a0 w41d;have w49l:=kIl a0 w41d;obtain⟨x51,gx51,ho⟩:=bS ho;have w52:ans A 177 [V.agg (qb a0),V.agg (arc .u8 8 (arP a0.Diff.val (n40*8) 8)),V.agg (arc .u8 8 x36.val)]=some (V.agg (arc .u8 8 x51.val)):=s177 a0 ⟨(arP a0.Diff.val (n40*8) 8)⟩ x36 gx51;have w54:=kI a0 w43d;have w54l:=kIl a0 w43d;obtain⟨x55,gx55,ho⟩:=bS ho;have w56:ans A 177 [V.agg (qb a0),V.agg (arc .u8 8 x7.val),V.agg (arc .u8 8 (arP a0.Diff.val (n42*8) 8))]=some (V.agg (arc .u8 8 x55.val)):=s177 a0 x7 ⟨(arP a0.Diff.val (n42*8) 8)⟩ gx55;have w57:=kD a0 w41d;obtain⟨x58,gx58,ho⟩:=bS ho;have w59:=s179 (a0.Degrees.val.getD n40 0) gx58;obtain⟨x60,gx60,ho⟩:=bS ho;have w61:=s70 a0 x51 x55 x58 gx60;have w63:=k0 [];obtain⟨x66,gx66,ho⟩:=bS ho;have w67:eqSV true 12 (Lay.arr 8 8 1 (Lay.int Go.IntKind.u8)) (V.agg (arc .u8 8 x45.val)) (V.agg (arc .u8 8 x60.val))=some (V.bool (!x66)):=ze gx66;cases x66 with
  |true=>
   rw[if_pos rfl]at ho;have w68:=kS a0;obtain⟨t89,gt89,ho⟩:=bS ho;rcases t89 with _|r90
   ·dsimp only at ho
    simp only[simprocAttr, -Int.reduceNatCast',R0,b157_2,wA,wA,wA, *];refine W.mono (l157_3 a0 v15_1 x7 v49_2 x36 x45 x60 k5 k34 gt89 (ei _ (ai rfl ?_))) ?_
    ·simp only[simprocAttr, -Int.reduceNatCast',R0,wA,wA,wA, *]
    rintro _ e _ ⟨rfl,k70,rfl,h_71⟩;cases ho;simp only[simprocAttr, -Int.reduceNatCast',R0, *];refine ai rfl (ei _ (ai rfl ?_));simp only[simprocAttr, -Int.reduceNatCast',R0, *]
   ·dsimp only at ho
    cases ho;simp only[simprocAttr, -Int.reduceNatCast',R0,b157_2,wA,wA,wA, *];refine W.mono (l157_3 a0 v15_1 x7 v49_2 x36 x45 x60 k5 k34 gt89 (ei _ (ai rfl ?_))) ?_
    ·simp only[simprocAttr, -Int.reduceNatCast',R0,wA,wA,wA, *]
    rintro _ e h ⟨rfl,hq⟩;simp only[simprocAttr, -Int.reduceNatCast',RR,RB];intro ht; subst ht;simp only[simprocAttr, -Int.reduceNatCast',RR,RB];exact ai rfl hq
  |false=>
   rw[if_neg wE]at ho;cases ho;simp only[simprocAttr, -Int.reduceNatCast',R0,b157_2,wA,wA,wA, *];intro ht; subst ht;simp only[simprocAttr, -Int.reduceNatCast',RR,RB];exact ai rfl (qc (by simp only[simprocAttr, -Int.reduceNatCast',R0,qd,p157,Rs.ev,qa,wA,wA,wA, *]))
 ·rintro v49_2 _ e h ⟨k34,rfl,h_33⟩ hge t1 ho
  unfold F157_2_D at ho;cases ho;simp only[simprocAttr, -Int.reduceNatCast',R0,b157_2, *];intro ht; subst ht;refine ai rfl (ei _ (ai rfl ?_));simp only[simprocAttr, -Int.reduceNatCast',R0, *]
def I157_1(a0:GDga)(v15_1:Int)(s:Unit)(e:Env)(h:Heap):Prop:=
 ∃k5:Nat,h=⟨[(0,none)],k5⟩∧e.length=116∧e.at 1=V.iptr (qb a0)∧e.at 14=V.int .i64 a0.Size∧e.at 15=V.int .i64 v15_1
def P157_1(a0:GDga)(t:(Unit)⊕Bool)(x:Ex)(e:Env)(h:Heap):Prop:=
 match t with
 | .inl _=> x= .normal∧∃k5:Nat,h=⟨[(0,none)],k5⟩∧e.length=116
 | .inr r=> x= .ret∧Fin p157 (enc r) .ret e h
theorem l157_1(a0:GDga){lo:Int}{s:Unit}{t:(Unit)⊕Bool}(hF:forR lo a0.Size (F157_1_B a0) (F157_1_D a0) s=some t){e:Env}{h:Heap}(hI:I157_1 a0 lo s e h):W A c157_1 e h (P157_1 a0 t):=by
 show W A (.block 0 (.loop false b157_1)) e h _;rw[ql];refine qq hF 1 (by obtain⟨_,rfl,_⟩:=hI; rfl) (I157_1 a0) hI ?_ ?_
 ·rintro v15_1 _ e h ⟨k5,rfl,h_4⟩ hlt hw o ho
  unfold F157_1_B at ho;obtain⟨x7,gx7,ho⟩:=bS ho;have w8:=s69 a0 v15_1 gx7;have w10:=k0 [];obtain⟨x11,gx11,ho⟩:=bS ho;have w12:=s69 a0 0 gx11;obtain⟨x14,gx14,ho⟩:=bS ho;have w15:=s177 a0 x11 x7 gx14;obtain⟨x17,gx17,ho⟩:=bS ho;have w18:eqSV true 12 (Lay.arr 8 8 1 (Lay.int Go.IntKind.u8)) (V.agg (arc .u8 8 x14.val)) (V.agg (arc .u8 8 x7.val))=some (V.bool (!x17)):=ze gx17;cases x17 with
  |true=>
   rw[if_pos rfl]at ho;obtain⟨x20,gx20,ho⟩:=bS ho;have w21:=s177 a0 x7 x11 gx20;obtain⟨x23,gx23,ho⟩:=bS ho;have w24:eqSV true 12 (Lay.arr 8 8 1 (Lay.int Go.IntKind.u8)) (V.agg (arc .u8 8 x20.val)) (V.agg (arc .u8 8 x7.val))=some (V.bool (!x23)):=ze gx23;cases x23 with
   |true=>
    rw[if_pos rfl]at ho;obtain⟨n25,gn25,ho⟩:=bS ho;obtain⟨w26a,w26b,w26c,w26d⟩:=qR gn25;have w27:=kI a0 w26d;have w27l:=kIl a0 w26d;obtain⟨x28,gx28,ho⟩:=bS ho;have w29:ans A 178 [V.agg (qb a0),V.agg (arc .u8 8 (arP a0.Diff.val (n25*8) 8))]=some (V.agg (arc .u8 8 x28.val)):=s178 a0 ⟨(arP a0.Diff.val (n25*8) 8)⟩ gx28;obtain⟨x30,gx30,ho⟩:=bS ho;have w31:eqSV true 12 (Lay.arr 8 8 1 (Lay.int Go.IntKind.u8)) (V.agg (arc .u8 8 x28.val)) (V.agg (arc .u8 8 []))=some (V.bool (!x30)):=ze gx30;cases x30 with
    |true=>
     rw[if_pos rfl]at ho;have w32:=kS a0;obtain⟨t91,gt91,ho⟩:=bS ho;rcases t91 with _|r92
     ·dsimp only at ho
      simp only[simprocAttr, -Int.reduceNatCast',R0,b157_1,wA, *];refine W.mono (l157_2 a0 v15_1 x7 k5 gt91 (ei _ (ai rfl ?_))) ?_
      ·simp only[simprocAttr, -Int.reduceNatCast',R0,wA, *]
      rintro _ e _ ⟨rfl,k34,rfl,h_35⟩;cases ho;simp only[simprocAttr, -Int.reduceNatCast',R0, *];refine ai rfl (ei _ (ai rfl ?_));simp only[simprocAttr, -Int.reduceNatCast',R0, *]
     ·dsimp only at ho
      cases ho;simp only[simprocAttr, -Int.reduceNatCast',R0,b157_1,wA, *];refine W.mono (l157_2 a0 v15_1 x7 k5 gt91 (ei _ (ai rfl ?_))) ?_
      ·simp only[simprocAttr, -Int.reduceNatCast',R0,wA, *]
      rintro _ e h ⟨rfl,hq⟩;simp only[simprocAttr, -Int.reduceNatCast',RR,RB];intro ht; subst ht;simp only[simprocAttr, -Int.reduceNatCast',RR,RB];exact ai rfl hq
    |false=>
     rw[if_neg wE]at ho;cases ho;simp only[simprocAttr, -Int.reduceNatCast',R0,b157_1,wA, *];intro ht; subst ht;simp only[simprocAttr, -Int.reduceNatCast',RR,RB];exact ai rfl (qc (by simp only[simprocAttr, -Int.reduceNatCast',R0,qd,p157,Rs.ev,qa,wA, *]))
   |false=>
    rw[if_neg wE]at ho;cases ho;simp only[simprocAttr, -Int.reduceNatCast',R0,b157_1,wA, *];intro ht; subst ht;simp only[simprocAttr, -Int.reduceNatCast',RR,RB];exact ai rfl (qc (by simp only[simprocAttr, -Int.reduceNatCast',R0,qd,p157,Rs.ev,qa,wA, *]))
  |false=>
   rw[if_neg wE]at ho;cases ho;simp only[simprocAttr, -Int.reduceNatCast',R0,b157_1,wA, *];intro ht; subst ht;simp only[simprocAttr, -Int.reduceNatCast',RR,RB];exact ai rfl (qc (by simp only[simprocAttr, -Int.reduceNatCast',R0,qd,p157,Rs.ev,qa,wA, *]))
 ·rintro v15_1 _ e h ⟨k5,rfl,h_4⟩ hge t1 ho
  unfold F157_1_D at ho;cases ho;simp only[simprocAttr, -Int.reduceNatCast',R0,b157_1, *];intro ht; subst ht;refine ai rfl (ei _ (ai rfl ?_));simp only[simprocAttr, -Int.reduceNatCast',R0, *]
theorem s157(a0:GDga){r:Bool}(hF:F157 a0=some r):ans A 157 [V.agg (qb a0)]=some (enc r):=by
 refine qp (f:=p157) rfl rfl rfl fun e hl he=>?_;have h0_0:e.at 0=V.agg (qb a0):=he 0 _ rfl;have hl_0:e.length=116:=hl;clear he hl;have h_0:=ai hl_0 h0_0;show W A b157 e ⟨[],0⟩ _;unfold F157 at hF;obtain⟨x1,gx1,hF⟩:=bS hF;have w2:=s176 a0 gx1;cases x1 with
 |true=>
  rw[if_pos rfl]at hF;have w3:=kS a0;obtain⟨t93,gt93,hF⟩:=bS hF;rcases t93 with _|r94
  ·dsimp only at hF
   simp only[simprocAttr,R0,b157, *];refine W.mono (l157_1 a0 gt93 (ei _ (ai rfl ?_))) ?_
   ·simp only[simprocAttr,R0, *]
   rintro _ e _ ⟨rfl,k5,rfl,hl_6⟩;cases hF;simp only[simprocAttr,R0, *];exact qc (by simp only[simprocAttr,R0,qd,p157,Rs.ev,qa, *])
  ·dsimp only at hF
   cases hF;simp only[simprocAttr,R0,b157, *];refine W.mono (l157_1 a0 gt93 (ei _ (ai rfl ?_))) ?_
   ·simp only[simprocAttr,R0, *]
   rintro _ e h ⟨rfl,hq⟩;simp only[simprocAttr,RR,RB];exact hq
 |false=>
  rw[if_neg wE]at hF;cases hF;simp only[simprocAttr,R0,b157, *];exact qc (by simp only[simprocAttr,R0,qd,p157,Rs.ev,qa, *])
def F144(a0:GDga):Option (T2 qg Int):=
 (F157 a0).bind fun x1=>
 if x1=true then
  (F36 a0).bind fun x3=>
  some ⟨x3,0⟩
 else
  some ⟨⟨⟨0,[],[]⟩,[]⟩,1⟩
theorem s144(a0:GDga){r:T2 qg Int}(hF:F144 a0=some r):ans A 144 [V.agg (qb a0)]=some (EncR.enc r):=by
 refine qp (f:=p144) rfl rfl rfl fun e hl he=>?_;have h0_0:e.at 0=V.agg (qb a0):=he 0 _ rfl;have hl_0:e.length=10:=hl;clear he hl;have h_0:=ai hl_0 h0_0;show W A b144 e ⟨[],0⟩ _;unfold F144 at hF;obtain⟨x1,gx1,hF⟩:=bS hF;have w2:=s157 a0 gx1;cases x1 with
 |true=>
  rw[if_pos rfl]at hF;obtain⟨x3,gx3,hF⟩:=bS hF;have w4:=s36 a0 gx3;cases hF;simp only[simprocAttr,R0,b144, *];exact qc (by simp only[simprocAttr,R0,qd,p144,Rs.ev,qa, *])
 |false=>
  rw[if_neg wE]at hF;cases hF;simp only[simprocAttr,R0,b144, *];exact qc (by simp only[simprocAttr,R0,qd,p144,Rs.ev,qa, *])
def F106_1_B(a0:GDga)(a1:Int)(v6_1:Int)(o1_1:(List Int)):Option (((List Int))⊕((List Int))):=
 (ixI 8 v6_1).bind fun n6=>
if(a0.Degrees.val.getD n6 0)=a1 then
 (app 8 o1_1 [v6_1]).bind fun l11=>
 some (.inl l11)
else
 some (.inl o1_1)
def F106_1_D(a0:GDga)(a1:Int)(v6_1:Int)(o1_1:(List Int)):Option ((List Int)):=
 some o1_1
def F106(a0:GDga)(a1:Int):Option (List Int):=
 (forR 0 a0.Size (F106_1_B a0 a1) (F106_1_D a0 a1) ([]:(List Int))).bind fun zo1_1=>
 some zo1_1
def I106_1(a0:GDga)(a1:Int)(v6_1:Int)(o1_1:(List Int))(e:Env)(h:Heap):Prop:=
 ∃u2 k3:Nat,h=⟨[(0,none),(u2,some (o1_1.map enc))],k3⟩∧e.length=25∧e.at 1=V.int .i64 a1∧e.at 2=V.iptr (qb a0)∧e.at 5=V.sl 1 u2 0 o1_1.length 1∧e.at 6=V.int .i64 v6_1
def P106_1(a0:GDga)(a1:Int)(zo1_1:(List Int))(x:Ex)(e:Env)(h:Heap):Prop:=
 x= .normal∧∃u2 k3:Nat,h=⟨[(0,none),(u2,some (zo1_1.map enc))],k3⟩∧e.length=25∧e.at 5=V.sl 1 u2 0 zo1_1.length 1
theorem l106_1(a0:GDga)(a1:Int){lo:Int}{s:(List Int)}{t:(List Int)}(hF:forR lo a0.Size (F106_1_B a0 a1) (F106_1_D a0 a1) s=some t){e:Env}{h:Heap}(hI:I106_1 a0 a1 lo s e h):W A c106_1 e h (P106_1 a0 a1 t):=by
 show W A (.block 0 (.loop false b106_1)) e h _;rw[ql];refine qq hF 2 (by obtain⟨_,_,rfl,_⟩:=hI; rfl) (I106_1 a0 a1) hI ?_ ?_
 ·rintro v6_1 o1_1 e h ⟨u2,k3,rfl,h_1⟩ hlt hw o ho
  unfold F106_1_B at ho;have w5:=kS a0;obtain⟨n6,gn6,ho⟩:=bS ho;obtain⟨w7a,w7b,w7c,w7d⟩:=qR gn6;have w8:=kD a0 w7d;by_cases c9:(a0.Degrees.val.getD n6 0)=a1
  ·rw[if_pos c9]at ho
   obtain⟨l11,gl11,ho⟩:=bS ho;have w10:=fun a b c d e=> qE (α:=Int) (n:=o1_1.length) (m:=1) (ds:=[V.int .i64 v6_1]) gl11 (by first|rfl|simp) (by first|rfl|simp) rfl a b c d e;have w10l:=qQ gl11;cases ho;simp only[simprocAttr, -Int.reduceNatCast',R0,b106_1, *];refine ai rfl (ei _ (ei _ (ai rfl ?_)));simp only[simprocAttr, -Int.reduceNatCast',R0, *]
  ·rw[if_neg c9]at ho
   cases ho;simp only[simprocAttr, -Int.reduceNatCast',R0,b106_1, *];refine ai rfl (ei _ (ei _ (ai rfl ?_)));simp only[simprocAttr, -Int.reduceNatCast',R0, *]
 ·rintro v6_1 o1_1 e h ⟨u2,k3,rfl,h_1⟩ hge t1 ho
  unfold F106_1_D at ho;have w12:=kS a0;cases ho;simp only[simprocAttr, -Int.reduceNatCast',R0,b106_1, *];intro ht; subst ht;refine ai rfl (ei _ (ei _ (ai rfl ?_)));simp only[simprocAttr, -Int.reduceNatCast',R0, *]
theorem s106(a0:GDga)(a1:Int){r:List Int}(hF:F106 a0 a1=some r):ans A 106 [V.agg (qb a0),V.int .i64 a1]=some (enc r):=by
 refine qp (f:=p106) rfl rfl rfl fun e hl he=>?_;have h0_0:e.at 0=V.agg (qb a0):=he 0 _ rfl;have h1_0:e.at 1=V.int .i64 a1:=he 1 _ rfl;have hl_0:e.length=25:=hl;clear he hl;show W A b106 e ⟨[],0⟩ _;unfold F106 at hF;obtain⟨zo1_1,gt13,hF⟩:=bS hF;simp only[simprocAttr, -Int.reduceNatCast',R0,b106, *];refine W.mono (l106_1 a0 a1 gt13 (ei _ (ei _ (ai rfl ?_)))) ?_
 ·simp only[simprocAttr, -Int.reduceNatCast',R0, *]
 rintro _ e _ ⟨rfl,u2,k3,rfl,hl_4,h5_4⟩;have hE:=wB hF; subst hE;simp only[simprocAttr, -Int.reduceNatCast',R0, *];exact qc (by simp only[simprocAttr, -Int.reduceNatCast',R0,qd,p106,Rs.ev,qa,frzs (α:=Int) zo1_1,qG (α:=Int) zo1_1, *])
def F107_1_B(a2:Ar .u8 8)(x1:List Int)(v9_1:Int)(o2_1:(List Int)):Option (((List Int))⊕((List Int))):=
 (getI x1 v9_1).bind fun x7=>
(ixI 8 x7).bind fun n9=>
(chk (a2.val.getD n9 0)).bind fun x12=>
(app 8 o2_1 [x12]).bind fun l14=>
some (.inl l14)
def F107_1_D(a2:Ar .u8 8)(x1:List Int)(v9_1:Int)(o2_1:(List Int)):Option ((List Int)):=
 some o2_1
def F107(a0:GDga)(a1:Int)(a2:Ar .u8 8):Option (List Int):=
 (F106 a0 a1).bind fun x1=>
 (forR 0 (x1.length:Int) (F107_1_B a2 x1) (F107_1_D a2 x1) ([]:(List Int))).bind fun zo2_1=>
 some zo2_1
def I107_1(a2:Ar .u8 8)(x1:List Int)(v9_1:Int)(o2_1:(List Int))(e:Env)(h:Heap):Prop:=
 ∃u4 k5:Nat,h=⟨[(0,none),(0,none),(u4,some (o2_1.map enc))],k5⟩∧e.length=31∧e.at 5=V.iptr (arc .u8 8 a2.val)∧e.at 7=V.isl (x1.map enc)∧e.at 8=V.sl 2 u4 0 o2_1.length 1∧e.at 9=V.int .i64 v9_1
def P107_1(a2:Ar .u8 8)(x1:List Int)(zo2_1:(List Int))(x:Ex)(e:Env)(h:Heap):Prop:=
 x= .normal∧∃u4 k5:Nat,h=⟨[(0,none),(0,none),(u4,some (zo2_1.map enc))],k5⟩∧e.length=31∧e.at 8=V.sl 2 u4 0 zo2_1.length 1
theorem l107_1(a2:Ar .u8 8)(x1:List Int){lo:Int}{s:(List Int)}{t:(List Int)}(hF:forR lo (x1.length:Int) (F107_1_B a2 x1) (F107_1_D a2 x1) s=some t){e:Env}{h:Heap}(hI:I107_1 a2 x1 lo s e h):W A c107_1 e h (P107_1 a2 x1 t):=by
 show W A (.block 0 (.loop false b107_1)) e h _;rw[ql];refine qq hF 3 (by obtain⟨_,_,rfl,_⟩:=hI; rfl) (I107_1 a2 x1) hI ?_ ?_
 ·rintro v9_1 o2_1 e h ⟨u4,k5,rfl,h_3⟩ hlt hw o ho
  unfold F107_1_B at ho;obtain⟨x7,gx7,ho⟩:=bS ho;obtain⟨w8a,w8b⟩:=qm gx7;obtain⟨n9,gn9,ho⟩:=bS ho;obtain⟨w10a,w10b,w10c,w10d⟩:=qR gn9;have w11:=kA (l:=a2.val) w10d;obtain⟨x12,gx12,ho⟩:=bS ho;have wx12:=qx gx12;obtain⟨l14,gl14,ho⟩:=bS ho;have w13:=fun a b c d e=> qE (α:=Int) (n:=o2_1.length) (m:=1) (ds:=[V.int .i64 x12]) gl14 (by first|rfl|simp) (by first|rfl|simp) rfl a b c d e;have w13l:=qQ gl14;cases ho;simp only[simprocAttr, -Int.reduceNatCast',R0,b107_1, *];refine ai rfl (ei _ (ei _ (ai rfl ?_)));simp only[simprocAttr, -Int.reduceNatCast',R0, *]
 ·rintro v9_1 o2_1 e h ⟨u4,k5,rfl,h_3⟩ hge t1 ho
  unfold F107_1_D at ho;cases ho;simp only[simprocAttr, -Int.reduceNatCast',R0,b107_1, *];intro ht; subst ht;refine ai rfl (ei _ (ei _ (ai rfl ?_)));simp only[simprocAttr, -Int.reduceNatCast',R0, *]
theorem s107(a0:GDga)(a1:Int)(a2:Ar .u8 8){r:List Int}(hF:F107 a0 a1 a2=some r):ans A 107 [V.agg (qb a0),V.int .i64 a1,V.agg (arc .u8 8 a2.val)]=some (enc r):=by
 refine qp (f:=p107) rfl rfl rfl fun e hl he=>?_;have h0_0:e.at 0=V.agg (qb a0):=he 0 _ rfl;have h1_0:e.at 1=V.int .i64 a1:=he 1 _ rfl;have h2_0:e.at 2=V.agg (arc .u8 8 a2.val):=he 2 _ rfl;have hl_0:e.length=31:=hl;clear he hl;show W A b107 e ⟨[],0⟩ _;unfold F107 at hF;obtain⟨x1,gx1,hF⟩:=bS hF;have w2:=s106 a0 a1 gx1;obtain⟨zo2_1,gt15,hF⟩:=bS hF;simp only[simprocAttr, -Int.reduceNatCast',R0,b107, *];refine W.mono (l107_1 a2 x1 gt15 (ei _ (ei _ (ai rfl ?_)))) ?_
 ·simp only[simprocAttr, -Int.reduceNatCast',R0, *]
 rintro _ e _ ⟨rfl,u4,k5,rfl,hl_6,h8_6⟩;have hE:=wB hF; subst hE;simp only[simprocAttr, -Int.reduceNatCast',R0, *];exact qc (by simp only[simprocAttr, -Int.reduceNatCast',R0,qd,p107,Rs.ev,qa,frzs (α:=Int) zo2_1,qG (α:=Int) zo2_1, *])
def F65_2_B(a0:GDga)(o2_1:List Int)(o3_1:List (List (List Int)))(o4_1:List (List Int))(q5_0_1:Int)(v4_1:Int)(x14:List Int)(v8_2:Int)(s:(List Int)×(List (List Int))):Option (((List Int)×(List (List Int)))⊕((List Int)×(List (List Int)))):=
 match s with
 |(o6_2,o7_2)=>
  (getI x14 v8_2).bind fun x21=>
  (ixI 8 x21).bind fun n23=>
  (app 8 o6_2 [(a0.Levels.val.getD n23 0)]).bind fun l27=>
  (chk (v4_1 - 1)).bind fun x28=>
  (F107 a0 x28 ⟨(arP a0.Diff.val (n23*8) 8)⟩).bind fun x30=>
  (app 24 o7_2 [x30]).bind fun l33=>
  some (.inl (l27,l33))
def F65_2_D(a0:GDga)(o2_1:List Int)(o3_1:List (List (List Int)))(o4_1:List (List Int))(q5_0_1:Int)(v4_1:Int)(x14:List Int)(v8_2:Int)(s:(List Int)×(List (List Int))):Option ((List Int)×(List (List Int))):=
 match s with
 |(o6_2,o7_2)=>
  some (o6_2,o7_2)
def F65_1_S(a0:GDga)(s:(List Int)×(List (List (List Int)))×(List (List Int))×Int×Int):Option (((List Int)×(List (List (List Int)))×(List (List Int))×Int×Int)⊕((List Int)×(List (List (List Int)))×(List (List Int))×Int)):=
 match s with
 |(o2_1,o3_1,o4_1,q5_0_1,v4_1)=>
  (chk (a0.Size - 1)).bind fun x9=>
  (ixI 8 x9).bind fun n10=>
  if v4_1≤(a0.Degrees.val.getD n10 0)then
   (F106 a0 v4_1).bind fun x14=>
   (forR 0 (x14.length:Int) (F65_2_B a0 o2_1 o3_1 o4_1 q5_0_1 v4_1 x14) (F65_2_D a0 o2_1 o3_1 o4_1 q5_0_1 v4_1 x14) ([],[])).bind fun t34=> match t34 with
    |(zo6_2,zo7_2)=>
     (app 8 o2_1 [(x14.length:Int)]).bind fun l36=>
     (app 24 o4_1 [zo6_2]).bind fun l38=>
     if 0 < v4_1 then
      (app 24 o3_1 [zo7_2]).bind fun l41=>
      (chk (v4_1+1)).bind fun x42=>
      some (.inl (l36,l41,l38,q5_0_1,x42))
     else
      (chk (v4_1+1)).bind fun x43=>
      some (.inl (l36,o3_1,l38,q5_0_1,x43))
  else
   some (.inr (o2_1,o3_1,o4_1,q5_0_1))
def F65(a0:GDga):Option qg:=
 (jW (F65_1_S a0) 1000 ([],[],[],a0.Prime,0)).bind fun t44=> match t44 with
  |(zo2_1,zo3_1,zo4_1,zq5_0_1)=>
   some ⟨⟨zq5_0_1,zo2_1,zo3_1⟩,zo4_1⟩
def I65_2(a0:GDga)(o2_1:List Int)(o3_1:List (List (List Int)))(o4_1:List (List Int))(q5_0_1:Int)(v4_1:Int)(x14:List Int)(u3 u4 u5:Nat)(v8_2:Int)(s:(List Int)×(List (List Int)))(e:Env)(h:Heap):Prop:=
 match s with
 |(o6_2,o7_2)=>
  ∃u17 u18 k19:Nat,h=⟨[(0,none),(1,some [V.int .i64 0,V.nils,V.nils,V.nils]),(u3,some (o2_1.map enc)),(u4,some (o3_1.map enc)),(u5,some (o4_1.map enc)),(5,some [V.int .i64 q5_0_1,V.sl 2 u3 0 o2_1.length 1,V.sl 3 u4 0 o3_1.length 1,V.sl 4 u5 0 o4_1.length 1]),(u17,some (o6_2.map enc)),(u18,some (o7_2.map enc))],k19⟩∧e.length=87∧e.at 1=V.iptr (qb a0)∧e.at 2=V.ptr 1 1 0∧e.at 3=V.ptr 5 5 0∧e.at 4=V.int .i64 v4_1∧e.at 5=V.isl (x14.map enc)∧e.at 6=V.sl 6 u17 0 o6_2.length 1∧e.at 7=V.sl 7 u18 0 o7_2.length 1∧e.at 8=V.int .i64 v8_2
def P65_2(a0:GDga)(o2_1:List Int)(o3_1:List (List (List Int)))(o4_1:List (List Int))(q5_0_1:Int)(v4_1:Int)(x14:List Int)(u3 u4 u5:Nat)(t:(List Int)×(List (List Int)))(x:Ex)(e:Env)(h:Heap):Prop:=
 match t with
 |(zo6_2,zo7_2)=>
  x= .normal∧∃u17 u18 k19:Nat,h=⟨[(0,none),(1,some [V.int .i64 0,V.nils,V.nils,V.nils]),(u3,some (o2_1.map enc)),(u4,some (o3_1.map enc)),(u5,some (o4_1.map enc)),(5,some [V.int .i64 q5_0_1,V.sl 2 u3 0 o2_1.length 1,V.sl 3 u4 0 o3_1.length 1,V.sl 4 u5 0 o4_1.length 1]),(u17,some (zo6_2.map enc)),(u18,some (zo7_2.map enc))],k19⟩∧e.length=87∧e.at 1=V.iptr (qb a0)∧e.at 2=V.ptr 1 1 0∧e.at 3=V.ptr 5 5 0∧e.at 4=V.int .i64 v4_1∧e.at 5=V.isl (x14.map enc)∧e.at 6=V.sl 6 u17 0 zo6_2.length 1∧e.at 7=V.sl 7 u18 0 zo7_2.length 1
theorem l65_2(a0:GDga)(o2_1:List Int)(o3_1:List (List (List Int)))(o4_1:List (List Int))(q5_0_1:Int)(v4_1:Int)(x14:List Int)(u3 u4 u5:Nat){lo:Int}{s:(List Int)×(List (List Int))}{t:(List Int)×(List (List Int))}(hF:forR lo (x14.length:Int) (F65_2_B a0 o2_1 o3_1 o4_1 q5_0_1 v4_1 x14) (F65_2_D a0 o2_1 o3_1 o4_1 q5_0_1 v4_1 x14) s=some t){e:Env}{h:Heap}(hI:I65_2 a0 o2_1 o3_1 o4_1 q5_0_1 v4_1 x14 u3 u4 u5 lo s e h):W A c65_2 e h (P65_2 a0 o2_1 o3_1 o4_1 q5_0_1 v4_1 x14 u3 u4 u5 t):=by
 show W A (.block 2 (.loop false b65_2)) e h _;rw[ql];refine qq hF 8 (by rcases s with⟨_,_⟩; obtain⟨_,_,_,rfl,_⟩:=hI; rfl) (I65_2 a0 o2_1 o3_1 o4_1 q5_0_1 v4_1 x14 u3 u4 u5) hI ?_ ?_
 ·rintro v8_2 ⟨o6_2,o7_2⟩ e h ⟨u17,u18,k19,rfl,h_16⟩ hlt hw o ho
  unfold F65_2_B at ho;dsimp only at ho;obtain⟨x21,gx21,ho⟩:=bS ho;obtain⟨w22a,w22b⟩:=qm gx21;obtain⟨n23,gn23,ho⟩:=bS ho;obtain⟨w24a,w24b,w24c,w24d⟩:=qR gn23;have w25:=kL a0 w24d;obtain⟨l27,gl27,ho⟩:=bS ho;have w26:=fun a b c d e=> qE (α:=Int) (n:=o6_2.length) (m:=1) (ds:=[V.int .i64 (a0.Levels.val.getD n23 0)]) gl27 (by first|rfl|simp) (by first|rfl|simp) rfl a b c d e;have w26l:=qQ gl27;obtain⟨x28,gx28,ho⟩:=bS ho;have wx28:=qx gx28;have w29:=kI a0 w24d;have w29l:=kIl a0 w24d;obtain⟨x30,gx30,ho⟩:=bS ho;have w31:ans A 107 [V.agg (qb a0),V.int .i64 x28,V.agg (arc .u8 8 (arP a0.Diff.val (n23*8) 8))]=some (V.isl (x30.map enc)):=s107 a0 x28 ⟨(arP a0.Diff.val (n23*8) 8)⟩ gx30;obtain⟨l33,gl33,ho⟩:=bS ho;have w32:=fun a b c d e=> qE (α:=List Int) (n:=o7_2.length) (m:=1) (ds:=[V.isl (x30.map enc)]) gl33 (by first|rfl|simp) (by first|rfl|simp) rfl a b c d e;have w32l:=qQ gl33;cases ho;simp only[simprocAttr, -Int.reduceNatCast',R0,b65_2, *];refine ai rfl (ei _ (ei _ (ei _ (ai rfl ?_))));simp only[simprocAttr, -Int.reduceNatCast',R0, *]
 ·rintro v8_2 ⟨o6_2,o7_2⟩ e h ⟨u17,u18,k19,rfl,h_16⟩ hge t1 ho
  unfold F65_2_D at ho;dsimp only at ho;cases ho;simp only[simprocAttr, -Int.reduceNatCast',R0,b65_2, *];intro ht; subst ht;refine ai rfl (ei _ (ei _ (ei _ (ai rfl ?_))));simp only[simprocAttr, -Int.reduceNatCast',R0, *]
def I65_1(a0:GDga)(s:(List Int)×(List (List (List Int)))×(List (List Int))×Int×Int)(e:Env)(h:Heap):Prop:=
 match s with
 |(o2_1,o3_1,o4_1,q5_0_1,v4_1)=>
  ∃u3 u4 u5 k6:Nat,h=⟨[(0,none),(1,some [V.int .i64 0,V.nils,V.nils,V.nils]),(u3,some (o2_1.map enc)),(u4,some (o3_1.map enc)),(u5,some (o4_1.map enc)),(5,some [V.int .i64 q5_0_1,V.sl 2 u3 0 o2_1.length 1,V.sl 3 u4 0 o3_1.length 1,V.sl 4 u5 0 o4_1.length 1])],k6⟩∧e.length=87∧e.at 1=V.iptr (qb a0)∧e.at 2=V.ptr 1 1 0∧e.at 3=V.ptr 5 5 0∧e.at 4=V.int .i64 v4_1
def P65_1(a0:GDga)(t:(List Int)×(List (List (List Int)))×(List (List Int))×Int)(x:Ex)(e:Env)(h:Heap):Prop:=
 match t with
 |(zo2_1,zo3_1,zo4_1,zq5_0_1)=>
  x= .normal∧∃u3 u4 u5 k6:Nat,h=⟨[(0,none),(1,some [V.int .i64 0,V.nils,V.nils,V.nils]),(u3,some (zo2_1.map enc)),(u4,some (zo3_1.map enc)),(u5,some (zo4_1.map enc)),(5,some [V.int .i64 zq5_0_1,V.sl 2 u3 0 zo2_1.length 1,V.sl 3 u4 0 zo3_1.length 1,V.sl 4 u5 0 zo4_1.length 1])],k6⟩∧e.length=87∧e.at 2=V.ptr 1 1 0∧e.at 3=V.ptr 5 5 0
theorem l65_1(a0:GDga){s:(List Int)×(List (List (List Int)))×(List (List Int))×Int×Int}{t:(List Int)×(List (List (List Int)))×(List (List Int))×Int}(hF:loopW (F65_1_S a0) s=some t){e:Env}{h:Heap}(hI:I65_1 a0 s e h):W A c65_1 e h (P65_1 a0 t):=by
 show W A (.block 0 (.loop false b65_1)) e h _;rw[ql];refine W_loop hF 6 (by rcases s with⟨_,_,_,_,_⟩; obtain⟨_,_,_,_,rfl,_⟩:=hI; rfl) (I65_1 a0) hI ?_
 ·rintro⟨o2_1,o3_1,o4_1,q5_0_1,v4_1⟩ e h ⟨u3,u4,u5,k6,rfl,h_2⟩ o ho
  unfold F65_1_S at ho;dsimp only at ho;have w8:=kS a0;obtain⟨x9,gx9,ho⟩:=bS ho;have wx9:=qx gx9;obtain⟨n10,gn10,ho⟩:=bS ho;obtain⟨w11a,w11b,w11c,w11d⟩:=qR gn10;have w12:=kD a0 w11d;by_cases c13:v4_1≤(a0.Degrees.val.getD n10 0)
  ·rw[if_pos c13]at ho
   obtain⟨x14,gx14,ho⟩:=bS ho;have w15:ans A 106 [V.agg (qb a0),V.int .i64 v4_1]=some (V.isl (x14.map enc)):=s106 a0 v4_1 gx14;obtain⟨⟨zo6_2,zo7_2⟩,gt34,ho⟩:=bS ho;dsimp only at ho;simp only[simprocAttr, -Int.reduceNatCast',R0,b65_1,h_2,w8,wx9,w11a,w11b,w11c,w12,eq_true c13,w15];refine W.mono (l65_2 a0 o2_1 o3_1 o4_1 q5_0_1 v4_1 x14 u3 u4 u5 gt34 (ei _ (ei _ (ei _ (ai rfl ?_))))) ?_
   ·simp only[simprocAttr, -Int.reduceNatCast',R0,h_2,w8,wx9,w11a,w11b,w11c,w12,eq_true c13,w15]
   rintro _ e _ ⟨rfl,u17,u18,k19,rfl,h_20⟩;obtain⟨l36,gl36,ho⟩:=bS ho;have w35:=fun a b c d e=> qE (α:=Int) (n:=o2_1.length) (m:=1) (ds:=[V.int .i64 (x14.length:Int)]) gl36 (by first|rfl|simp) (by first|rfl|simp) rfl a b c d e;have w35l:=qQ gl36;obtain⟨l38,gl38,ho⟩:=bS ho;have w37:=fun a b c d e=> qE (α:=List Int) (n:=o4_1.length) (m:=1) (ds:=[V.isl (zo6_2.map enc)]) gl38 (by first|rfl|simp) (by first|rfl|simp) rfl a b c d e;have w37l:=qQ gl38;by_cases c39:0 < v4_1
   ·rw[if_pos c39]at ho
    obtain⟨l41,gl41,ho⟩:=bS ho;have w40:=fun a b c d e=> qE (α:=List (List Int)) (n:=o3_1.length) (m:=1) (ds:=[V.isl (zo7_2.map enc)]) gl41 (by first|rfl|simp) (by first|rfl|simp) rfl a b c d e;have w40l:=qQ gl41;obtain⟨x42,gx42,ho⟩:=bS ho;have wx42:=qx gx42;cases ho;simp only[simprocAttr, -Int.reduceNatCast',R0,h_20,eq_true c13,w35,qG (α:=Int) zo6_2,w37,eq_true c39,qG (α:=List Int) zo7_2,w40,wx42];refine ai rfl (ei _ (ei _ (ei _ (ei _ (ai rfl ?_)))));simp only[simprocAttr, -Int.reduceNatCast',R0,h_20,eq_true c13,w35,qG (α:=Int) zo6_2,w37,eq_true c39,qG (α:=List Int) zo7_2,w40,wx42]
   ·rw[if_neg c39]at ho
    obtain⟨x43,gx43,ho⟩:=bS ho;have wx43:=qx gx43;cases ho;simp only[simprocAttr, -Int.reduceNatCast',R0,h_20,eq_true c13,w35,qG (α:=Int) zo6_2,w37,eq_false c39,wx43];refine ai rfl (ei _ (ei _ (ei _ (ei _ (ai rfl ?_)))));simp only[simprocAttr, -Int.reduceNatCast',R0,h_20,eq_true c13,w35,qG (α:=Int) zo6_2,w37,eq_false c39,wx43]
  ·rw[if_neg c13]at ho
   cases ho;simp only[simprocAttr, -Int.reduceNatCast',R0,b65_1,h_2,w8,wx9,w11a,w11b,w11c,w12,eq_false c13];intro ht; subst ht;simp only[simprocAttr, -Int.reduceNatCast',RR,RB];refine ai rfl (ei _ (ei _ (ei _ (ei _ (ai rfl ?_)))));simp only[simprocAttr, -Int.reduceNatCast',R0,h_2,w8,wx9,w11a,w11b,w11c,w12,eq_false c13]
theorem s65(a0:GDga){r:qg}(hF:F65 a0=some r):ans A 65 [V.agg (qb a0)]=some (enc r):=by
 refine qp (f:=p65) rfl rfl rfl fun e hl he=>?_;have h0_0:e.at 0=V.agg (qb a0):=he 0 _ rfl;have hl_0:e.length=87:=hl;clear he hl;show W A b65 e ⟨[],0⟩ _;unfold F65 at hF;have w1:=kP a0;obtain⟨⟨zo2_1,zo3_1,zo4_1,zq5_0_1⟩,gt44,hF⟩:=bS hF;dsimp only at hF;simp only[simprocAttr,R0,b65, *];refine W.mono (l65_1 a0 (zQ gt44) (ei _ (ei _ (ei _ (ei _ (ai rfl ?_)))))) ?_
 ·simp only[simprocAttr,R0, *]
 rintro _ e _ ⟨rfl,u3,u4,u5,k6,rfl,h_7⟩;cases hF;simp only[simprocAttr,R0, *];exact qc (by simp only[simprocAttr,R0,qd,p65,Rs.ev,qa,frzs (α:=Int) zo2_1,qG (α:=Int) zo2_1,frzs (α:=List (List Int)) zo3_1,qG (α:=List (List Int)) zo3_1,frzs (α:=List Int) zo4_1,qG (α:=List Int) zo4_1, *])
def F54(a0:Int)(a1:Int)(a2:Int):Option Bool:=
 if a1≤a0 then
  some (decide (a0≤a2))
 else
  some false
theorem s54(a0:Int)(a1:Int)(a2:Int){r:Bool}(hF:F54 a0 a1 a2=some r):ans A 54 [V.int .i64 a0,V.int .i64 a1,V.int .i64 a2]=some (enc r):=by
 refine qp (f:=p54) rfl rfl rfl fun e hl he=>?_;have h0_0:e.at 0=V.int .i64 a0:=he 0 _ rfl;have h1_0:e.at 1=V.int .i64 a1:=he 1 _ rfl;have h2_0:e.at 2=V.int .i64 a2:=he 2 _ rfl;have hl_0:e.length=15:=hl;clear he hl;have h_0:=ai hl_0 (ai h0_0 (ai h1_0 h2_0));show W A b54 e ⟨[],0⟩ _;unfold F54 at hF;by_cases c1:a1≤a0
 ·rw[if_pos c1]at hF
  cases hF;simp only[simprocAttr,R0,b54, *];exact qc (by simp only[simprocAttr,R0,qd,p54,Rs.ev,qa, *])
 ·rw[if_neg c1]at hF
  cases hF;simp only[simprocAttr,R0,b54, *];exact qc (by simp only[simprocAttr,R0,qd,p54,Rs.ev,qa, *])
def F181_1_B(a0:Int)(a1:Int)(a2:Ar .u8 8)(v7_1:Int)(s:Unit):Option ((Unit)⊕((Unit)⊕Bool)):=
 (ixI 8 v7_1).bind fun n4=>
(chk (a2.val.getD n4 0)).bind fun x7=>
if a0≤x7 then
 some (.inr (.inr false))
else
 if a1≤v7_1 then
  if(a2.val.getD n4 0)=0 then
   some (.inl ())
  else
   some (.inr (.inr false))
 else
  some (.inl ())
def F181_1_D(a0:Int)(a1:Int)(a2:Ar .u8 8)(v7_1:Int)(s:Unit):Option ((Unit)⊕Bool):=
 some (.inl ())
def F181(a0:Int)(a1:Int)(a2:Ar .u8 8):Option Bool:=
 (forR 0 8 (F181_1_B a0 a1 a2) (F181_1_D a0 a1 a2) ()).bind fun t11=> match t11 with
  | .inl _=>
   some true
  | .inr r12=> some r12
def I181_1(a0:Int)(a1:Int)(a2:Ar .u8 8)(v7_1:Int)(s:Unit)(e:Env)(h:Heap):Prop:=
 ∃k2:Nat,h=⟨[(0,none)],k2⟩∧e.length=29∧e.at 0=V.int .i64 a0∧e.at 1=V.int .i64 a1∧e.at 5=V.iptr (arc .u8 8 a2.val)∧e.at 7=V.int .i64 v7_1
def P181_1(a0:Int)(a1:Int)(a2:Ar .u8 8)(t:(Unit)⊕Bool)(x:Ex)(e:Env)(h:Heap):Prop:=
 match t with
 | .inl _=> x= .normal∧∃k2:Nat,h=⟨[(0,none)],k2⟩∧e.length=29
 | .inr r=> x= .ret∧Fin p181 (enc r) .ret e h
theorem l181_1(a0:Int)(a1:Int)(a2:Ar .u8 8){lo:Int}{s:Unit}{t:(Unit)⊕Bool}(hF:forR lo 8 (F181_1_B a0 a1 a2) (F181_1_D a0 a1 a2) s=some t){e:Env}{h:Heap}(hI:I181_1 a0 a1 a2 lo s e h):W A c181_1 e h (P181_1 a0 a1 a2 t):=by
 show W A (.block 0 (.loop false b181_1)) e h _;rw[ql];refine qq hF 1 (by obtain⟨_,rfl,_⟩:=hI; rfl) (I181_1 a0 a1 a2) hI ?_ ?_
 ·rintro v7_1 _ e h ⟨k2,rfl,h_1⟩ hlt hw o ho
  unfold F181_1_B at ho;obtain⟨n4,gn4,ho⟩:=bS ho;obtain⟨w5a,w5b,w5c,w5d⟩:=qR gn4;have w6:=kA (l:=a2.val) w5d;obtain⟨x7,gx7,ho⟩:=bS ho;have wx7:=qx gx7;by_cases c8:a0≤x7
  ·rw[if_pos c8]at ho
   cases ho;simp only[simprocAttr,R0,b181_1,h_1,eq_true hlt,hw,w5a,w5b,w5c,w6,wx7,eq_true c8];intro ht; subst ht;simp only[simprocAttr,RR,RB];exact ai rfl (qc (by simp only[simprocAttr,R0,qd,p181,Rs.ev,qa,h_1,eq_true hlt,hw,w5a,w5b,w5c,w6,wx7,eq_true c8]))
  ·rw[if_neg c8]at ho
   by_cases c9:a1≤v7_1
   ·rw[if_pos c9]at ho
    by_cases c10:(a2.val.getD n4 0)=0
    ·rw[if_pos c10]at ho
     cases ho;simp only[simprocAttr,R0,b181_1,h_1,eq_true hlt,hw,w5a,w5b,w5c,w6,wx7,eq_false c8,eq_true c9,eq_true c10];refine ai rfl (ei _ (ai rfl ?_));simp only[simprocAttr,R0,h_1,eq_true hlt,hw,w5a,w5b,w5c,w6,wx7,eq_false c8,eq_true c9,eq_true c10]
    ·rw[if_neg c10]at ho
     cases ho;simp only[simprocAttr,R0,b181_1,h_1,eq_true hlt,hw,w5a,w5b,w5c,w6,wx7,eq_false c8,eq_true c9,eq_false c10];intro ht; subst ht;simp only[simprocAttr,RR,RB];exact ai rfl (qc (by simp only[simprocAttr,R0,qd,p181,Rs.ev,qa,h_1,eq_true hlt,hw,w5a,w5b,w5c,w6,wx7,eq_false c8,eq_true c9,eq_false c10]))
   ·rw[if_neg c9]at ho
    cases ho;simp only[simprocAttr,R0,b181_1,h_1,eq_true hlt,hw,w5a,w5b,w5c,w6,wx7,eq_false c8,eq_false c9];refine ai rfl (ei _ (ai rfl ?_));simp only[simprocAttr,R0,h_1,eq_true hlt,hw,w5a,w5b,w5c,w6,wx7,eq_false c8,eq_false c9]
 ·rintro v7_1 _ e h ⟨k2,rfl,h_1⟩ hge t1 ho
  unfold F181_1_D at ho;cases ho;simp only[simprocAttr,R0,b181_1,h_1,eq_false hge];intro ht; subst ht;refine ai rfl (ei _ (ai rfl ?_));simp only[simprocAttr,R0,h_1,eq_false hge]
theorem s181(a0:Int)(a1:Int)(a2:Ar .u8 8){r:Bool}(hF:F181 a0 a1 a2=some r):ans A 181 [V.int .i64 a0,V.int .i64 a1,V.agg (arc .u8 8 a2.val)]=some (enc r):=by
 refine qp (f:=p181) rfl rfl rfl fun e hl he=>?_;have h0_0:e.at 0=V.int .i64 a0:=he 0 _ rfl;have h1_0:e.at 1=V.int .i64 a1:=he 1 _ rfl;have h2_0:e.at 2=V.agg (arc .u8 8 a2.val):=he 2 _ rfl;have hl_0:e.length=29:=hl;clear he hl;have h_0:=ai hl_0 (ai h0_0 (ai h1_0 h2_0));show W A b181 e ⟨[],0⟩ _;unfold F181 at hF;obtain⟨t11,gt11,hF⟩:=bS hF;rcases t11 with _|r12
 ·dsimp only at hF
  simp only[simprocAttr,R0,b181, *];refine W.mono (l181_1 a0 a1 a2 gt11 (ei _ (ai rfl ?_))) ?_
  ·simp only[simprocAttr,R0, *]
  rintro _ e _ ⟨rfl,k2,rfl,hl_3⟩;cases hF;simp only[simprocAttr,R0, *];exact qc (by simp only[simprocAttr,R0,qd,p181,Rs.ev,qa, *])
 ·dsimp only at hF
  cases hF;simp only[simprocAttr,R0,b181, *];refine W.mono (l181_1 a0 a1 a2 gt11 (ei _ (ai rfl ?_))) ?_
  ·simp only[simprocAttr,R0, *]
  rintro _ e h ⟨rfl,hq⟩;simp only[simprocAttr,RR,RB];exact hq
def F210_1_B(a0:GDga)(a1:Ar .u8 8)(a2:Int)(a3:Int)(v9_1:Int)(s:Unit):Option ((Unit)⊕((Unit)⊕Bool)):=
 (ixI 8 v9_1).bind fun n5=>
if(a1.val.getD n5 0)=0 then
 some (.inl ())
else
 if(a0.Degrees.val.getD n5 0)=a2 then
  if a3 < (a0.Levels.val.getD n5 0)then
   some (.inr (.inr false))
  else
   some (.inl ())
 else
  some (.inr (.inr false))
def F210_1_D(a0:GDga)(a1:Ar .u8 8)(a2:Int)(a3:Int)(v9_1:Int)(s:Unit):Option ((Unit)⊕Bool):=
 some (.inl ())
def F210(a0:GDga)(a1:Ar .u8 8)(a2:Int)(a3:Int):Option Bool:=
 (forR 0 a0.Size (F210_1_B a0 a1 a2 a3) (F210_1_D a0 a1 a2 a3) ()).bind fun t14=> match t14 with
  | .inl _=>
   some true
  | .inr r15=> some r15
def I210_1(a0:GDga)(a1:Ar .u8 8)(a2:Int)(a3:Int)(v9_1:Int)(s:Unit)(e:Env)(h:Heap):Prop:=
 ∃k2:Nat,h=⟨[(0,none),(0,none)],k2⟩∧e.length=36∧e.at 2=V.int .i64 a2∧e.at 3=V.int .i64 a3∧e.at 4=V.iptr (qb a0)∧e.at 5=V.iptr (arc .u8 8 a1.val)∧e.at 9=V.int .i64 v9_1
def P210_1(a0:GDga)(a1:Ar .u8 8)(a2:Int)(a3:Int)(t:(Unit)⊕Bool)(x:Ex)(e:Env)(h:Heap):Prop:=
 match t with
 | .inl _=> x= .normal∧∃k2:Nat,h=⟨[(0,none),(0,none)],k2⟩∧e.length=36
 | .inr r=> x= .ret∧Fin p210 (enc r) .ret e h
theorem l210_1(a0:GDga)(a1:Ar .u8 8)(a2:Int)(a3:Int){lo:Int}{s:Unit}{t:(Unit)⊕Bool}(hF:forR lo a0.Size (F210_1_B a0 a1 a2 a3) (F210_1_D a0 a1 a2 a3) s=some t){e:Env}{h:Heap}(hI:I210_1 a0 a1 a2 a3 lo s e h):W A c210_1 e h (P210_1 a0 a1 a2 a3 t):=by
 show W A (.block 0 (.loop false b210_1)) e h _;rw[ql];refine qq hF 2 (by obtain⟨_,rfl,_⟩:=hI; rfl) (I210_1 a0 a1 a2 a3) hI ?_ ?_
 ·rintro v9_1 _ e h ⟨k2,rfl,h_1⟩ hlt hw o ho
  unfold F210_1_B at ho;have w4:=kS a0;obtain⟨n5,gn5,ho⟩:=bS ho;obtain⟨w6a,w6b,w6c,w6d⟩:=qR gn5;have w7:=kA (l:=a1.val) w6d;by_cases c8:(a1.val.getD n5 0)=0
  ·rw[if_pos c8]at ho
   cases ho;simp only[simprocAttr, -Int.reduceNatCast',R0,b210_1, *];refine ai rfl (ei _ (ai rfl ?_));simp only[simprocAttr, -Int.reduceNatCast',R0, *]
  ·rw[if_neg c8]at ho
   have w9:=kD a0 w6d;by_cases c10:(a0.Degrees.val.getD n5 0)=a2
   ·rw[if_pos c10]at ho
    have w11:=kL a0 w6d;by_cases c12:a3 < (a0.Levels.val.getD n5 0)
    ·rw[if_pos c12]at ho
     cases ho;simp only[simprocAttr, -Int.reduceNatCast',R0,b210_1, *];intro ht; subst ht;simp only[simprocAttr, -Int.reduceNatCast',RR,RB];exact ai rfl (qc (by simp only[simprocAttr, -Int.reduceNatCast',R0,qd,p210,Rs.ev,qa, *]))
    ·rw[if_neg c12]at ho
     cases ho;simp only[simprocAttr, -Int.reduceNatCast',R0,b210_1, *];refine ai rfl (ei _ (ai rfl ?_));simp only[simprocAttr, -Int.reduceNatCast',R0, *]
   ·rw[if_neg c10]at ho
    cases ho;simp only[simprocAttr, -Int.reduceNatCast',R0,b210_1, *];intro ht; subst ht;simp only[simprocAttr, -Int.reduceNatCast',RR,RB];exact ai rfl (qc (by simp only[simprocAttr, -Int.reduceNatCast',R0,qd,p210,Rs.ev,qa, *]))
 ·rintro v9_1 _ e h ⟨k2,rfl,h_1⟩ hge t1 ho
  unfold F210_1_D at ho;have w13:=kS a0;cases ho;simp only[simprocAttr, -Int.reduceNatCast',R0,b210_1, *];intro ht; subst ht;refine ai rfl (ei _ (ai rfl ?_));simp only[simprocAttr, -Int.reduceNatCast',R0, *]
theorem s210(a0:GDga)(a1:Ar .u8 8)(a2:Int)(a3:Int){r:Bool}(hF:F210 a0 a1 a2 a3=some r):ans A 210 [V.agg (qb a0),V.agg (arc .u8 8 a1.val),V.int .i64 a2,V.int .i64 a3]=some (enc r):=by
 refine qp (f:=p210) rfl rfl rfl fun e hl he=>?_;have h0_0:e.at 0=V.agg (qb a0):=he 0 _ rfl;have h1_0:e.at 1=V.agg (arc .u8 8 a1.val):=he 1 _ rfl;have h2_0:e.at 2=V.int .i64 a2:=he 2 _ rfl;have h3_0:e.at 3=V.int .i64 a3:=he 3 _ rfl;have hl_0:e.length=36:=hl;clear he hl;have h_0:=ai hl_0 (ai h0_0 (ai h1_0 (ai h2_0 h3_0)));show W A b210 e ⟨[],0⟩ _;unfold F210 at hF;obtain⟨t14,gt14,hF⟩:=bS hF;rcases t14 with _|r15
 ·dsimp only at hF
  simp only[simprocAttr,R0,b210, *];refine W.mono (l210_1 a0 a1 a2 a3 gt14 (ei _ (ai rfl ?_))) ?_
  ·simp only[simprocAttr,R0, *]
  rintro _ e _ ⟨rfl,k2,rfl,hl_3⟩;cases hF;simp only[simprocAttr,R0, *];exact qc (by simp only[simprocAttr,R0,qd,p210,Rs.ev,qa, *])
 ·dsimp only at hF
  cases hF;simp only[simprocAttr,R0,b210, *];refine W.mono (l210_1 a0 a1 a2 a3 gt14 (ei _ (ai rfl ?_))) ?_
  ·simp only[simprocAttr,R0, *]
  rintro _ e h ⟨rfl,hq⟩;simp only[simprocAttr,RR,RB];exact hq
end
end Rv
