/- What the abstract code answers: typed functions, part 2. -/
import Derived.Test.YtgiabfngopkpmaaGreatBss0
set_option maxHeartbeats 8000000
namespace Rv
open Enc (enc)
set_option linter.unusedVariables false
set_option linter.unusedSimpArgs false
set_option maxRecDepth 100000
noncomputable section
def F84(a0:Int)(a1:Int)(a2:Int)(a3:Int)(d0:Bool)(d1:GFiltered):Option Bool:=
 if d0=true then
  if a3=0 then
   some true
  else
   (chk (a0 - 1)).bind fun x2=>
   (getI d1.Levels x2).bind fun x3=>
   (getI x3 a2).bind fun x5=>
   (getI d1.Levels a0).bind fun x7=>
   (getI x7 a1).bind fun x9=>
   some (decide (x5≤x9))
 else
  some false
theorem q84(r0:Nat×Option (List V))(r1:Nat×Option (List V))(uid clk:Nat)(G:List (Nat×Option (List V)))(a0:Int)(a1:Int)(a2:Int)(a3:Int)(d0:Bool)(d1:GFiltered){r:Bool}(hF:F84 a0 a1 a2 a3 d0 d1=some r):res A 84 [V.int .i64 a0,V.int .i64 a1,V.int .i64 a2,V.int .i64 a3,V.ptr 2 uid 0,V.iptr [V.int .i64 d1.Complex.Prime,V.isl (d1.Complex.Dims.map enc),V.isl (d1.Complex.Maps.map enc),V.isl (d1.Levels.map enc)]] ⟨r0::r1::(uid,some [V.bool d0])::G,clk⟩=some (V.undef,⟨r0::r1::(uid,some [V.bool r])::G,clk⟩):=by
 refine res_of (f:=p84) rfl rfl rfl fun e hl he=>?_;have h0_0:e.at 0=V.int .i64 a0:=he 0 _ rfl;have h1_0:e.at 1=V.int .i64 a1:=he 1 _ rfl;have h2_0:e.at 2=V.int .i64 a2:=he 2 _ rfl;have h3_0:e.at 3=V.int .i64 a3:=he 3 _ rfl;have h4_0:e.at 4=V.ptr 2 uid 0:=he 4 _ rfl;have h5_0:e.at 5=V.iptr [V.int .i64 d1.Complex.Prime,V.isl (d1.Complex.Dims.map enc),V.isl (d1.Complex.Maps.map enc),V.isl (d1.Levels.map enc)]:=he 5 _ rfl;have hl_0:e.length=35:=hl;clear he hl;have h_0:=ai hl_0 (ai h0_0 (ai h1_0 (ai h2_0 (ai h3_0 (ai h4_0 h5_0)))));show W A b84 e _ _;unfold F84 at hF;cases d0 with
 |true=>
  rw[if_pos rfl]at hF;by_cases c1:a3=0
  ·rw[if_pos c1]at hF
   cases hF;simp only[simprocAttr,R0,b84, *];refine rfin_normal ?_ ?_
   ·simp only[simprocAttr,R0,qb,p84,mapO]; rfl
   ·simp only[simprocAttr,R0, *]
  ·rw[if_neg c1]at hF
   obtain⟨x2,gx2,hF⟩:=bS hF;have wx2:=qm gx2;obtain⟨x3,gx3,hF⟩:=bS hF;obtain⟨w4a,w4b⟩:=qf gx3;obtain⟨x5,gx5,hF⟩:=bS hF;obtain⟨w6a,w6b⟩:=qf gx5;obtain⟨x7,gx7,hF⟩:=bS hF;obtain⟨w8a,w8b⟩:=qf gx7;obtain⟨x9,gx9,hF⟩:=bS hF;obtain⟨w10a,w10b⟩:=qf gx9;cases hF;simp only[simprocAttr,R0,b84, *];refine rfin_normal ?_ ?_
   ·simp only[simprocAttr,R0,qb,p84,mapO]; rfl
   ·simp only[simprocAttr,R0, *]
 |false=>
  rw[if_neg wE]at hF;cases hF;simp only[simprocAttr,R0,b84, *];refine rfin_normal ?_ ?_
  ·simp only[simprocAttr,R0,qb,p84,mapO]; rfl
  ·simp only[simprocAttr,R0, *]
def F85{σ:Type}(ms:List (List (List Int)))(f:Int→Int→Int→Int→σ→Option σ)(s:σ):Option σ:=
 forR 0 (ms.length:Int) (fun k s=>(getI ms k).bind fun rows=>(forR 0 (rows.length:Int) (fun i s=>(getI rows i).bind fun row=>
  (forR 0 (row.length:Int) (fun j s=>(getI row j).bind fun v=>(chk (k+1)).bind fun n=>(f n i j v s).bind fun s'=> some (.inl s')) (fun _ s=> some s) s).bind fun s'=> some (.inl s')) (fun _ s=> some s) s).bind fun s'=> some (.inl s')) (fun _ s=> some s) s
structure Step4 (g:Nat) (fs cs:List V) {σ:Type} (S:σ→List (Nat×Option (List V))→Prop) (f:Int→Int→Int→Int→σ→Option σ):Prop where
 call:∀n r p v s s',f n r p v s=some s'→∀E c,S s E→∃E' c',res A g (fs++[V.int .i64 n,V.int .i64 r,V.int .i64 p,V.int .i64 v]++cs) ⟨E,c⟩=some (V.undef,⟨E',c'⟩)∧S s' E'
 pad:∀s E x,S s E→S s (E++[x])
theorem e85{g:Nat}{fs cs:List V}{σ:Type}{S:σ→List (Nat×Option (List V))→Prop}{f:Int→Int→Int→Int→σ→Option σ}(st:Step4 g fs cs S f)(x:GComplex){s s':σ}(hF:F85 x.Maps f s=some s')(E:List (Nat×Option (List V)))(c:Nat)(hS:S s E):
  ∃h',res A 85 [V.agg [V.int .i64 x.Prime,V.isl (List.map enc x.Dims),V.isl (List.map enc x.Maps)],V.fn g fs cs] ⟨E,c⟩=some (V.undef,h')∧S s' h'.ents:=by
 refine res_ex (f:=p85) rfl rfl rfl fun e hl he=>?_;have h0:e.at 0=V.agg [V.int .i64 x.Prime,V.isl (List.map enc x.Dims),V.isl (List.map enc x.Maps)]:=he 0 _ rfl;have h1:e.at 1=V.fn g fs cs:=he 1 _ rfl;have hl_0:e.length=42:=hl;clear he hl;show W A b85 e ⟨E,c⟩ _;unfold F85 at hF;simp only[simprocAttr, -Int.reduceNatCast',R0,b85,h0,h1,qH,set_last, *];show W A (.block 0 (.loop true b85_1)) _ _ _;rw[qh];refine qv hF _ rfl (fun i s e h=> S s h.ents∧e.length=42∧e.at 1=V.fn g fs cs∧e.at 11=V.isl (List.map enc x.Maps)∧e.at 12=V.int .i64 (x.Maps.length:Int)∧e.at 13=V.int .i64 i) ?_ ?_ ?_
 ·refine ai (st.pad _ _ _ hS) ?_
  simp only[simprocAttr, -Int.reduceNatCast',R0,h0,h1, *]
 ·rintro i s e ⟨E,c⟩ ⟨hS,hl_1,h1_1,h11_1,h12_1,h13_1⟩ hlt hw o ho
  obtain⟨rows,g1,ho⟩:=bS ho;obtain⟨w1a,w1b⟩:=qf g1;obtain⟨z,g2,ho⟩:=bS ho;have hE:=wA ho; subst hE;simp only[simprocAttr, -Int.reduceNatCast',R0,b85_1, *];refine W.mono (Q:=fun x' e h=> x'= .normal∧S z h.ents∧e.length=42∧e.at 1=V.fn g fs cs∧e.at 11=V.isl (List.map enc x.Maps)∧e.at 12=V.int .i64 (x.Maps.length:Int)∧e.at 13=V.int .i64 i) ?_ ?_
  rotate_left
  ·rintro _ e ⟨E2,c2⟩ ⟨rfl,hS2,hl_2,h1_2,h11_2,h12_2,h13_2⟩
   simp only[simprocAttr, -Int.reduceNatCast',R0, *];refine ai rfl (ai hS2 ?_);simp only[simprocAttr, -Int.reduceNatCast',R0, *]
  show W A (.block 2 (.loop true b85_2)) _ _ _;rw[qh];refine qv g2 _ rfl (fun j s e h=> S s h.ents∧e.length=42∧e.at 1=V.fn g fs cs∧e.at 11=V.isl (List.map enc x.Maps)∧e.at 12=V.int .i64 (x.Maps.length:Int)∧e.at 13=V.int .i64 i∧e.at 4=V.int .i64 i∧e.at 18=V.isl (List.map enc rows)∧e.at 19=V.int .i64 (rows.length:Int)∧e.at 20=V.int .i64 j) ?_ ?_ ?_
  ·refine ai hS ?_
   simp only[simprocAttr, -Int.reduceNatCast',R0, *]
  ·clear hl_1 h1_1 h11_1 h12_1 h13_1
   rintro j s e ⟨E,c⟩ ⟨hS,hl_1,h1_1,h11_1,h12_1,h13_1,h4_1,h18_1,h19_1,h20_1⟩ hlt2 hw2 o ho;obtain⟨row,g3,ho⟩:=bS ho;obtain⟨w3a,w3b⟩:=qf g3;obtain⟨z2,g4,ho⟩:=bS ho;have hE:=wA ho; subst hE;simp only[simprocAttr, -Int.reduceNatCast',R0,b85_2, *];refine W.mono (Q:=fun x' e h=> x'= .normal∧S z2 h.ents∧e.length=42∧e.at 1=V.fn g fs cs∧e.at 11=V.isl (List.map enc x.Maps)∧e.at 12=V.int .i64 (x.Maps.length:Int)∧e.at 13=V.int .i64 i∧e.at 4=V.int .i64 i∧e.at 18=V.isl (List.map enc rows)∧e.at 19=V.int .i64 (rows.length:Int)∧e.at 20=V.int .i64 j) ?_ ?_
   rotate_left
   ·rintro _ e ⟨E2,c2⟩ ⟨rfl,hS2,hl_2,h1_2,h11_2,h12_2,h13_2,h4_2,h18_2,h19_2,h20_2⟩
    simp only[simprocAttr, -Int.reduceNatCast',R0, *];refine ai rfl (ai hS2 ?_);simp only[simprocAttr, -Int.reduceNatCast',R0, *]
   show W A (.block 4 (.loop true b85_3)) _ _ _;rw[qh];refine qv g4 _ rfl (fun k s e h=> S s h.ents∧e.length=42∧e.at 1=V.fn g fs cs∧e.at 11=V.isl (List.map enc x.Maps)∧e.at 12=V.int .i64 (x.Maps.length:Int)∧e.at 13=V.int .i64 i∧e.at 4=V.int .i64 i∧e.at 18=V.isl (List.map enc rows)∧e.at 19=V.int .i64 (rows.length:Int)∧e.at 20=V.int .i64 j∧e.at 6=V.int .i64 j∧e.at 25=V.isl (List.map enc row)∧e.at 26=V.int .i64 (row.length:Int)∧e.at 27=V.int .i64 k) ?_ ?_ ?_
   ·refine ai hS ?_
    simp only[simprocAttr, -Int.reduceNatCast',R0, *]
   ·clear hl_1 h1_1 h11_1 h12_1 h13_1 h4_1 h18_1 h19_1 h20_1
    rintro k s e ⟨E,c⟩ ⟨hS,hl_1,h1_1,h11_1,h12_1,h13_1,h4_1,h18_1,h19_1,h20_1,h6_1,h25_1,h26_1,h27_1⟩ hlt3 hw3 o ho;obtain⟨v,g5,ho⟩:=bS ho;obtain⟨w5a,w5b⟩:=qf g5;obtain⟨n,g6,ho⟩:=bS ho;have w6:=qm g6;obtain⟨s2,g7,ho⟩:=bS ho;have hE:=wA ho; subst hE;obtain⟨E2,c2,hr,hS2⟩:=st.call _ _ _ _ _ _ g7 E c hS;simp only[simprocAttr, -Int.reduceNatCast',R0,b85_3,hl_1,h1_1,h11_1,h12_1,h13_1,h4_1,h18_1,h19_1,h20_1,h6_1,h25_1,h26_1,h27_1,eq_true hlt3,hw3,w5a,w5b,w6,qx,wR]at hr ⊢;simp only[simprocAttr, -Int.reduceNatCast',R0,hr, *];refine ai rfl (ai hS2 ?_);simp only[simprocAttr, -Int.reduceNatCast',R0, *]
   ·clear hl_1 h1_1 h11_1 h12_1 h13_1 h4_1 h18_1 h19_1 h20_1
    rintro k s e ⟨E,c⟩ ⟨hS,hl_1,h1_1,h11_1,h12_1,h13_1,h4_1,h18_1,h19_1,h20_1,h6_1,h25_1,h26_1,h27_1⟩ hge t1 ho;have hE:=wA ho; subst hE;simp only[simprocAttr, -Int.reduceNatCast',R0,b85_3, *];intro ht; subst ht;exact hS
  ·clear hl_1 h1_1 h11_1 h12_1 h13_1
   rintro j s e ⟨E,c⟩ ⟨hS,hl_1,h1_1,h11_1,h12_1,h13_1,h4_1,h18_1,h19_1,h20_1⟩ hge t1 ho;have hE:=wA ho; subst hE;simp only[simprocAttr, -Int.reduceNatCast',R0,b85_2, *];intro ht; subst ht;exact hS
 ·rintro i s e ⟨E,c⟩ ⟨hS,hl_1,h1_1,h11_1,h12_1,h13_1⟩ hge t1 ho
  have hE:=wA ho; subst hE;simp only[simprocAttr, -Int.reduceNatCast',R0,b85_1, *];intro ht; subst ht;refine ai (fun i=> by simp only[ne_eq,reduceCtorEq,not_false_eq_true]) (ai ?_ hS);simp only[simprocAttr, -Int.reduceNatCast',R1,qb,p85,mapO];rfl
def F41_1_B(a0:GFiltered)(v24_1:Int)(s:Unit):Option ((Unit)⊕((Unit)⊕Bool)):=
 (getI a0.Levels v24_1).bind fun x7=>
(getI a0.Complex.Dims v24_1).bind fun x11=>
if(x7.length:Int)=x11 then
 (F82 x7 (fun x=> F83 x)).bind fun x14=>
 if x14=true then
  some (.inr (.inr false))
 else
  some (.inl ())
else
 some (.inr (.inr false))
def F41_1_D(a0:GFiltered)(v24_1:Int)(s:Unit):Option ((Unit)⊕Bool):=
 some (.inl ())
def F41(a0:GFiltered):Option Bool:=
 (F42 a0.Complex).bind fun x1=>
 if x1=true then
  if(a0.Levels.length:Int)=(a0.Complex.Dims.length:Int)then
   (forR 0 (a0.Levels.length:Int) (F41_1_B a0) (F41_1_D a0) ()).bind fun t16=> match t16 with
    | .inl _=>
     (F85 a0.Complex.Maps (fun n r p v s=> F84 n r p v s a0) true).bind fun y17=>
     some y17
    | .inr r21=> some r21
  else
   some false
 else
  some false
def I41_1(a0:GFiltered)(v24_1:Int)(s:Unit)(e:Env)(h:Heap):Prop:=
 ∃k5:Nat,h=⟨[(0,none),(1,some [V.int .i64 a0.Complex.Prime,V.isl (a0.Complex.Dims.map enc),V.isl (a0.Complex.Maps.map enc)])],k5⟩∧e.length=46∧e.at 1=V.iptr [V.int .i64 a0.Complex.Prime,V.isl (a0.Complex.Dims.map enc),V.isl (a0.Complex.Maps.map enc),V.isl (a0.Levels.map enc)]∧e.at 3=V.ptr 1 1 0∧e.at 22=V.isl (a0.Levels.map enc)∧e.at 23=V.int .i64 (a0.Levels.length:Int)∧e.at 24=V.int .i64 v24_1
def P41_1(a0:GFiltered)(t:(Unit)⊕Bool)(x:Ex)(e:Env)(h:Heap):Prop:=
 match t with
 | .inl _=> x= .normal∧∃k5:Nat,h=⟨[(0,none),(1,some [V.int .i64 a0.Complex.Prime,V.isl (a0.Complex.Dims.map enc),V.isl (a0.Complex.Maps.map enc)])],k5⟩∧e.length=46∧e.at 1=V.iptr [V.int .i64 a0.Complex.Prime,V.isl (a0.Complex.Dims.map enc),V.isl (a0.Complex.Maps.map enc),V.isl (a0.Levels.map enc)]∧e.at 3=V.ptr 1 1 0
 | .inr r=> x= .ret∧Fin p41 (enc r) .ret e h
theorem l41_1(a0:GFiltered){lo:Int}{s:Unit}{t:(Unit)⊕Bool}(hF:forR lo (a0.Levels.length:Int) (F41_1_B a0) (F41_1_D a0) s=some t){e:Env}{h:Heap}(hI:I41_1 a0 lo s e h):W A c41_1 e h (P41_1 a0 t):=by
 show W A (.block 0 (.loop false b41_1)) e h _;rw[qh];refine qv hF 2 (by obtain⟨_,rfl,_⟩:=hI; rfl) (I41_1 a0) hI ?_ ?_
 ·rintro v24_1 _ e h ⟨k5,rfl,h_4⟩ hlt hw o ho
  unfold F41_1_B at ho;obtain⟨x7,gx7,ho⟩:=bS ho;obtain⟨w8a,w8b⟩:=qf gx7;have w10:ans A 73 [V.isl (x7.map enc)]=some (V.int .i64 (x7.length:Int)):=s73 x7 rfl;obtain⟨x11,gx11,ho⟩:=bS ho;obtain⟨w12a,w12b⟩:=qf gx11;by_cases c13:(x7.length:Int)=x11
  ·rw[if_pos c13]at ho
   obtain⟨x14,gx14,ho⟩:=bS ho;have w15:ans A 82 [V.isl (x7.map enc),V.fn 83 [] []]=some (V.bool x14):=s82 x7 (fun x=> F83 x) (Clo1.of (by intro h f; simp only[RZ,mapO]) (by intro h f; simp only[RZ,mapO]) (by intro f; simp only[RZ,RB]) (by intro f; simp only[RZ,RB]) (fun x _ hr=> s83 x hr)) gx14;cases x14 with
   |true=>
    rw[if_pos rfl]at ho;cases ho;simp only[simprocAttr,R0,b41_1, *];intro ht;(first|subst ht|cases t);simp only[simprocAttr,RR,RB];exact ai rfl (qd (by simp only[simprocAttr,R0,qb,p41,Rs.ev,qa, *]))
   |false=>
    rw[if_neg wE]at ho;cases ho;simp only[simprocAttr,R0,b41_1, *];refine ai rfl (ei _ (ai rfl ?_));simp only[simprocAttr,R0, *]
  ·rw[if_neg c13]at ho
   cases ho;simp only[simprocAttr,R0,b41_1, *];intro ht;(first|subst ht|cases t);simp only[simprocAttr,RR,RB];exact ai rfl (qd (by simp only[simprocAttr,R0,qb,p41,Rs.ev,qa, *]))
 ·rintro v24_1 _ e h ⟨k5,rfl,h_4⟩ hge t1 ho
  unfold F41_1_D at ho;cases ho;simp only[simprocAttr,R0,b41_1, *];intro ht;(first|subst ht|cases t);refine ai rfl (ei _ (ai rfl ?_));simp only[simprocAttr,R0, *]
theorem s41(a0:GFiltered){r:Bool}(hF:F41 a0=some r):ans A 41 [(eF a0)]=some (enc r):=by
 refine qp (f:=p41) rfl rfl rfl fun e hl he=>?_;have h0_0:e.at 0=(eF a0):=he 0 _ rfl;have hl_0:e.length=46:=hl;clear he hl;have h_0:=ai hl_0 h0_0;show W A b41 e ⟨[],0⟩ _;unfold F41 at hF;obtain⟨x1,gx1,hF⟩:=bS hF;have w2:=s42 a0.Complex gx1;cases x1 with
 |true=>
  rw[if_pos rfl]at hF;by_cases c3:(a0.Levels.length:Int)=(a0.Complex.Dims.length:Int)
  ·rw[if_pos c3]at hF
   obtain⟨t16,gt16,hF⟩:=bS hF;rcases t16 with _|r21
   ·dsimp only at hF
    simp only[simprocAttr,R0,b41, *];refine W.mono (l41_1 a0 gt16 (ei _ (ai rfl ?_))) ?_
    ·simp only[simprocAttr,R0, *]
    rintro _ e _ ⟨rfl,k5,rfl,h_6⟩;obtain⟨y17,gy17,hF⟩:=bS hF;have w18:=e85 (g:=84) (fs:=[]) (cs:=[V.ptr 2 k5 0,V.iptr [V.int .i64 a0.Complex.Prime,V.isl (a0.Complex.Dims.map enc),V.isl (a0.Complex.Maps.map enc),V.isl (a0.Levels.map enc)]]) (S:=(fun(s:Bool) E=>∃G,E=(0,none)::(1,some [V.int .i64 a0.Complex.Prime,V.isl (a0.Complex.Dims.map enc),V.isl (a0.Complex.Maps.map enc)])::(k5,some [V.bool s])::G)) (f:=(fun n r p v s=> F84 n r p v s a0)) ⟨fun n r p v s s' hs E c hS=>(by obtain⟨G,rfl⟩:=hS; exact⟨_,_,q84 (0,none) (1,some [V.int .i64 a0.Complex.Prime,V.isl (a0.Complex.Dims.map enc),V.isl (a0.Complex.Maps.map enc)]) k5 _ _ n r p v s a0 hs,G,rfl⟩),fun s E x hS=>(by obtain⟨G,rfl⟩:=hS; exact⟨G++[x],rfl⟩)⟩ a0.Complex gy17 _ (k5+1) ⟨[],rfl⟩;obtain⟨⟨w18E,k20⟩,w18,G19,w18h⟩:=w18;dsimp only at w18h;subst w18h;cases hF;simp only[simprocAttr,R0,qx, *];exact qd (by simp only[simprocAttr,R0,qb,p41,Rs.ev,qa,qx, *])
   ·dsimp only at hF
    cases hF;simp only[simprocAttr,R0,b41, *];refine W.mono (l41_1 a0 gt16 (ei _ (ai rfl ?_))) ?_
    ·simp only[simprocAttr,R0, *]
    rintro _ e h ⟨rfl,hq⟩;simp only[simprocAttr,RR,RB];exact hq
  ·rw[if_neg c3]at hF
   cases hF;simp only[simprocAttr,R0,b41, *];exact qd (by simp only[simprocAttr,R0,qb,p41,Rs.ev,qa, *])
 |false=>
  rw[if_neg wE]at hF;cases hF;simp only[simprocAttr,R0,b41, *];exact qd (by simp only[simprocAttr,R0,qb,p41,Rs.ev,qa, *])
def F96(a0:List Int):Option (List Int):=app 8 [] a0
theorem t96(a0:List Int){r:List Int}(hF:F96 a0=some r):tans A 96 [1] [V.isl (a0.map enc)]=some (enc r):=clone_tans rfl hF
def F137(a0:List Int)(d0:Int):Option Bool:=
 (getI a0 d0).bind fun x1=>
 some (!(decide (x1=0)))
theorem s137(a0:List Int)(d0:Int){r:Bool}(hF:F137 a0 d0=some r):ans A 137 [V.isl (a0.map enc),V.iptr [V.int .i64 d0]]=some (enc r):=by
 refine qp (f:=p137) rfl rfl rfl fun e hl he=>?_;have h0_0:e.at 0=V.isl (a0.map enc):=he 0 _ rfl;have h1_0:e.at 1=V.iptr [V.int .i64 d0]:=he 1 _ rfl;have hl_0:e.length=9:=hl;clear he hl;show W A b137 e ⟨[],0⟩ _;unfold F137 at hF;obtain⟨x1,gx1,hF⟩:=bS hF;obtain⟨w2a,w2b⟩:=qf gx1;cases hF;simp only[simprocAttr,R0,b137, *];exact qd (by simp only[simprocAttr,R0,qb,p137,Rs.ev,qa, *])
def F138_1_S(a0:Int)(a1:Int)(v5_1:Int):Option ((Int)⊕(Int)):=
 (chk (v5_1*a1)).bind fun x4=>
(remI x4 a0).bind fun x5=>
if x5=1 then
 some (.inr v5_1)
else
 (chk (v5_1+1)).bind fun x8=>
 some (.inl x8)
def F138(a0:Int)(a1:Int):Option Int:=
 (qB (F138_1_S a0 a1) 1).bind fun zv5_1=>
 some zv5_1
def I138_1(a0:Int)(a1:Int)(v5_1:Int)(e:Env)(h:Heap):Prop:=
 ∃k2:Nat,h=⟨[],k2⟩∧e.length=15∧e.at 0=V.int .i64 a0∧e.at 1=V.int .i64 a1∧e.at 5=V.int .i64 v5_1
def P138_1(a0:Int)(a1:Int)(zv5_1:Int)(x:Ex)(e:Env)(h:Heap):Prop:=
 x= .normal∧∃k2:Nat,h=⟨[],k2⟩∧e.length=15∧e.at 5=V.int .i64 zv5_1
theorem l138_1(a0:Int)(a1:Int){s:Int}{t:Int}(hF:qB (F138_1_S a0 a1) s=some t){e:Env}{h:Heap}(hI:I138_1 a0 a1 s e h):W A c138_1 e h (P138_1 a0 a1 t):=by
 show W A (.block 0 (.loop false b138_1)) e h _;rw[qh];refine zy hF 0 (by obtain⟨_,rfl,_⟩:=hI; rfl) (I138_1 a0 a1) hI ?_
 ·rintro v5_1 e h ⟨k2,rfl,h_1⟩ o ho
  unfold F138_1_S at ho;obtain⟨x4,gx4,ho⟩:=bS ho;have wx4:=qm gx4;obtain⟨x5,gx5,ho⟩:=bS ho;obtain⟨w6a,w6b⟩:=rem_w gx5;by_cases c7:x5=1
  ·rw[if_pos c7]at ho
   cases ho;simp only[simprocAttr,R0,b138_1, *];intro ht;(first|subst ht|cases t);simp only[simprocAttr,RR,RB];refine ai rfl (ei _ (ai rfl ?_));simp only[simprocAttr,R0, *]
  ·rw[if_neg c7]at ho
   obtain⟨x8,gx8,ho⟩:=bS ho;have wx8:=qm gx8;cases ho;simp only[simprocAttr,R0,b138_1, *];refine ai rfl (ei _ (ai rfl ?_));simp only[simprocAttr,R0, *]
theorem s138(a0:Int)(a1:Int){r:Int}(hF:F138 a0 a1=some r):ans A 138 [V.int .i64 a0,V.int .i64 a1]=some (enc r):=by
 refine qp (f:=p138) rfl rfl rfl fun e hl he=>?_;have h0_0:e.at 0=V.int .i64 a0:=he 0 _ rfl;have h1_0:e.at 1=V.int .i64 a1:=he 1 _ rfl;have hl_0:e.length=15:=hl;clear he hl;show W A b138 e ⟨[],0⟩ _;unfold F138 at hF;obtain⟨zv5_1,gt9,hF⟩:=bS hF;simp only[simprocAttr,R0,b138, *];refine W.mono (l138_1 a0 a1 gt9 (ei _ (ai rfl ?_))) ?_
 ·simp only[simprocAttr,R0, *]
 rintro _ e _ ⟨rfl,k2,rfl,h_3⟩;cases hF;simp only[simprocAttr,R0, *];exact qd (by simp only[simprocAttr,R0,qb,p138,Rs.ev,qa, *])
def F139_1_B(other:List Int)(p by_:Int)(i:Int)(row:List Int):Option (List Int⊕List Int):=
 (getI other i).bind fun y=>(getI row i).bind fun r=>(chk (p - by_)).bind fun q=>(chk (q*y)).bind fun m=>(chk (r+m)).bind fun s=>(remI s p).bind fun z=>(setI row i z).bind fun row'=> some (.inl row')
def F139_1_D(i:Int)(row:List Int):Option (List Int):=some row
def F139(row other:List Int)(p by_:Int):Option (List Int):=forR 0 (other.length:Int) (F139_1_B other p by_) F139_1_D row
theorem d139{row other row':List Int}{p by_:Int}(hF:F139 row other p by_=some row')(E:List (Nat×Option (List V)))(c:Nat){key uid key2 uid2:Nat}(g1:E[key]? =some (uid,some (row.map enc)))(g2:E[key2]? =some (uid2,some (other.map enc)))(hne:key2≠key):
  res A 139 [V.sl key uid 0 row.length 1,V.sl key2 uid2 0 other.length 1,V.int .i64 p,V.int .i64 by_] ⟨E,c⟩=some (V.undef,⟨E.set key (uid,some (List.map enc row')),c⟩)∧row'.length=row.length:=by
 have hk:key < E.length:=(List.getElem?_eq_some_iff.1 g1).1
 suffices∃h',res A 139 [V.sl key uid 0 row.length 1,V.sl key2 uid2 0 other.length 1,V.int .i64 p,V.int .i64 by_] ⟨E,c⟩=some (V.undef,h')∧h'=⟨E.set key (uid,some (List.map enc row')),c⟩∧row'.length=row.length by
  obtain⟨h',q1,rfl,q2⟩:=this;exact⟨q1,q2⟩
 refine res_ex (f:=p139) rfl rfl rfl fun e hl he=>?_;have h0_0:e.at 0=V.sl key uid 0 row.length 1:=he 0 _ rfl;have h1_0:e.at 1=V.sl key2 uid2 0 other.length 1:=he 1 _ rfl;have h2_0:e.at 2=V.int .i64 p:=he 2 _ rfl;have h3_0:e.at 3=V.int .i64 by_:=he 3 _ rfl;have hl_0:e.length=33:=hl;clear he hl;show W A b139 e ⟨E,c⟩ _;unfold F139 at hF;simp only[simprocAttr,R1,b139,hl_0,h0_0,h1_0,h2_0,h3_0];show W A (.block 0 (.loop true b139_1)) _ _ _;rw[qh];refine qv hF _ rfl (fun i s e h=> s.length=row.length∧h=⟨E.set key (uid,some (s.map enc)),c⟩∧e.length=33∧e.at 0=V.sl key uid 0 row.length 1∧e.at 2=V.int .i64 p∧e.at 3=V.int .i64 by_∧e.at 10=V.sl key2 uid2 0 other.length 1∧e.at 11=V.int .i64 (other.length:Int)∧e.at 12=V.int .i64 i) ?_ ?_ ?_
 ·refine⟨rfl,?_,?_⟩
  ·rw[set_self g1]
  ·simp only[simprocAttr,R1,hl_0,h0_0,h1_0,h2_0,h3_0]
 ·clear hl_0 h0_0 h1_0 h2_0 h3_0
  rintro i s e h ⟨hs,rfl,h_1⟩ hlt hw s' ho;unfold F139_1_B at ho;obtain⟨y,gy,ho⟩:=bS ho;obtain⟨ya,yb⟩:=qf gy;have yc:=za gy;obtain⟨r,gr,ho⟩:=bS ho;obtain⟨ra,rb⟩:=qf gr;have rc:=za gr;obtain⟨q,gq,ho⟩:=bS ho;have wq:=qm gq;obtain⟨m,gm,ho⟩:=bS ho;have wm:=qm gm;obtain⟨t,gt,ho⟩:=bS ho;have wt:=qm gt;obtain⟨z,gz,ho⟩:=bS ho;obtain⟨wz0,wz⟩:=rem_w gz;obtain⟨row2,gs,ho⟩:=bS ho;obtain⟨s1,s2,s3,s4,s5⟩:=setI_w gs;cases ho;have oy:qR none (List.drop (Int.toNat i) (other.map enc))=some (V.int .i64 y):=qw (by rw[List.getElem?_map,yb]; rfl);have orr:qR none (List.drop (Int.toNat i) (s.map enc))=some (V.int .i64 r):=qw (by rw[List.getElem?_map,rb]; rfl);have n1:∀x,(E.set key x)[key]? =some x:=fun x=> qy hk;have n2:∀x,(E.set key x)[key2]? =some (uid2,some (other.map enc)):=fun x=>(qI hne).trans g2;have s5':List.take (Int.toNat i) (s.map enc)++[V.int .i64 z]++List.drop (Int.toNat i+1) (s.map enc)=List.map enc row2:=s5;have rc':i < (row.length:Int):=by omega
  simp only[simprocAttr,R1,b139_1,h_1,eq_true hlt,hw,ya,eq_true yc,oy,ra,eq_true rc',orr,n1,n2,wq,wm,wt,wz0,wz,s3,s5',List.set_set];refine ai rfl ⟨by omega,rfl,?_⟩;simp only[simprocAttr,R1,h_1,hw]
 ·clear hl_0 h0_0 h1_0 h2_0 h3_0
  rintro i s e h ⟨hs,rfl,h_1⟩ hge t1 ho;unfold F139_1_D at ho;cases ho;simp only[simprocAttr,R1,b139_1,h_1,eq_false hge];intro ht; subst ht;refine ai (fun _=> trivial) ⟨?_,rfl,hs⟩;simp only[simprocAttr,R1,qb,p139,mapO];rfl
def F133_1_B(rows:List (List Int))(i:Int)(s:List (List Int)):Option (List (List Int)⊕List (List Int)):=(getI rows i).bind fun r=>(F96 r).bind fun d=>(app 24 s [d]).bind fun l=> some (.inl l)
def F133_1_D(i:Int)(s:List (List Int)):Option (List (List Int)):=some s
def F133_3_B(p b:Int)(k:Int)(row:List Int):Option (List Int⊕List Int):=(getI row k).bind fun x=>(chk (x*b)).bind fun m=>(remI m p).bind fun z=>(setI row k z).bind fun r=> some (.inl r)
def F133_3_D(k:Int)(row:List Int):Option (List Int):=some row
def F133_4_B(p c done:Int)(i:Int)(l:List (List Int)):Option (List (List Int)⊕List (List Int)):=
 if i=done then some (.inl l)else(getI l i).bind fun r=>(getI l done).bind fun o=>(getI r c).bind fun x=>(F139 r o p x).bind fun r'=>(setI l i r').bind fun l'=> some (.inl l')
def F133_4_D(i:Int)(l:List (List Int)):Option (List (List Int)):=some l
def F133_2_B(p:Int)(c:Int)(s:List (List Int)×Int):Option ((List (List Int)×Int)⊕(List (List Int)×Int)):=
 if 0≤s.2∧s.2≤s.1.length then
  (F128 (s.1.drop s.2.toNat) (fun r=> F137 r c)).bind fun at_=>
  if at_ < 0 then some (.inl s)else
  (chk (s.2+at_)).bind fun j=>(getI s.1 j).bind fun a=>(getI s.1 s.2).bind fun b=>(setI s.1 s.2 a).bind fun l1=>(setI l1 j b).bind fun l2=>
  (getI l2 s.2).bind fun row=>(getI row c).bind fun x=>(F138 p x).bind fun by_=>
  (forR 0 (row.length:Int) (F133_3_B p by_) F133_3_D row).bind fun row'=>(setI l2 s.2 row').bind fun l3=>
  (forR 0 (l3.length:Int) (F133_4_B p c s.2) F133_4_D l3).bind fun l4=>(chk (s.2+1)).bind fun d=> if d=(l4.length:Int)then some (.inr (l4,d))else some (.inl (l4,d))
 else none
def F133_2_D(c:Int)(s:List (List Int)×Int):Option (List (List Int)×Int):=some s
def F133(p:Int)(rows:List (List Int)):Option (List (List Int)):=
 (forR 0 (rows.length:Int) (F133_1_B rows) F133_1_D []).bind fun l=> if(l.length:Int)=0 then some l else(getI l 0).bind fun r0=>
 (forR 0 (r0.length:Int) (F133_2_B p) F133_2_D (l,0)).bind fun t=> if 0≤t.2∧t.2≤t.1.length then some (t.1.take t.2.toNat)else none
theorem d133(p:Int)(rows:List (List Int)){r:List (List Int)}(hF:F133 p rows=some r):∃v h',res A 133 [V.int .i64 p,V.isl (rows.map enc)] Heap.empty=some (v,h')∧
  ∃u vs l,v=V.sl 0 u 0 r.length 1∧h'.ents[0]? =some (u,some vs)∧zF h'.ents vs l (fun k=> 1≤k)∧r=l.take r.length:=by
 refine res_dp (f:=p133) rfl rfl rfl fun e hl he=>?_;have h0_0:e.at 0=V.int .i64 p:=he 0 _ rfl;have h1_0:e.at 1=V.isl (rows.map enc):=he 1 _ rfl;have hl_0:e.length=134:=hl;clear he hl;show W A b133 e ⟨[],0⟩ _;unfold F133 at hF;obtain⟨l0,gl0,hF⟩:=bS hF;simp only[simprocAttr, -Int.reduceNatCast',R1,b133,hl_0,h0_0,h1_0];show W A (.block 0 (.loop true b133_1)) _ _ _;rw[qh];refine qv gl0 _ rfl (fun i s e h=>∃u vs,h.ents[0]? =some (u,some vs)∧zF h.ents vs s (fun k=> 1≤k)∧e.length=134∧e.at 0=V.int .i64 p∧e.at 5=V.sl 0 u 0 s.length 1∧e.at 15=V.isl (rows.map enc)∧e.at 16=V.int .i64 (rows.length:Int)∧e.at 17=V.int .i64 i) ?_ ?_ ?_
 ·refine⟨0,[],rfl,.nil,?_⟩
  simp only[simprocAttr, -Int.reduceNatCast',R1,hl_0,h0_0,h1_0]
 ·clear hl_0 h0_0 h1_0
  rintro i s e ⟨E,c⟩ ⟨u,vs,g1,g2,hl_1,h0_1,h5_1,h15_1,h16_1,h17_1⟩ hlt hw s' ho;unfold F133_1_B at ho;simp only at g1 g2;obtain⟨x,gx,ho⟩:=bS ho;obtain⟨xa,xb⟩:=qf gx;obtain⟨d,gd,ho⟩:=bS ho;have wd:=t96 x gd;obtain⟨l,gl,ho⟩:=bS ho;obtain⟨q1,q2,rfl⟩:=app_w gl;have hE:=wA ho; subst hE;have hE0:0 < E.length:=(List.getElem?_eq_some_iff.1 g1).1;have w9:∀x y c',qO 1 24 (.sl 0 u 0 s.length 1) 1 [V.sl E.length c 0 d.length 1] ⟨E++[x]++[y],c'⟩=_:=fun x y c'=> jI (E:=E++[x]++[y]) (vs:=vs) (by rw[wR,List.getElem?_append_left hE0]; exact g1) g2.len (by simpa using q1) (by simpa using q2);simp only[simprocAttr, -Int.reduceNatCast',R1,b133_1,hl_1,h0_1,h5_1,h15_1,h16_1,h17_1,eq_true hlt,hw,xa,xb,wd,qL,zI,le1,qH,ge2a,ge2b,w9];refine ai rfl ⟨_,_,qy (by simp),?_,?_⟩
  ·refine(zF.snoc (k:=E.length) (u:=c) (r:=d) (E:=((E++[(c,some (d.map enc))]++[(c+1,some [V.sl E.length c 0 d.length 1])]).set 0 (c+1+1,some (vs++[V.sl E.length c 0 d.length 1])))) (g2.frame fun k hk hb=>?_) ?_ (by omega) fun i k' u' n hv e=>?_)
   ·rw[qI (by omega),wR,List.getElem?_append_left hk]
   ·rw[qI (by omega)]; exact ge2a ..
   ·subst e
    obtain⟨r,hr⟩:∃r,s[i]? =some r:=⟨s[i]'(by have:=(List.getElem?_eq_some_iff.1 hv).1; have:=g2.len; omega),by simp⟩;obtain⟨k2,u2,e2,g,_⟩:=g2.row i _ r hv hr;cases e2;have:=(List.getElem?_eq_some_iff.1 g).1;omega
  ·simp only[simprocAttr, -Int.reduceNatCast',R1,hl_1,h0_1,h5_1,h15_1,h16_1,h17_1,hw,wI]
 ·clear hl_0 h0_0 h1_0
  rintro i s e ⟨E,c⟩ ⟨u,vs,g1,g2,hl_1,h0_1,h5_1,h15_1,h16_1,h17_1⟩ hge t1 ho;unfold F133_1_D at ho;have hE:=wA ho; subst hE;simp only at g1 g2;simp only[simprocAttr, -Int.reduceNatCast',R1,b133_1,hl_1,h0_1,h5_1,h15_1,h16_1,h17_1,eq_false hge];intro ht; subst ht;by_cases hz:(s.length:Int)=0
  ·rw[if_pos hz]at hF ⊢
   have hE:=wA hF; subst hE;refine ai (fun _=> trivial) ⟨_,?_,u,vs,s,rfl,g1,g2,by rw[vO]⟩;simp only[simprocAttr, -Int.reduceNatCast',R1,qb,p133,Rs.ev,hl_1,h5_1]
  ·rw[if_neg hz]at hF ⊢
   obtain⟨r0,gr0,hF⟩:=bS hF;obtain⟨ra,rb⟩:=qf gr0;have rc:=za gr0;obtain⟨t,gt,hF⟩:=bS hF;obtain⟨k0,u0,v1,v2,v3⟩:=g2.get rb;have o1:=qw v1;simp only[Int.toNat_zero,vD]at o1;simp only[simprocAttr, -Int.reduceNatCast',R1,hl_1,h0_1,h5_1,h15_1,h16_1,h17_1,eq_true rc,g1,o1,Int.toNat_zero,vW];show W A (.block 2 (.loop true b133_2)) _ _ _;rw[qh];refine qv gt _ rfl (fun i s e h=>∃u vs,h.ents[0]? =some (u,some vs)∧zF h.ents vs s.1 (fun k=> 1≤k)∧e.length=134∧e.at 0=V.int .i64 p∧e.at 5=V.sl 0 u 0 s.1.length 1∧e.at 8=V.int .i64 s.2∧e.at 34=V.int .i64 (r0.length:Int)∧e.at 35=V.int .i64 i) ?_ ?_ ?_
   ·refine⟨u,vs,g1,g2,?_⟩
    simp only[simprocAttr, -Int.reduceNatCast',R1,hl_1,h0_1,h5_1,h15_1,h16_1,h17_1]
   ·clear hl_1 h0_1 h5_1 h15_1 h16_1 h17_1 g1 g2 k0 u0 v1 v2 v3 o1
    rintro cc ⟨l,done⟩ e ⟨E,c⟩ ⟨u,vs,g1,g2,hl_1,h0_1,h5_1,h8_1,h34_1,h35_1⟩ hlt hw s' ho;unfold F133_2_B at ho;simp only at g1 g2 h5_1 h8_1 ho;have hE0:0 < E.length:=(List.getElem?_eq_some_iff.1 g1).1;split at ho
    case isFalse=> cases ho
    rename_i hdn;obtain⟨hd0,hd1⟩:=hdn;have hdn:done.toNat≤l.length:=by omega
    obtain⟨at_,gat,ho⟩:=bS ho;have wat:ans A 128 [V.isl (List.map enc (l.drop done.toNat)),V.fn 137 [] [V.iptr [V.int .i64 cc]]]=some (V.int .i64 at_):=s128 (l.drop done.toNat) (fun r=> F137 r cc)
     (Clo1.of (by intro h f; simp only[RZ,mapO]) (by intro h f; simp only[RZ,mapO]) (by intro f; simp only[RZ,RB]) (by intro f; simp only[RZ,RB]) (fun x _ hr=> s137 x cc hr)) gat
    have g1':∀x,(E++[x])[0]? =some (u,some vs):=fun x=>(List.getElem?_append_left hE0).trans g1;have g2':∀x,zF (E++[x]) vs l (fun k=> 1≤k∧k < E.length):=fun x=>(g2.mono (fun k hk h=> ai h hk)).frame fun k hk _=> List.getElem?_append_left hk;have wfz:∀x c,frz ⟨E++[x],c⟩ 16 (V.sl 0 u done.toNat (l.length - done.toNat) 1)=some (V.isl (List.map enc (l.drop done.toNat))):=fun x c=> by
     have:=(g2' x).fz c (g1' x) (off:=done.toNat) (n:=l.length - done.toNat) (by omega)
     rwa[wL (by simp)]at this
    have wsl:=slice_lo (key:=0) (uid:=u) (n:=l.length) hd0 (by omega);by_cases hat:at_ < 0
    ·rw[if_pos hat]at ho
     have hE:=wA ho; subst hE;simp only[simprocAttr, -Int.reduceNatCast',R1,b133_2,hl_1,h0_1,h5_1,h8_1,h34_1,h35_1,eq_true hlt,hw,vG,yU,wsl,wfz,wat,qH,set_last,eq_true hat];refine ai rfl ⟨u,vs,g1' _,(g2' _).mono fun k _ h=> h.1,?_⟩;simp only[simprocAttr, -Int.reduceNatCast',R1,hl_1,h0_1,h5_1,h8_1,h34_1,h35_1,hw]
    ·rw[if_neg hat]at ho
     obtain⟨j,gj,ho⟩:=bS ho;have wj:=qm gj;obtain⟨a,ga,ho⟩:=bS ho;obtain⟨aa,ab⟩:=qf ga;have ac:=za ga;obtain⟨b,gb,ho⟩:=bS ho;obtain⟨ba,bb⟩:=qf gb;have bc:=za gb;obtain⟨l1,gl1,ho⟩:=bS ho;have e1:=setI_eq gl1;obtain⟨l2,gl2,ho⟩:=bS ho;have e2:=setI_eq gl2;subst e1; subst e2;obtain⟨row,grow,ho⟩:=bS ho;obtain⟨rowa,rowb⟩:=qf grow;obtain⟨x,gx,ho⟩:=bS ho;obtain⟨xa,xb⟩:=qf gx;have xc:=za gx;obtain⟨by_,gby,ho⟩:=bS ho;have wby:ans A 138 [V.int .i64 p,V.int .i64 x]=some (V.int .i64 by_):=s138 p x gby;obtain⟨row',gr',ho⟩:=bS ho;obtain⟨l3,gl3,ho⟩:=bS ho;have e3:=setI_eq gl3;subst e3;obtain⟨l4,gl4,ho⟩:=bS ho;obtain⟨d1,gd1,ho⟩:=bS ho;have wd1:=qm gd1;obtain⟨ka,ua,va1,va2,va3⟩:=(g2' (c,some [V.int .i64 cc])).get ab;obtain⟨kb,ub,vb1,vb2,vb3⟩:=(g2' (c,some [V.int .i64 cc])).get bb;have hml:=g2.len;have hsw:=(g2' (c,some [V.int .i64 cc])).swap vb1 va1 bb ab;generalize hvs2:(vs.set done.toNat (V.sl ka ua 0 a.length 1)).set j.toNat (V.sl kb ub 0 b.length 1)=vs2 at hsw;have hl2:((l.set done.toNat a).set j.toNat b).length=l.length:=by simp
     generalize hll2:(l.set done.toNat a).set j.toNat b=l2 at*;have oa:=qw va1;have ob:=qw vb1;have td1:List.take done.toNat vs++[V.sl ka ua 0 a.length 1]++List.drop (done.toNat+1) vs=vs.set done.toNat (V.sl ka ua 0 a.length 1):=tsd (by omega);have td2:List.take j.toNat (vs.set done.toNat (V.sl ka ua 0 a.length 1))++[V.sl kb ub 0 b.length 1]++List.drop (j.toNat+1) (vs.set done.toNat (V.sl ka ua 0 a.length 1))=vs2:=(tsd (by simp; omega)).trans hvs2;have hd1':done.toNat+1≤vs.length:=by omega
     have hj1':j.toNat+1≤vs.length:=by omega
     have n1:∀y z,((E++[y]).set 0 z)[0]? =some z:=fun y z=> qy (by simp);have n2:∀y z,((E++[y]).set 0 z)[E.length]? =some y:=fun y z=>(qI (by omega)).trans (qH _ _);have hsw2:∀z,zF ((E++[(c,some [V.int .i64 cc])]).set 0 z) vs2 l2 (fun k=> 1≤k∧k < E.length):=fun z=> hsw.frame fun k hk h=> qI (by omega);obtain⟨kr,ur,vr1,vr2,vr3⟩:=(hsw2 (u,some vs2)).get rowb;have orr:=qw vr1;have ox:qR none (List.drop cc.toNat (row.map enc))=some (V.int .i64 x):=qw (by rw[List.getElem?_map,xb]; rfl);have hvl:vs2.length=l.length:=by rw[hsw.len,hl2]
     simp only[simprocAttr, -Int.reduceNatCast',R1,b133_2,hl_1,h0_1,h5_1,h8_1,h34_1,h35_1,eq_true hlt,hw,vG,yU,wsl,wfz,wat,qH,set_last,eq_false hat,wj,aa,eq_true ac,ba,eq_true bc,g1',oa,ob,vA,eq_true hd1',eq_true hj1',td1,td2,List.set_set,n1,n2,orr,xa,eq_true xc,vr2,ox,wby];have hd1v:d1=done+1:=by
      unfold chk at gd1; split at gd1
      ·cases gd1; rfl
      ·cases gd1
     have kr0:1≤kr:=vr3.1;have krE:kr < E.length:=vr3.2;have m0:∀z,(((E++[(c,some [V.int .i64 cc])]).set 0 (u,some vs2)).set kr z)[0]? =some (u,some vs2):=fun z=>(qI (by omega)).trans (n1 _ _);have mk:∀z,(((E++[(c,some [V.int .i64 cc])]).set 0 (u,some vs2)).set kr z)[kr]? =some z:=fun z=> qy (by simp; omega);have mN:∀z,(((E++[(c,some [V.int .i64 cc])]).set 0 (u,some vs2)).set kr z)[E.length]? =some (c,some [V.int .i64 cc]):=fun z=>(qI (by omega)).trans (n2 _ _);have hdl:done < (l.length:Int):=by omega
     show W A (.block 4 (.loop true b133_3)) _ _ _;rw[qh];refine qv gr' _ rfl (fun k s e h=> s.length=row.length∧h=⟨((E++[(c,some [V.int .i64 cc])]).set 0 (u,some vs2)).set kr (ur,some (s.map enc)),c+1⟩∧e.length=134∧e.at 0=V.int .i64 p∧e.at 5=V.sl 0 u 0 l.length 1∧e.at 8=V.int .i64 done∧e.at 9=V.ptr E.length c 0∧e.at 11=V.int .i64 by_∧e.at 34=V.int .i64 (r0.length:Int)∧e.at 35=V.int .i64 cc∧e.at 76=V.int .i64 (row.length:Int)∧e.at 77=V.int .i64 k) ?_ ?_ ?_
     ·refine⟨rfl,by rw[set_self vr2],?_⟩
      simp only[simprocAttr, -Int.reduceNatCast',R1,hl_1,h0_1,h5_1,h8_1,h34_1,h35_1]
     ·clear hl_1 h0_1 h5_1 h8_1 h34_1 h35_1
      rintro k q e h ⟨hq,rfl,hl_1,h0_1,h5_1,h8_1,h9_1,h11_1,h34_1,h35_1,h76_1,h77_1⟩ hlt3 hw3 s3 ho3;unfold F133_3_B at ho3;obtain⟨x3,gx3,ho3⟩:=bS ho3;obtain⟨x3a,x3b⟩:=qf gx3;obtain⟨m3,gm3,ho3⟩:=bS ho3;have wm3:=qm gm3;obtain⟨z3,gz3,ho3⟩:=bS ho3;obtain⟨wz30,wz3⟩:=rem_w gz3;obtain⟨q2,gq2,ho3⟩:=bS ho3;obtain⟨s31,s32,s33,s34,s35⟩:=setI_w gq2;have hE:=wA ho3; subst hE;have o3:qR none (List.drop k.toNat (q.map enc))=some (V.int .i64 x3):=qw (by rw[List.getElem?_map,x3b]; rfl);have hk3:k < (row.length:Int):=hlt3;have s35':List.take k.toNat (q.map enc)++[V.int .i64 z3]++List.drop (k.toNat+1) (q.map enc)=List.map enc q2:=s35;simp only[simprocAttr, -Int.reduceNatCast',R1,b133_3,hl_1,h0_1,h5_1,h8_1,h9_1,h11_1,h34_1,h35_1,h76_1,h77_1,hw3,eq_true hlt3,hd0,eq_true hdl,m0,mk,orr,x3a,o3,wm3,wz30,wz3,s33,s35',List.set_set];refine ai rfl ⟨by omega,rfl,?_⟩;simp only[simprocAttr, -Int.reduceNatCast',R1,hl_1,h0_1,h5_1,h8_1,h9_1,h11_1,h34_1,h35_1,h76_1,h77_1,hw3]
     ·clear hl_1 h0_1 h5_1 h8_1 h34_1 h35_1
      rintro k q e h ⟨hq,rfl,hl_1,h0_1,h5_1,h8_1,h9_1,h11_1,h34_1,h35_1,h76_1,h77_1⟩ hge3 t3 ho3;unfold F133_3_D at ho3;have hE:=wA ho3; subst hE;simp only[simprocAttr, -Int.reduceNatCast',R1,b133_3,hl_1,h0_1,h5_1,h8_1,h9_1,h11_1,h34_1,h35_1,h76_1,h77_1,eq_false hge3];intro ht; subst ht;have hmw:=zF.write (hsw2 (u,some vs2)) rowb vr1 hq;have hl3:((l2.set done.toNat q).length:Int)=(l.length:Int):=by rw[vA,hl2]
      rw[hl3]at gl4;show W A (.block 6 (.loop true b133_4)) _ _ _;rw[qh];refine qv gl4 _ rfl (fun i s e h=> s.length=l.length∧h.ents[0]? =some (u,some vs2)∧zF h.ents vs2 s (fun k=> 1≤k∧k < E.length)∧h.ents[E.length]? =some (c,some [V.int .i64 cc])∧e.length=134∧e.at 0=V.int .i64 p∧e.at 5=V.sl 0 u 0 l.length 1∧e.at 8=V.int .i64 done∧e.at 9=V.ptr E.length c 0∧e.at 34=V.int .i64 (r0.length:Int)∧e.at 35=V.int .i64 cc∧e.at 99=V.int .i64 (l.length:Int)∧e.at 100=V.int .i64 i) ?_ ?_ ?_
      ·refine⟨by omega,m0 _,hmw,mN _,?_⟩
       simp only[simprocAttr, -Int.reduceNatCast',R1,hl_1,h0_1,h5_1,h8_1,h9_1,h11_1,h34_1,h35_1,h76_1,h77_1]
      ·clear hl_1 h0_1 h5_1 h8_1 h9_1 h11_1 h34_1 h35_1 h76_1 h77_1
       rintro i q4 e ⟨E4,c4⟩ ⟨hq4,f1,f2,f3,hl_1,h0_1,h5_1,h8_1,h9_1,h34_1,h35_1,h99_1,h100_1⟩ hlt4 hw4 s4 ho4;unfold F133_4_B at ho4;simp only at f1 f2 f3;by_cases hi:i=done
       ·rw[if_pos hi]at ho4
        have hE:=wA ho4; subst hE;simp only[simprocAttr, -Int.reduceNatCast',R1,b133_4,hl_1,h0_1,h5_1,h8_1,h9_1,h34_1,h35_1,h99_1,h100_1,hw4,eq_true hlt4,eq_true hi];refine ai rfl ⟨hq4,f1,f2,f3,?_⟩;simp only[simprocAttr, -Int.reduceNatCast',R1,hl_1,h0_1,h5_1,h8_1,h9_1,h34_1,h35_1,h99_1,h100_1,hw4]
       ·rw[if_neg hi]at ho4
        obtain⟨ri,gri,ho4⟩:=bS ho4;obtain⟨ria,rib⟩:=qf gri;obtain⟨oi,goi,ho4⟩:=bS ho4;obtain⟨oia,oib⟩:=qf goi;obtain⟨xi,gxi,ho4⟩:=bS ho4;obtain⟨xia,xib⟩:=qf gxi;have xic:=za gxi;obtain⟨r',gr'',ho4⟩:=bS ho4;obtain⟨l',gl',ho4⟩:=bS ho4;have e4:=setI_eq gl';subst e4;have hE:=wA ho4; subst hE;obtain⟨ki,ui,vi1,vi2,vi3⟩:=f2.get rib;obtain⟨ko,uo,vo1,vo2,vo3⟩:=f2.get oib;have hko:ko≠ki:=fun q=> hi (by have:=f2.inj _ _ _ _ _ _ _ _ vo1 vi1 q; omega);have oi1:=qw vi1;have oo1:=qw vo1;have ox1:qR none (List.drop cc.toNat (ri.map enc))=some (V.int .i64 xi):=qw (by rw[List.getElem?_map,xib]; rfl);obtain⟨wc,wcl⟩:=d139 gr'' E4 c4 vi2 vo2 hko;have hi4:i < (l.length:Int):=hlt4;simp only[simprocAttr, -Int.reduceNatCast',R1,b133_4,hl_1,h0_1,h5_1,h8_1,h9_1,h34_1,h35_1,h99_1,h100_1,hw4,eq_true hlt4,eq_false hi,hd0,eq_true hdl,ria,f1,f3,oi1,oo1,vi2,xia,eq_true xic,ox1,qx,wc];refine ai rfl ⟨by rw[vA]; exact hq4,(qI (by omega)).trans f1,f2.write rib vi1 wcl,(qI (by omega)).trans f3,?_⟩;simp only[simprocAttr, -Int.reduceNatCast',R1,hl_1,h0_1,h5_1,h8_1,h9_1,h34_1,h35_1,h99_1,h100_1,hw4]
      ·clear hl_1 h0_1 h5_1 h8_1 h9_1 h11_1 h34_1 h35_1 h76_1 h77_1
       rintro i q4 e ⟨E4,c4⟩ ⟨hq4,f1,f2,f3,hl_1,h0_1,h5_1,h8_1,h9_1,h34_1,h35_1,h99_1,h100_1⟩ hge4 t4 ho4;unfold F133_4_D at ho4;have hE:=wA ho4; subst hE;simp only at f1 f2 f3;have wd1':Go.IntKind.wrap .i64 (done+1)=d1:=wd1;by_cases hb:d1=(q4.length:Int)
       ·have hb':d1=(l.length:Int):=by omega
        have wsh:=slice_hi (key:=0) (uid:=u) (n:=l.length) (d:=d1) (by omega) (by omega);simp only[simprocAttr, -Int.reduceNatCast',R1,b133_4,hl_1,h0_1,h5_1,h8_1,h9_1,h34_1,h35_1,h99_1,h100_1,eq_false hge4,wd1',eq_true hb',vG,yU,wsh];intro ht; subst ht;rw[if_pos hb]at ho;have hE:=wA ho; subst hE;intro ht; subst ht;simp only[simprocAttr, -Int.reduceNatCast',R1,hl_1,h0_1,h5_1,h8_1,h9_1,h34_1,h35_1,h99_1,h100_1,vG,yU,wsh];simp only at hF;rw[if_pos ⟨by omega,by omega⟩]at hF;have hE:=wA hF; subst hE;have hrl:(q4.take d1.toNat).length=d1.toNat:=by simp; omega
        refine ai (fun _=> trivial) ⟨_,?_,u,vs2,q4,rfl,f1,f2.mono fun k _ h=> h.1,by rw[hrl]⟩;simp only[simprocAttr, -Int.reduceNatCast',R1,qb,p133,Rs.ev,hl_1,hrl]
       ·have hb':¬d1=(l.length:Int):=by omega
        simp only[simprocAttr, -Int.reduceNatCast',R1,b133_4,hl_1,h0_1,h5_1,h8_1,h9_1,h34_1,h35_1,h99_1,h100_1,eq_false hge4,wd1',eq_false hb',hw];intro ht; subst ht;rw[if_neg hb]at ho;have hE:=wA ho; subst hE;refine ai rfl ⟨u,vs2,f1,f2.mono fun k _ h=> h.1,?_⟩;simp only[simprocAttr, -Int.reduceNatCast',R1,hl_1,h0_1,h5_1,h8_1,h9_1,h34_1,h35_1,h99_1,h100_1,hq4]
   ·clear hl_1 h0_1 h5_1 h15_1 h16_1 h17_1 g1 g2 k0 u0 v1 v2 v3 o1
    rintro cc ⟨l,done⟩ e ⟨E,c⟩ ⟨u,vs,g1,g2,hl_1,h0_1,h5_1,h8_1,h34_1,h35_1⟩ hge t1 ho;unfold F133_2_D at ho;have hE:=wA ho; subst hE;simp only at g1 g2 h5_1 h8_1;simp only[simprocAttr, -Int.reduceNatCast',R1,b133_2,hl_1,h0_1,h5_1,h8_1,h34_1,h35_1,eq_false hge,vG,yU];intro ht; subst ht;simp only at hF;split at hF
    case isFalse=> cases hF
    rename_i hdn;have wsh:=slice_hi (key:=0) (uid:=u) (n:=l.length) (d:=done) hdn.1 (by omega);have hE:=wA hF; subst hE;have hrl:(l.take done.toNat).length=done.toNat:=by simp; omega
    simp only[simprocAttr, -Int.reduceNatCast',R1,hl_1,wsh];refine ai (fun _=> trivial) ⟨_,?_,u,vs,l,rfl,g1,g2,by rw[hrl]⟩;simp only[simprocAttr, -Int.reduceNatCast',R1,qb,p133,Rs.ev,hl_1,hrl]
theorem s133(p:Int)(rows:List (List Int)){r:List (List Int)}(hF:F133 p rows=some r):ans A 133 [V.int .i64 p,V.isl (rows.map enc)]=some (enc r):=by
 obtain⟨_,h',h1,u,vs,l,rfl,h2,h3,h4⟩:=d133 p rows hF;have hl:r.length≤l.length:=by have:=congrArg List.length h4; simp at this; omega
 have:=h3.fz h'.clk (key:=0) (uid:=u) (off:=0) (n:=r.length) h2 (by omega);rw[vD,←h4]at this;unfold ans;rw[h1];exact this
def F102(a0:GComplex)(a1:Int):Option Int:=
 (F86 a0).bind fun x1=>
 (F56 a1 0 x1).bind fun x3=>
 if x3=true then
  (getI a0.Dims a1).bind fun x5=>
  some x5
 else
  some 0
theorem s102(a0:GComplex)(a1:Int){r:Int}(hF:F102 a0 a1=some r):ans A 102 [(eC a0),V.int .i64 a1]=some (enc r):=by
 refine qp (f:=p102) rfl rfl rfl fun e hl he=>?_;have h0_0:e.at 0=(eC a0):=he 0 _ rfl;have h1_0:e.at 1=V.int .i64 a1:=he 1 _ rfl;have hl_0:e.length=15:=hl;clear he hl;have h_0:=ai hl_0 (ai h0_0 h1_0);show W A b102 e ⟨[],0⟩ _;unfold F102 at hF;obtain⟨x1,gx1,hF⟩:=bS hF;have w2:=s86 a0 gx1;obtain⟨x3,gx3,hF⟩:=bS hF;have w4:=s56 a1 0 x1 gx3;cases x3 with
 |true=>
  rw[if_pos rfl]at hF;obtain⟨x5,gx5,hF⟩:=bS hF;obtain⟨w6a,w6b⟩:=qf gx5;cases hF;simp only[simprocAttr,R0,b102, *];exact qd (by simp only[simprocAttr,R0,qb,p102,Rs.ev,qa, *])
 |false=>
  rw[if_neg wE]at hF;cases hF;simp only[simprocAttr,R0,b102, *];exact qd (by simp only[simprocAttr,R0,qb,p102,Rs.ev,qa, *])
def F125_1_B(a0:Int)(a1:List (List Int))(x2:List Int)(v25_1:Int)(o0_1:(List (List Int))):Option (((List (List Int)))⊕((List (List Int)))):=
 (getI a1 v25_1).bind fun x8=>
(F96 x8).bind fun x10=>
(appZ 8 x10 (a1.length:Int) 0).bind fun l13=>
(chk ((x2.length:Int)+v25_1)).bind fun x14=>
(getI l13 x14).bind fun x15=>
(setI l13 x14 1).bind fun l17=>
(app 24 o0_1 [l17]).bind fun l20=>
some (.inl l20)
def F125_1_D(a0:Int)(a1:List (List Int))(x2:List Int)(v25_1:Int)(o0_1:(List (List Int))):Option ((List (List Int))):=
 some o0_1
def F125_2_B(a0:Int)(x2:List Int)(x22:List (List Int))(v49_2:Int)(o1_2:(List (List Int))):Option (((List (List Int)))⊕((List (List Int)))):=
 (getI x22 v49_2).bind fun x28=>
(slI x28 0 (x2.length:Int)).bind fun l30=>
(F92 l30).bind fun x32=>
if x32=true then
 (slI x28 (x2.length:Int) (x28.length:Int)).bind fun l34=>
 (app 24 o1_2 [l34]).bind fun l37=>
 some (.inl l37)
else
 some (.inl o1_2)
def F125_2_D(a0:Int)(x2:List Int)(x22:List (List Int))(v49_2:Int)(o1_2:(List (List Int))):Option ((List (List Int))):=
 some o1_2
def F125(a0:Int)(a1:List (List Int)):Option (List (List Int)):=
 if(a1.length:Int)=0 then
  some ([]:List (List Int))
 else
  (getI a1 0).bind fun x2=>
  (forR 0 (a1.length:Int) (F125_1_B a0 a1 x2) (F125_1_D a0 a1 x2) ([]:(List (List Int)))).bind fun zo0_1=>
  (F133 a0 zo0_1).bind fun x22=>
  (forR 0 (x22.length:Int) (F125_2_B a0 x2 x22) (F125_2_D a0 x2 x22) ([]:(List (List Int)))).bind fun zo1_2=>
  (F133 a0 zo1_2).bind fun x39=>
  some x39
def I125_1(a0:Int)(a1:List (List Int))(x2:List Int)(v25_1:Int)(o0_1:(List (List Int)))(e:Env)(h:Heap):Prop:=
 ∃u5 k6:Nat,h=⟨[(u5,some (o0_1.map enc))],k6⟩∧e.length=67∧e.at 0=V.int .i64 a0∧e.at 5=V.int .i64 (a1.length:Int)∧e.at 6=V.int .i64 (x2.length:Int)∧e.at 7=V.sl 0 u5 0 o0_1.length 1∧e.at 23=V.isl (a1.map enc)∧e.at 24=V.int .i64 (a1.length:Int)∧e.at 25=V.int .i64 v25_1
def P125_1(a0:Int)(a1:List (List Int))(x2:List Int)(zo0_1:(List (List Int)))(x:Ex)(e:Env)(h:Heap):Prop:=
 x= .normal∧∃u5 k6:Nat,h=⟨[(u5,some (zo0_1.map enc))],k6⟩∧e.length=67∧e.at 0=V.int .i64 a0∧e.at 6=V.int .i64 (x2.length:Int)∧e.at 7=V.sl 0 u5 0 zo0_1.length 1
theorem l125_1(a0:Int)(a1:List (List Int))(x2:List Int){lo:Int}{s:(List (List Int))}{t:(List (List Int))}(hF:forR lo (a1.length:Int) (F125_1_B a0 a1 x2) (F125_1_D a0 a1 x2) s=some t){e:Env}{h:Heap}(hI:I125_1 a0 a1 x2 lo s e h):W A c125_1 e h (P125_1 a0 a1 x2 t):=by
 show W A (.block 0 (.loop false b125_1)) e h _;rw[qh];refine qv hF 1 (by obtain⟨_,_,rfl,_⟩:=hI; rfl) (I125_1 a0 a1 x2) hI ?_ ?_
 ·rintro v25_1 o0_1 e h ⟨u5,k6,rfl,h_4⟩ hlt hw o ho
  unfold F125_1_B at ho;obtain⟨x8,gx8,ho⟩:=bS ho;obtain⟨w9a,w9b⟩:=qf gx8;obtain⟨x10,gx10,ho⟩:=bS ho;have w11:tans A 96 [1] [V.isl (x8.map enc)]=some (V.isl (x10.map enc)):=t96 x8 gx10;have w11t:=zI (α:=Int) x10;obtain⟨l13,gl13,ho⟩:=bS ho;obtain⟨w12a,w12b,w12c,w12d,w12e,w12f⟩:=appZ_w gl13;replace w12f:List.map enc (List.replicate (Int.toNat (a1.length:Int)) (0:Int))=(List.replicate (Int.toNat (a1.length:Int)) [V.int .i64 0]).flatten:=w12f;have w12:=fun a b c d e=> qD (α:=Int) (n:=x10.length) (m:=(Int.toNat (a1.length:Int))) (ds:=(List.replicate (Int.toNat (a1.length:Int)) [V.int .i64 0]).flatten) w12d (by first|rfl|simp) w12e w12f a b c d e;have w12l:=qZ w12d;obtain⟨x14,gx14,ho⟩:=bS ho;have wx14:=qm gx14;obtain⟨x15,gx15,ho⟩:=bS ho;obtain⟨w16a,w16b⟩:=qf gx15;have w16c:=za gx15;have w16d:List.drop (Int.toNat x14) (l13.map enc)=(V.int .i64 x15)::List.drop ((Int.toNat x14)+1) (l13.map enc):=jG w16b;obtain⟨l17,gl17,ho⟩:=bS ho;obtain⟨w18a,w18b,w18c,w18d,w18e⟩:=setI_w gl17;replace w18e:List.take (Int.toNat x14) (l13.map enc)++[V.int .i64 1]++List.drop (Int.toNat x14+1) (l13.map enc)=List.map enc l17:=w18e;obtain⟨l20,gl20,ho⟩:=bS ho;have w19:=fun a b c d e=> qD (α:=List Int) (n:=o0_1.length) (m:=1) (ds:=[V.isl (l17.map enc)]) gl20 (by first|rfl|simp only[w18d]) (by first|rfl|simp only[w18d]) rfl a b c d e;have w19l:=qZ gl20;cases ho;simp only[simprocAttr, -Int.reduceNatCast',R0,b125_1,h_4,eq_true hlt,hw,w9a,w9b,w11,w11t,w12a,w12b,w12c,w12,wx14,w16a,w16b,w16c,w16d,w18a,w18b,w18c,w18e,zd (α:=Int) l17,xg (α:=Int) (l:=l17) (n:=l13.length) (by first|rfl|simp only[w18d]),jW (α:=Int) (l:=l17) (n:=l13.length) (by first|rfl|simp only[w18d]),w19];refine ai rfl (ei _ (ei _ (ai rfl ?_)));simp only[simprocAttr, -Int.reduceNatCast',R0,h_4,eq_true hlt,hw,w9a,w9b,w11,w11t,w12a,w12b,w12c,w12,wx14,w16a,w16b,w16c,w16d,w18a,w18b,w18c,w18e,zd (α:=Int) l17,xg (α:=Int) (l:=l17) (n:=l13.length) (by first|rfl|simp only[w18d]),jW (α:=Int) (l:=l17) (n:=l13.length) (by first|rfl|simp only[w18d]),w19,w18d]
 ·rintro v25_1 o0_1 e h ⟨u5,k6,rfl,h_4⟩ hge t1 ho
  unfold F125_1_D at ho;cases ho;simp only[simprocAttr, -Int.reduceNatCast',R0,b125_1,h_4,eq_false hge];intro ht;(first|subst ht|cases t);refine ai rfl (ei _ (ei _ (ai rfl ?_)));simp only[simprocAttr, -Int.reduceNatCast',R0,h_4,eq_false hge]
def I125_2(a0:Int)(x2:List Int)(x22:List (List Int))(v49_2:Int)(o1_2:(List (List Int)))(e:Env)(h:Heap):Prop:=
 ∃u25 k26:Nat,h=⟨[(0,none),(u25,some (o1_2.map enc))],k26⟩∧e.length=67∧e.at 0=V.int .i64 a0∧e.at 6=V.int .i64 (x2.length:Int)∧e.at 11=V.sl 1 u25 0 o1_2.length 1∧e.at 47=V.isl (x22.map enc)∧e.at 48=V.int .i64 (x22.length:Int)∧e.at 49=V.int .i64 v49_2
def P125_2(a0:Int)(x2:List Int)(x22:List (List Int))(zo1_2:(List (List Int)))(x:Ex)(e:Env)(h:Heap):Prop:=
 x= .normal∧∃u25 k26:Nat,h=⟨[(0,none),(u25,some (zo1_2.map enc))],k26⟩∧e.length=67∧e.at 0=V.int .i64 a0∧e.at 11=V.sl 1 u25 0 zo1_2.length 1
theorem l125_2(a0:Int)(x2:List Int)(x22:List (List Int)){lo:Int}{s:(List (List Int))}{t:(List (List Int))}(hF:forR lo (x22.length:Int) (F125_2_B a0 x2 x22) (F125_2_D a0 x2 x22) s=some t){e:Env}{h:Heap}(hI:I125_2 a0 x2 x22 lo s e h):W A c125_2 e h (P125_2 a0 x2 x22 t):=by
 show W A (.block 2 (.loop false b125_2)) e h _;rw[qh];refine qv hF 2 (by obtain⟨_,_,rfl,_⟩:=hI; rfl) (I125_2 a0 x2 x22) hI ?_ ?_
 ·rintro v49_2 o1_2 e h ⟨u25,k26,rfl,h_24⟩ hlt hw o ho
  unfold F125_2_B at ho;obtain⟨x28,gx28,ho⟩:=bS ho;obtain⟨w29a,w29b⟩:=qf gx28;obtain⟨l30,gl30,ho⟩:=bS ho;have w31:jD 1 (V.isl (x28.map enc)) none (some (V.int .i64 (x2.length:Int)))=some (V.isl (l30.map enc)):=sliceV_w (α:=Int) One.one gl30 (.inl ⟨rfl,rfl⟩) (.inr rfl);obtain⟨x32,gx32,ho⟩:=bS ho;have w33:=s92 l30 gx32;cases x32 with
  |true=>
   rw[if_pos rfl]at ho;obtain⟨l34,gl34,ho⟩:=bS ho;have w35:jD 1 (V.isl (x28.map enc)) (some (V.int .i64 (x2.length:Int))) none=some (V.isl (l34.map enc)):=sliceV_w (α:=Int) One.one gl34 (.inr rfl) (.inl ⟨rfl,rfl⟩);obtain⟨l37,gl37,ho⟩:=bS ho;have w36:=fun a b c d e=> qD (α:=List Int) (n:=o1_2.length) (m:=1) (ds:=[V.isl (l34.map enc)]) gl37 (by first|rfl|simp) (by first|rfl|simp) rfl a b c d e;have w36l:=qZ gl37;cases ho;simp only[simprocAttr,R0,b125_2, *];refine ai rfl (ei _ (ei _ (ai rfl ?_)));simp only[simprocAttr,R0, *]
  |false=>
   rw[if_neg wE]at ho;cases ho;simp only[simprocAttr,R0,b125_2, *];refine ai rfl (ei _ (ei _ (ai rfl ?_)));simp only[simprocAttr,R0, *]
 ·rintro v49_2 o1_2 e h ⟨u25,k26,rfl,h_24⟩ hge t1 ho
  unfold F125_2_D at ho;cases ho;simp only[simprocAttr,R0,b125_2, *];intro ht;(first|subst ht|cases t);refine ai rfl (ei _ (ei _ (ai rfl ?_)));simp only[simprocAttr,R0, *]
theorem s125(a0:Int)(a1:List (List Int)){r:List (List Int)}(hF:F125 a0 a1=some r):ans A 125 [V.int .i64 a0,V.isl (a1.map enc)]=some (enc r):=by
 refine qp (f:=p125) rfl rfl rfl fun e hl he=>?_;have h0_0:e.at 0=V.int .i64 a0:=he 0 _ rfl;have h1_0:e.at 1=V.isl (a1.map enc):=he 1 _ rfl;have hl_0:e.length=67:=hl;clear he hl;have h_0:=ai hl_0 (ai h0_0 h1_0);show W A b125 e ⟨[],0⟩ _;unfold F125 at hF;by_cases c1:(a1.length:Int)=0
 ·rw[if_pos c1]at hF
  cases hF;simp only[simprocAttr,R0,b125, *];exact qd (by simp only[simprocAttr,R0,qb,p125,Rs.ev,qa, *])
 ·rw[if_neg c1]at hF
  obtain⟨x2,gx2,hF⟩:=bS hF;obtain⟨w3a,w3b⟩:=qf gx2;replace w3b:a1[0]? =some x2:=w3b;obtain⟨zo0_1,gt21,hF⟩:=bS hF;simp only[simprocAttr,R0,b125, *];refine W.mono (l125_1 a0 a1 x2 gt21 (ei _ (ei _ (ai rfl ?_)))) ?_
  ·simp only[simprocAttr,R0, *]
  rintro _ e _ ⟨rfl,u5,k6,rfl,h_7⟩;obtain⟨x22,gx22,hF⟩:=bS hF;have w23:=s133 a0 zo0_1 gx22;obtain⟨zo1_2,gt38,hF⟩:=bS hF;simp only[simprocAttr,R0,zd (α:=List Int) zo0_1, *];refine W.mono (l125_2 a0 x2 x22 gt38 (ei _ (ei _ (ai rfl ?_)))) ?_
  ·simp only[simprocAttr,R0,zd (α:=List Int) zo0_1, *]
  rintro _ e _ ⟨rfl,u25,k26,rfl,h_27⟩;obtain⟨x39,gx39,hF⟩:=bS hF;have w40:=s133 a0 zo1_2 gx39;cases hF;simp only[simprocAttr,R0,zd (α:=List Int) zo1_2, *];exact qd (by simp only[simprocAttr,R0,qb,p125,Rs.ev,qa,zd (α:=List Int) zo1_2, *])
def F202_1_B(a2:Int)(x5:List Int)(v24_1:Int)(o1_1:(List Int)):Option (((List Int))⊕((List Int))):=
 (getI x5 v24_1).bind fun x11=>
if x11≤a2 then
 (app 8 o1_1 [v24_1]).bind fun l15=>
 some (.inl l15)
else
 some (.inl o1_1)
def F202_1_D(a2:Int)(x5:List Int)(v24_1:Int)(o1_1:(List Int)):Option ((List Int)):=
 some o1_1
def F202(a0:GFiltered)(a1:Int)(a2:Int):Option (List Int):=
 (F86 a0.Complex).bind fun x1=>
 (F56 a1 0 x1).bind fun x3=>
 if x3=true then
  (getI a0.Levels a1).bind fun x5=>
  (forR 0 (x5.length:Int) (F202_1_B a2 x5) (F202_1_D a2 x5) ([]:(List Int))).bind fun zo1_1=>
  some zo1_1
 else
  some []
def I202_1(a2:Int)(x5:List Int)(v24_1:Int)(o1_1:(List Int))(e:Env)(h:Heap):Prop:=
 ∃u8 k9:Nat,h=⟨[(0,none),(u8,some (o1_1.map enc))],k9⟩∧e.length=38∧e.at 2=V.int .i64 a2∧e.at 7=V.sl 1 u8 0 o1_1.length 1∧e.at 22=V.isl (x5.map enc)∧e.at 23=V.int .i64 (x5.length:Int)∧e.at 24=V.int .i64 v24_1
def P202_1(a2:Int)(x5:List Int)(zo1_1:(List Int))(x:Ex)(e:Env)(h:Heap):Prop:=
 x= .normal∧∃u8 k9:Nat,h=⟨[(0,none),(u8,some (zo1_1.map enc))],k9⟩∧e.length=38∧e.at 7=V.sl 1 u8 0 zo1_1.length 1
theorem l202_1(a2:Int)(x5:List Int){lo:Int}{s:(List Int)}{t:(List Int)}(hF:forR lo (x5.length:Int) (F202_1_B a2 x5) (F202_1_D a2 x5) s=some t){e:Env}{h:Heap}(hI:I202_1 a2 x5 lo s e h):W A c202_1 e h (P202_1 a2 x5 t):=by
 show W A (.block 0 (.loop false b202_1)) e h _;rw[qh];refine qv hF 2 (by obtain⟨_,_,rfl,_⟩:=hI; rfl) (I202_1 a2 x5) hI ?_ ?_
 ·rintro v24_1 o1_1 e h ⟨u8,k9,rfl,h_7⟩ hlt hw o ho
  unfold F202_1_B at ho;obtain⟨x11,gx11,ho⟩:=bS ho;obtain⟨w12a,w12b⟩:=qf gx11;by_cases c13:x11≤a2
  ·rw[if_pos c13]at ho
   obtain⟨l15,gl15,ho⟩:=bS ho;have w14:=fun a b c d e=> qD (α:=Int) (n:=o1_1.length) (m:=1) (ds:=[V.int .i64 v24_1]) gl15 (by first|rfl|simp) (by first|rfl|simp) rfl a b c d e;have w14l:=qZ gl15;cases ho;simp only[simprocAttr,R0,b202_1, *];refine ai rfl (ei _ (ei _ (ai rfl ?_)));simp only[simprocAttr,R0, *]
  ·rw[if_neg c13]at ho
   cases ho;simp only[simprocAttr,R0,b202_1, *];refine ai rfl (ei _ (ei _ (ai rfl ?_)));simp only[simprocAttr,R0, *]
 ·rintro v24_1 o1_1 e h ⟨u8,k9,rfl,h_7⟩ hge t1 ho
  unfold F202_1_D at ho;cases ho;simp only[simprocAttr,R0,b202_1, *];intro ht;(first|subst ht|cases t);refine ai rfl (ei _ (ei _ (ai rfl ?_)));simp only[simprocAttr,R0, *]
theorem s202(a0:GFiltered)(a1:Int)(a2:Int){r:List Int}(hF:F202 a0 a1 a2=some r):ans A 202 [(eF a0),V.int .i64 a1,V.int .i64 a2]=some (enc r):=by
 refine qp (f:=p202) rfl rfl rfl fun e hl he=>?_;have h0_0:e.at 0=(eF a0):=he 0 _ rfl;have h1_0:e.at 1=V.int .i64 a1:=he 1 _ rfl;have h2_0:e.at 2=V.int .i64 a2:=he 2 _ rfl;have hl_0:e.length=38:=hl;clear he hl;show W A b202 e ⟨[],0⟩ _;unfold F202 at hF;obtain⟨x1,gx1,hF⟩:=bS hF;have w2:=s86 a0.Complex gx1;obtain⟨x3,gx3,hF⟩:=bS hF;have w4:=s56 a1 0 x1 gx3;cases x3 with
 |true=>
  rw[if_pos rfl]at hF;obtain⟨x5,gx5,hF⟩:=bS hF;obtain⟨w6a,w6b⟩:=qf gx5;obtain⟨zo1_1,gt16,hF⟩:=bS hF;simp only[simprocAttr, -Int.reduceNatCast',R0,b202, *];refine W.mono (l202_1 a2 x5 gt16 (ei _ (ei _ (ai rfl ?_)))) ?_
  ·simp only[simprocAttr, -Int.reduceNatCast',R0, *]
  rintro _ e _ ⟨rfl,u8,k9,rfl,hl_10,h7_10⟩;have hE:=wA hF; subst hE;simp only[simprocAttr, -Int.reduceNatCast',R0, *];exact qd (by simp only[simprocAttr, -Int.reduceNatCast',R0,qb,p202,Rs.ev,qa,frzs (α:=Int) zo1_1,zd (α:=Int) zo1_1, *])
 |false=>
  rw[if_neg wE]at hF;have hE:=wA hF; subst hE;simp only[simprocAttr, -Int.reduceNatCast',R0,b202, *];exact qd (by simp only[simprocAttr, -Int.reduceNatCast',R0,qb,p202,Rs.ev,qa, *])
def F211_1_B(a0:List Int)(a1:Int)(v8_1:Int)(s:Unit):Option ((Unit)⊕((Unit)⊕Int)):=
 (getI a0 v8_1).bind fun x4=>
if a1=x4 then
 some (.inr (.inr v8_1))
else
 some (.inl ())
def F211_1_D(a0:List Int)(a1:Int)(v8_1:Int)(s:Unit):Option ((Unit)⊕Int):=
 some (.inl ())
def F211(a0:List Int)(a1:Int):Option Int:=
 (forR 0 (a0.length:Int) (F211_1_B a0 a1) (F211_1_D a0 a1) ()).bind fun t7=> match t7 with
  | .inl _=>
   some (-1)
  | .inr r8=> some r8
def I211_1(a0:List Int)(a1:Int)(v8_1:Int)(s:Unit)(e:Env)(h:Heap):Prop:=
 ∃k2:Nat,h=⟨[],k2⟩∧e.length=19∧e.at 0=V.isl (a0.map enc)∧e.at 1=V.int .i64 a1∧e.at 7=V.int .i64 (a0.length:Int)∧e.at 8=V.int .i64 v8_1
def P211_1(a0:List Int)(a1:Int)(t:(Unit)⊕Int)(x:Ex)(e:Env)(h:Heap):Prop:=
 match t with
 | .inl _=> x= .normal∧∃k2:Nat,h=⟨[],k2⟩∧e.length=19
 | .inr r=> x= .ret∧Fin p211 (enc r) .ret e h
theorem l211_1(a0:List Int)(a1:Int){lo:Int}{s:Unit}{t:(Unit)⊕Int}(hF:forR lo (a0.length:Int) (F211_1_B a0 a1) (F211_1_D a0 a1) s=some t){e:Env}{h:Heap}(hI:I211_1 a0 a1 lo s e h):W A c211_1 e h (P211_1 a0 a1 t):=by
 show W A (.block 0 (.loop false b211_1)) e h _;rw[qh];refine qv hF 0 (by obtain⟨_,rfl,_⟩:=hI; rfl) (I211_1 a0 a1) hI ?_ ?_
 ·rintro v8_1 _ e h ⟨k2,rfl,h_1⟩ hlt hw o ho
  unfold F211_1_B at ho;obtain⟨x4,gx4,ho⟩:=bS ho;obtain⟨w5a,w5b⟩:=qf gx4;by_cases c6:a1=x4
  ·rw[if_pos c6]at ho
   cases ho;simp only[simprocAttr,R0,b211_1, *];intro ht;(first|subst ht|cases t);simp only[simprocAttr,RR,RB];exact ai rfl (qd (by simp only[simprocAttr,R0,qb,p211,Rs.ev,qa, *]))
  ·rw[if_neg c6]at ho
   cases ho;simp only[simprocAttr,R0,b211_1, *];refine ai rfl (ei _ (ai rfl ?_));simp only[simprocAttr,R0, *]
 ·rintro v8_1 _ e h ⟨k2,rfl,h_1⟩ hge t1 ho
  unfold F211_1_D at ho;cases ho;simp only[simprocAttr,R0,b211_1, *];intro ht;(first|subst ht|cases t);refine ai rfl (ei _ (ai rfl ?_));simp only[simprocAttr,R0, *]
theorem s211(a0:List Int)(a1:Int){r:Int}(hF:F211 a0 a1=some r):ans A 211 [V.isl (a0.map enc),V.int .i64 a1]=some (enc r):=by
 refine qp (f:=p211) rfl rfl rfl fun e hl he=>?_;have h0_0:e.at 0=V.isl (a0.map enc):=he 0 _ rfl;have h1_0:e.at 1=V.int .i64 a1:=he 1 _ rfl;have hl_0:e.length=19:=hl;clear he hl;have h_0:=ai hl_0 (ai h0_0 h1_0);show W A b211 e ⟨[],0⟩ _;unfold F211 at hF;obtain⟨t7,gt7,hF⟩:=bS hF;rcases t7 with _|r8
 ·dsimp only at hF
  simp only[simprocAttr,R0,b211, *];refine W.mono (l211_1 a0 a1 gt7 (ei _ (ai rfl ?_))) ?_
  ·simp only[simprocAttr,R0, *]
  rintro _ e _ ⟨rfl,k2,rfl,hl_3⟩;cases hF;simp only[simprocAttr,R0, *];exact qd (by simp only[simprocAttr,R0,qb,p211,Rs.ev,qa, *])
 ·dsimp only at hF
  cases hF;simp only[simprocAttr,R0,b211, *];refine W.mono (l211_1 a0 a1 gt7 (ei _ (ai rfl ?_))) ?_
  ·simp only[simprocAttr,R0, *]
  rintro _ e h ⟨rfl,hq⟩;simp only[simprocAttr,RR,RB];exact hq
def F203(a0:List Int)(a1:Int):Option Bool:=
 (F211 a0 a1).bind fun x1=>
 some (decide (0≤x1))
theorem s203(a0:List Int)(a1:Int){r:Bool}(hF:F203 a0 a1=some r):ans A 203 [V.isl (a0.map enc),V.int .i64 a1]=some (enc r):=by
 refine qp (f:=p203) rfl rfl rfl fun e hl he=>?_;have h0_0:e.at 0=V.isl (a0.map enc):=he 0 _ rfl;have h1_0:e.at 1=V.int .i64 a1:=he 1 _ rfl;have hl_0:e.length=9:=hl;clear he hl;show W A b203 e ⟨[],0⟩ _;unfold F203 at hF;obtain⟨x1,gx1,hF⟩:=bS hF;have w2:=s211 a0 a1 gx1;cases hF;simp only[simprocAttr,R0,b203, *];exact qd (by simp only[simprocAttr,R0,qb,p203,Rs.ev,qa, *])
def F184_1_B(a0:GFiltered)(a1:Int)(a2:Int)(a3:Int)(x1:List Int)(x4:Int)(v37_1:Int)(o3_1:(List Int)):Option (((List Int))⊕((List Int))):=
 (chk (a2 - 1)).bind fun x10=>
(chk (a3 - a1)).bind fun x11=>
(F202 a0 x10 x11).bind fun x12=>
(F203 x12 v37_1).bind fun x14=>
if x14=true then
 some (.inl o3_1)
else
 (app 8 o3_1 [v37_1]).bind fun l17=>
 some (.inl l17)
def F184_1_D(a0:GFiltered)(a1:Int)(a2:Int)(a3:Int)(x1:List Int)(x4:Int)(v37_1:Int)(o3_1:(List Int)):Option ((List Int)):=
 some o3_1
def F184_3_B(a0:GFiltered)(a2:Int)(x1:List Int)(zo3_1:List Int)(o2_2:List (List Int))(v57_2:Int)(x23:Int)(v64_3:Int)(o4_3:(List Int)):Option (((List Int))⊕((List Int))):=
 (getI zo3_1 v64_3).bind fun x29=>
(chk (a2 - 1)).bind fun x31=>
(getI a0.Complex.Maps x31).bind fun x32=>
(getI x32 x23).bind fun x34=>
(getI x34 x29).bind fun x36=>
(app 8 o4_3 [x36]).bind fun l39=>
some (.inl l39)
def F184_3_D(a0:GFiltered)(a2:Int)(x1:List Int)(zo3_1:List Int)(o2_2:List (List Int))(v57_2:Int)(x23:Int)(v64_3:Int)(o4_3:(List Int)):Option ((List Int)):=
 some o4_3
def F184_2_B(a0:GFiltered)(a2:Int)(x1:List Int)(zo3_1:List Int)(v57_2:Int)(o2_2:(List (List Int))):Option (((List (List Int)))⊕((List (List Int)))):=
 (getI x1 v57_2).bind fun x23=>
(forR 0 ((zo3_1.length:Nat):Int) (F184_3_B a0 a2 x1 zo3_1 o2_2 v57_2 x23) (F184_3_D a0 a2 x1 zo3_1 o2_2 v57_2 x23) ([]:(List Int))).bind fun zo4_3=>
(app 24 o2_2 [zo4_3]).bind fun l42=>
some (.inl l42)
def F184_2_D(a0:GFiltered)(a2:Int)(x1:List Int)(zo3_1:List Int)(v57_2:Int)(o2_2:(List (List Int))):Option ((List (List Int))):=
 some o2_2
def F184_5_B(a0:GFiltered)(a2:Int)(x1:List Int)(zo3_1:List Int)(x44:List (List Int))(o4_4:List (List Int))(v95_4:Int)(x50:List Int)(v105_5:Int)(o5_5:(List Int)):Option (((List Int))⊕((List Int))):=
 (getI x1 v105_5).bind fun x60=>
(getI x50 v105_5).bind fun x62=>
(getI o5_5 x60).bind fun x64=>
(setI o5_5 x60 x62).bind fun l66=>
some (.inl l66)
def F184_5_D(a0:GFiltered)(a2:Int)(x1:List Int)(zo3_1:List Int)(x44:List (List Int))(o4_4:List (List Int))(v95_4:Int)(x50:List Int)(v105_5:Int)(o5_5:(List Int)):Option ((List Int)):=
 some o5_5
def F184_4_B(a0:GFiltered)(a2:Int)(x1:List Int)(zo3_1:List Int)(x44:List (List Int))(v95_4:Int)(o4_4:(List (List Int))):Option (((List (List Int)))⊕((List (List Int)))):=
 (getI x44 v95_4).bind fun x50=>
(F102 a0.Complex a2).bind fun x52=>
(mkL 8 x52 0).bind fun l54=>
(forR 0 (x1.length:Int) (F184_5_B a0 a2 x1 zo3_1 x44 o4_4 v95_4 x50) (F184_5_D a0 a2 x1 zo3_1 x44 o4_4 v95_4 x50) l54).bind fun zo5_5=>
(app 24 o4_4 [zo5_5]).bind fun l70=>
some (.inl l70)
def F184_4_D(a0:GFiltered)(a2:Int)(x1:List Int)(zo3_1:List Int)(x44:List (List Int))(v95_4:Int)(o4_4:(List (List Int))):Option ((List (List Int))):=
 some o4_4
def F184(a0:GFiltered)(a1:Int)(a2:Int)(a3:Int):Option (List (List Int)):=
 (F202 a0 a2 a3).bind fun x1=>
 (chk (a2 - 1)).bind fun x3=>
 (F102 a0.Complex x3).bind fun x4=>
 (forR 0 x4 (F184_1_B a0 a1 a2 a3 x1 x4) (F184_1_D a0 a1 a2 a3 x1 x4) ([]:(List Int))).bind fun zo3_1=>
 (forR 0 (x1.length:Int) (F184_2_B a0 a2 x1 zo3_1) (F184_2_D a0 a2 x1 zo3_1) ([]:(List (List Int)))).bind fun zo2_2=>
 (F125 a0.Complex.Prime zo2_2).bind fun x44=>
 (forR 0 (x44.length:Int) (F184_4_B a0 a2 x1 zo3_1 x44) (F184_4_D a0 a2 x1 zo3_1 x44) ([]:(List (List Int)))).bind fun zo4_4=>
 (F133 a0.Complex.Prime zo4_4).bind fun x72=>
 some x72
def I184_1(a0:GFiltered)(a1:Int)(a2:Int)(a3:Int)(x1:List Int)(x4:Int)(v37_1:Int)(o3_1:(List Int))(e:Env)(h:Heap):Prop:=
 ∃u7 k8:Nat,h=⟨[(0,none),(1,some [V.int .i64 a0.Complex.Prime,V.isl (a0.Complex.Dims.map enc),V.isl (a0.Complex.Maps.map enc)]),(2,some []),(u7,some (o3_1.map enc))],k8⟩∧e.length=127∧e.at 1=V.int .i64 a1∧e.at 2=V.int .i64 a2∧e.at 3=V.int .i64 a3∧e.at 4=V.iptr [V.int .i64 a0.Complex.Prime,V.isl (a0.Complex.Dims.map enc),V.isl (a0.Complex.Maps.map enc),V.isl (a0.Levels.map enc)]∧e.at 9=V.ptr 1 1 0∧e.at 10=V.isl (x1.map enc)∧e.at 11=V.sl 2 2 0 0 1∧e.at 12=V.sl 3 u7 0 o3_1.length 1∧e.at 36=V.int .i64 x4∧e.at 37=V.int .i64 v37_1
def P184_1(a0:GFiltered)(a1:Int)(a2:Int)(a3:Int)(x1:List Int)(x4:Int)(zo3_1:(List Int))(x:Ex)(e:Env)(h:Heap):Prop:=
 x= .normal∧∃u7 k8:Nat,h=⟨[(0,none),(1,some [V.int .i64 a0.Complex.Prime,V.isl (a0.Complex.Dims.map enc),V.isl (a0.Complex.Maps.map enc)]),(2,some []),(u7,some (zo3_1.map enc))],k8⟩∧e.length=127∧e.at 2=V.int .i64 a2∧e.at 9=V.ptr 1 1 0∧e.at 10=V.isl (x1.map enc)∧e.at 11=V.sl 2 2 0 0 1∧e.at 12=V.sl 3 u7 0 zo3_1.length 1
theorem l184_1(a0:GFiltered)(a1:Int)(a2:Int)(a3:Int)(x1:List Int)(x4:Int){lo:Int}{s:(List Int)}{t:(List Int)}(hF:forR lo x4 (F184_1_B a0 a1 a2 a3 x1 x4) (F184_1_D a0 a1 a2 a3 x1 x4) s=some t){e:Env}{h:Heap}(hI:I184_1 a0 a1 a2 a3 x1 x4 lo s e h):W A c184_1 e h (P184_1 a0 a1 a2 a3 x1 x4 t):=by
 show W A (.block 0 (.loop false b184_1)) e h _;rw[qh];refine qv hF 4 (by obtain⟨_,_,rfl,_⟩:=hI; rfl) (I184_1 a0 a1 a2 a3 x1 x4) hI ?_ ?_
 ·rintro v37_1 o3_1 e h ⟨u7,k8,rfl,h_6⟩ hlt hw o ho
  unfold F184_1_B at ho;obtain⟨x10,gx10,ho⟩:=bS ho;have wx10:=qm gx10;obtain⟨x11,gx11,ho⟩:=bS ho;have wx11:=qm gx11;obtain⟨x12,gx12,ho⟩:=bS ho;have w13:=s202 a0 x10 x11 gx12;obtain⟨x14,gx14,ho⟩:=bS ho;have w15:=s203 x12 v37_1 gx14;cases x14 with
  |true=>
   rw[if_pos rfl]at ho;cases ho;simp only[simprocAttr,R0,b184_1, *];refine ai rfl (ei _ (ei _ (ai rfl ?_)));simp only[simprocAttr,R0, *]
  |false=>
   rw[if_neg wE]at ho;obtain⟨l17,gl17,ho⟩:=bS ho;have w16:=fun a b c d e=> qD (α:=Int) (n:=o3_1.length) (m:=1) (ds:=[V.int .i64 v37_1]) gl17 (by first|rfl|simp) (by first|rfl|simp) rfl a b c d e;have w16l:=qZ gl17;cases ho;simp only[simprocAttr,R0,b184_1, *];refine ai rfl (ei _ (ei _ (ai rfl ?_)));simp only[simprocAttr,R0, *]
 ·rintro v37_1 o3_1 e h ⟨u7,k8,rfl,h_6⟩ hge t1 ho
  unfold F184_1_D at ho;cases ho;simp only[simprocAttr,R0,b184_1, *];intro ht;(first|subst ht|cases t);refine ai rfl (ei _ (ei _ (ai rfl ?_)));simp only[simprocAttr,R0, *]
def I184_3(a0:GFiltered)(a2:Int)(x1:List Int)(zo3_1:List Int)(o2_2:List (List Int))(v57_2:Int)(x23:Int)(u7 u20:Nat)(v64_3:Int)(o4_3:(List Int))(e:Env)(h:Heap):Prop:=
 ∃u26 k27:Nat,h=⟨[(0,none),(1,some [V.int .i64 a0.Complex.Prime,V.isl (a0.Complex.Dims.map enc),V.isl (a0.Complex.Maps.map enc)]),(u20,some (o2_2.map enc)),(u7,some (zo3_1.map enc)),(u26,some (o4_3.map enc))],k27⟩∧e.length=127∧e.at 2=V.int .i64 a2∧e.at 9=V.ptr 1 1 0∧e.at 10=V.isl (x1.map enc)∧e.at 11=V.sl 2 u20 0 o2_2.length 1∧e.at 12=V.sl 3 u7 0 zo3_1.length 1∧e.at 15=V.int .i64 x23∧e.at 16=V.sl 4 u26 0 o4_3.length 1∧e.at 55=V.isl (x1.map enc)∧e.at 56=V.int .i64 (x1.length:Int)∧e.at 57=V.int .i64 v57_2∧e.at 62=V.sl 3 u7 0 zo3_1.length 1∧e.at 63=V.int .i64 ((zo3_1.length:Nat):Int)∧e.at 64=V.int .i64 v64_3
def P184_3(a0:GFiltered)(a2:Int)(x1:List Int)(zo3_1:List Int)(o2_2:List (List Int))(v57_2:Int)(x23:Int)(u7 u20:Nat)(zo4_3:(List Int))(x:Ex)(e:Env)(h:Heap):Prop:=
 x= .normal∧∃u26 k27:Nat,h=⟨[(0,none),(1,some [V.int .i64 a0.Complex.Prime,V.isl (a0.Complex.Dims.map enc),V.isl (a0.Complex.Maps.map enc)]),(u20,some (o2_2.map enc)),(u7,some (zo3_1.map enc)),(u26,some (zo4_3.map enc))],k27⟩∧e.length=127∧e.at 2=V.int .i64 a2∧e.at 9=V.ptr 1 1 0∧e.at 10=V.isl (x1.map enc)∧e.at 11=V.sl 2 u20 0 o2_2.length 1∧e.at 12=V.sl 3 u7 0 zo3_1.length 1∧e.at 16=V.sl 4 u26 0 zo4_3.length 1∧e.at 55=V.isl (x1.map enc)∧e.at 56=V.int .i64 (x1.length:Int)∧e.at 57=V.int .i64 v57_2
theorem l184_3(a0:GFiltered)(a2:Int)(x1:List Int)(zo3_1:List Int)(o2_2:List (List Int))(v57_2:Int)(x23:Int)(u7 u20:Nat){lo:Int}{s:(List Int)}{t:(List Int)}(hF:forR lo ((zo3_1.length:Nat):Int) (F184_3_B a0 a2 x1 zo3_1 o2_2 v57_2 x23) (F184_3_D a0 a2 x1 zo3_1 o2_2 v57_2 x23) s=some t){e:Env}{h:Heap}(hI:I184_3 a0 a2 x1 zo3_1 o2_2 v57_2 x23 u7 u20 lo s e h):W A c184_3 e h (P184_3 a0 a2 x1 zo3_1 o2_2 v57_2 x23 u7 u20 t):=by
 show W A (.block 4 (.loop false b184_3)) e h _;rw[qh];refine qv hF 5 (by obtain⟨_,_,rfl,_⟩:=hI; rfl) (I184_3 a0 a2 x1 zo3_1 o2_2 v57_2 x23 u7 u20) hI ?_ ?_
 ·rintro v64_3 o4_3 e h ⟨u26,k27,rfl,h_25⟩ hlt hw o ho
  unfold F184_3_B at ho;obtain⟨x29,gx29,ho⟩:=bS ho;obtain⟨w30a,w30b⟩:=qf gx29;have w30c:=za gx29;have w30d:List.drop (Int.toNat v64_3) (zo3_1.map enc)=(V.int .i64 x29)::List.drop ((Int.toNat v64_3)+1) (zo3_1.map enc):=jG w30b;obtain⟨x31,gx31,ho⟩:=bS ho;have wx31:=qm gx31;obtain⟨x32,gx32,ho⟩:=bS ho;obtain⟨w33a,w33b⟩:=qf gx32;obtain⟨x34,gx34,ho⟩:=bS ho;obtain⟨w35a,w35b⟩:=qf gx34;obtain⟨x36,gx36,ho⟩:=bS ho;obtain⟨w37a,w37b⟩:=qf gx36;obtain⟨l39,gl39,ho⟩:=bS ho;have w38:=fun a b c d e=> qD (α:=Int) (n:=o4_3.length) (m:=1) (ds:=[V.int .i64 x36]) gl39 (by first|rfl|simp) (by first|rfl|simp) rfl a b c d e;have w38l:=qZ gl39;cases ho;simp only[simprocAttr,R0,b184_3, *];refine ai rfl (ei _ (ei _ (ai rfl ?_)));simp only[simprocAttr,R0, *]
 ·rintro v64_3 o4_3 e h ⟨u26,k27,rfl,h_25⟩ hge t1 ho
  unfold F184_3_D at ho;cases ho;simp only[simprocAttr,R0,b184_3, *];intro ht;(first|subst ht|cases t);refine ai rfl (ei _ (ei _ (ai rfl ?_)));simp only[simprocAttr,R0, *]
def I184_2(a0:GFiltered)(a2:Int)(x1:List Int)(zo3_1:List Int)(u7:Nat)(v57_2:Int)(o2_2:(List (List Int)))(e:Env)(h:Heap):Prop:=
 ∃u20 k21:Nat,h=⟨[(0,none),(1,some [V.int .i64 a0.Complex.Prime,V.isl (a0.Complex.Dims.map enc),V.isl (a0.Complex.Maps.map enc)]),(u20,some (o2_2.map enc)),(u7,some (zo3_1.map enc))],k21⟩∧e.length=127∧e.at 2=V.int .i64 a2∧e.at 9=V.ptr 1 1 0∧e.at 10=V.isl (x1.map enc)∧e.at 11=V.sl 2 u20 0 o2_2.length 1∧e.at 12=V.sl 3 u7 0 zo3_1.length 1∧e.at 55=V.isl (x1.map enc)∧e.at 56=V.int .i64 (x1.length:Int)∧e.at 57=V.int .i64 v57_2
def P184_2(a0:GFiltered)(a2:Int)(x1:List Int)(zo3_1:List Int)(u7:Nat)(zo2_2:(List (List Int)))(x:Ex)(e:Env)(h:Heap):Prop:=
 x= .normal∧∃u20 k21:Nat,h=⟨[(0,none),(1,some [V.int .i64 a0.Complex.Prime,V.isl (a0.Complex.Dims.map enc),V.isl (a0.Complex.Maps.map enc)]),(u20,some (zo2_2.map enc)),(u7,some (zo3_1.map enc))],k21⟩∧e.length=127∧e.at 2=V.int .i64 a2∧e.at 9=V.ptr 1 1 0∧e.at 10=V.isl (x1.map enc)∧e.at 11=V.sl 2 u20 0 zo2_2.length 1
theorem l184_2(a0:GFiltered)(a2:Int)(x1:List Int)(zo3_1:List Int)(u7:Nat){lo:Int}{s:(List (List Int))}{t:(List (List Int))}(hF:forR lo (x1.length:Int) (F184_2_B a0 a2 x1 zo3_1) (F184_2_D a0 a2 x1 zo3_1) s=some t){e:Env}{h:Heap}(hI:I184_2 a0 a2 x1 zo3_1 u7 lo s e h):W A c184_2 e h (P184_2 a0 a2 x1 zo3_1 u7 t):=by
 show W A (.block 2 (.loop false b184_2)) e h _;rw[qh];refine qv hF 4 (by obtain⟨_,_,rfl,_⟩:=hI; rfl) (I184_2 a0 a2 x1 zo3_1 u7) hI ?_ ?_
 ·rintro v57_2 o2_2 e h ⟨u20,k21,rfl,h_19⟩ hlt hw o ho
  unfold F184_2_B at ho;obtain⟨x23,gx23,ho⟩:=bS ho;obtain⟨w24a,w24b⟩:=qf gx23;obtain⟨zo4_3,gt40,ho⟩:=bS ho;simp only[simprocAttr,R0,b184_2, *];refine W.mono (l184_3 a0 a2 x1 zo3_1 o2_2 v57_2 x23 u7 u20 gt40 (ei _ (ei _ (ai rfl ?_)))) ?_
  ·simp only[simprocAttr,R0, *]
  rintro _ e _ ⟨rfl,u26,k27,rfl,h_28⟩;obtain⟨l42,gl42,ho⟩:=bS ho;have w41:=fun a b c d e=> qD (α:=List Int) (n:=o2_2.length) (m:=1) (ds:=[V.isl (zo4_3.map enc)]) gl42 (by first|rfl|simp) (by first|rfl|simp) rfl a b c d e;have w41l:=qZ gl42;cases ho;simp only[simprocAttr,R0,zd (α:=Int) zo4_3, *];refine ai rfl (ei _ (ei _ (ai rfl ?_)));simp only[simprocAttr,R0,zd (α:=Int) zo4_3, *]
 ·rintro v57_2 o2_2 e h ⟨u20,k21,rfl,h_19⟩ hge t1 ho
  unfold F184_2_D at ho;cases ho;simp only[simprocAttr,R0,b184_2, *];intro ht;(first|subst ht|cases t);refine ai rfl (ei _ (ei _ (ai rfl ?_)));simp only[simprocAttr,R0, *]
def I184_5(a0:GFiltered)(a2:Int)(x1:List Int)(zo3_1:List Int)(x44:List (List Int))(o4_4:List (List Int))(v95_4:Int)(x50:List Int)(u7 u47:Nat)(v105_5:Int)(o5_5:(List Int))(e:Env)(h:Heap):Prop:=
 ∃u57 k58:Nat,h=⟨[(0,none),(1,some [V.int .i64 a0.Complex.Prime,V.isl (a0.Complex.Dims.map enc),V.isl (a0.Complex.Maps.map enc)]),(0,none),(u7,some (zo3_1.map enc)),(u47,some (o4_4.map enc)),(u57,some (o5_5.map enc))],k58⟩∧e.length=127∧e.at 2=V.int .i64 a2∧e.at 9=V.ptr 1 1 0∧e.at 10=V.isl (x1.map enc)∧e.at 19=V.sl 4 u47 0 o4_4.length 1∧e.at 21=V.isl (x50.map enc)∧e.at 22=V.sl 5 u57 0 o5_5.length 1∧e.at 93=V.isl (x44.map enc)∧e.at 94=V.int .i64 (x44.length:Int)∧e.at 95=V.int .i64 v95_4∧e.at 103=V.isl (x1.map enc)∧e.at 104=V.int .i64 (x1.length:Int)∧e.at 105=V.int .i64 v105_5
def P184_5(a0:GFiltered)(a2:Int)(x1:List Int)(zo3_1:List Int)(x44:List (List Int))(o4_4:List (List Int))(v95_4:Int)(x50:List Int)(u7 u47:Nat)(zo5_5:(List Int))(x:Ex)(e:Env)(h:Heap):Prop:=
 x= .normal∧∃u57 k58:Nat,h=⟨[(0,none),(1,some [V.int .i64 a0.Complex.Prime,V.isl (a0.Complex.Dims.map enc),V.isl (a0.Complex.Maps.map enc)]),(0,none),(u7,some (zo3_1.map enc)),(u47,some (o4_4.map enc)),(u57,some (zo5_5.map enc))],k58⟩∧e.length=127∧e.at 2=V.int .i64 a2∧e.at 9=V.ptr 1 1 0∧e.at 10=V.isl (x1.map enc)∧e.at 19=V.sl 4 u47 0 o4_4.length 1∧e.at 22=V.sl 5 u57 0 zo5_5.length 1∧e.at 93=V.isl (x44.map enc)∧e.at 94=V.int .i64 (x44.length:Int)∧e.at 95=V.int .i64 v95_4
theorem l184_5(a0:GFiltered)(a2:Int)(x1:List Int)(zo3_1:List Int)(x44:List (List Int))(o4_4:List (List Int))(v95_4:Int)(x50:List Int)(u7 u47:Nat){lo:Int}{s:(List Int)}{t:(List Int)}(hF:forR lo (x1.length:Int) (F184_5_B a0 a2 x1 zo3_1 x44 o4_4 v95_4 x50) (F184_5_D a0 a2 x1 zo3_1 x44 o4_4 v95_4 x50) s=some t){e:Env}{h:Heap}(hI:I184_5 a0 a2 x1 zo3_1 x44 o4_4 v95_4 x50 u7 u47 lo s e h):W A c184_5 e h (P184_5 a0 a2 x1 zo3_1 x44 o4_4 v95_4 x50 u7 u47 t):=by
 show W A (.block 8 (.loop false b184_5)) e h _;rw[qh];refine qv hF 6 (by obtain⟨_,_,rfl,_⟩:=hI; rfl) (I184_5 a0 a2 x1 zo3_1 x44 o4_4 v95_4 x50 u7 u47) hI ?_ ?_
 ·rintro v105_5 o5_5 e h ⟨u57,k58,rfl,h_56⟩ hlt hw o ho
  unfold F184_5_B at ho;obtain⟨x60,gx60,ho⟩:=bS ho;obtain⟨w61a,w61b⟩:=qf gx60;obtain⟨x62,gx62,ho⟩:=bS ho;obtain⟨w63a,w63b⟩:=qf gx62;obtain⟨x64,gx64,ho⟩:=bS ho;obtain⟨w65a,w65b⟩:=qf gx64;have w65c:=za gx64;have w65d:List.drop (Int.toNat x60) (o5_5.map enc)=(V.int .i64 x64)::List.drop ((Int.toNat x60)+1) (o5_5.map enc):=jG w65b;obtain⟨l66,gl66,ho⟩:=bS ho;obtain⟨w67a,w67b,w67c,w67d,w67e⟩:=setI_w gl66;replace w67e:List.take (Int.toNat x60) (o5_5.map enc)++[V.int .i64 x62]++List.drop (Int.toNat x60+1) (o5_5.map enc)=List.map enc l66:=w67e;cases ho;simp only[simprocAttr,R0,b184_5, *];refine ai rfl (ei _ (ei _ (ai rfl ?_)));simp only[simprocAttr,R0, *]
 ·rintro v105_5 o5_5 e h ⟨u57,k58,rfl,h_56⟩ hge t1 ho
  unfold F184_5_D at ho;cases ho;simp only[simprocAttr,R0,b184_5, *];intro ht;(first|subst ht|cases t);refine ai rfl (ei _ (ei _ (ai rfl ?_)));simp only[simprocAttr,R0, *]
def I184_4(a0:GFiltered)(a2:Int)(x1:List Int)(zo3_1:List Int)(x44:List (List Int))(u7:Nat)(v95_4:Int)(o4_4:(List (List Int)))(e:Env)(h:Heap):Prop:=
 ∃u47 k48:Nat,h=⟨[(0,none),(1,some [V.int .i64 a0.Complex.Prime,V.isl (a0.Complex.Dims.map enc),V.isl (a0.Complex.Maps.map enc)]),(0,none),(u7,some (zo3_1.map enc)),(u47,some (o4_4.map enc))],k48⟩∧e.length=127∧e.at 2=V.int .i64 a2∧e.at 9=V.ptr 1 1 0∧e.at 10=V.isl (x1.map enc)∧e.at 19=V.sl 4 u47 0 o4_4.length 1∧e.at 93=V.isl (x44.map enc)∧e.at 94=V.int .i64 (x44.length:Int)∧e.at 95=V.int .i64 v95_4
def P184_4(a0:GFiltered)(a2:Int)(x1:List Int)(zo3_1:List Int)(x44:List (List Int))(u7:Nat)(zo4_4:(List (List Int)))(x:Ex)(e:Env)(h:Heap):Prop:=
 x= .normal∧∃u47 k48:Nat,h=⟨[(0,none),(1,some [V.int .i64 a0.Complex.Prime,V.isl (a0.Complex.Dims.map enc),V.isl (a0.Complex.Maps.map enc)]),(0,none),(u7,some (zo3_1.map enc)),(u47,some (zo4_4.map enc))],k48⟩∧e.length=127∧e.at 9=V.ptr 1 1 0∧e.at 19=V.sl 4 u47 0 zo4_4.length 1
theorem l184_4(a0:GFiltered)(a2:Int)(x1:List Int)(zo3_1:List Int)(x44:List (List Int))(u7:Nat){lo:Int}{s:(List (List Int))}{t:(List (List Int))}(hF:forR lo (x44.length:Int) (F184_4_B a0 a2 x1 zo3_1 x44) (F184_4_D a0 a2 x1 zo3_1 x44) s=some t){e:Env}{h:Heap}(hI:I184_4 a0 a2 x1 zo3_1 x44 u7 lo s e h):W A c184_4 e h (P184_4 a0 a2 x1 zo3_1 x44 u7 t):=by
 show W A (.block 6 (.loop false b184_4)) e h _;rw[qh];refine qv hF 5 (by obtain⟨_,_,rfl,_⟩:=hI; rfl) (I184_4 a0 a2 x1 zo3_1 x44 u7) hI ?_ ?_
 ·rintro v95_4 o4_4 e h ⟨u47,k48,rfl,h_46⟩ hlt hw o ho
  unfold F184_4_B at ho;obtain⟨x50,gx50,ho⟩:=bS ho;obtain⟨w51a,w51b⟩:=qf gx50;obtain⟨x52,gx52,ho⟩:=bS ho;have w53:=s102 a0.Complex a2 gx52;obtain⟨l54,gl54,ho⟩:=bS ho;obtain⟨w55a,w55b,w55c,w55d,w55e⟩:=mkL_w gl54;replace w55e:(List.replicate (Int.toNat x52) [V.int .i64 0]).flatten=List.map enc l54:=w55e;obtain⟨zo5_5,gt68,ho⟩:=bS ho;simp only[simprocAttr, -Int.reduceNatCast',R0,b184_4, *];refine W.mono (l184_5 a0 a2 x1 zo3_1 x44 o4_4 v95_4 x50 u7 u47 gt68 (ei _ (ei _ (ai rfl ?_)))) ?_
  ·simp only[simprocAttr, -Int.reduceNatCast',R0, *]
  rintro _ e _ ⟨rfl,u57,k58,rfl,h_59⟩;obtain⟨l70,gl70,ho⟩:=bS ho;have w69:=fun a b c d e=> qD (α:=List Int) (n:=o4_4.length) (m:=1) (ds:=[V.isl (zo5_5.map enc)]) gl70 (by first|rfl|simp) (by first|rfl|simp) rfl a b c d e;have w69l:=qZ gl70;cases ho;simp only[simprocAttr, -Int.reduceNatCast',R0,zd (α:=Int) zo5_5, *];refine ai rfl (ei _ (ei _ (ai rfl ?_)));simp only[simprocAttr, -Int.reduceNatCast',R0,zd (α:=Int) zo5_5, *]
 ·rintro v95_4 o4_4 e h ⟨u47,k48,rfl,h_46⟩ hge t1 ho
  unfold F184_4_D at ho;cases ho;simp only[simprocAttr, -Int.reduceNatCast',R0,b184_4, *];intro ht;(first|subst ht|cases t);refine ai rfl (ei _ (ei _ (ai rfl ?_)));simp only[simprocAttr, -Int.reduceNatCast',R0, *]
theorem s184(a0:GFiltered)(a1:Int)(a2:Int)(a3:Int){r:List (List Int)}(hF:F184 a0 a1 a2 a3=some r):ans A 184 [(eF a0),V.int .i64 a1,V.int .i64 a2,V.int .i64 a3]=some (enc r):=by
 refine qp (f:=p184) rfl rfl rfl fun e hl he=>?_;have h0_0:e.at 0=(eF a0):=he 0 _ rfl;have h1_0:e.at 1=V.int .i64 a1:=he 1 _ rfl;have h2_0:e.at 2=V.int .i64 a2:=he 2 _ rfl;have h3_0:e.at 3=V.int .i64 a3:=he 3 _ rfl;have hl_0:e.length=127:=hl;clear he hl;show W A b184 e ⟨[],0⟩ _;unfold F184 at hF;obtain⟨x1,gx1,hF⟩:=bS hF;have w2:=s202 a0 a2 a3 gx1;obtain⟨x3,gx3,hF⟩:=bS hF;have wx3:=qm gx3;obtain⟨x4,gx4,hF⟩:=bS hF;have w5:=s102 a0.Complex x3 gx4;obtain⟨zo3_1,gt18,hF⟩:=bS hF;simp only[simprocAttr,R0,b184, *];refine W.mono (l184_1 a0 a1 a2 a3 x1 x4 gt18 (ei _ (ei _ (ai rfl ?_)))) ?_
 ·simp only[simprocAttr,R0, *]
 rintro _ e _ ⟨rfl,u7,k8,rfl,h_9⟩;obtain⟨zo2_2,gt43,hF⟩:=bS hF;simp only[simprocAttr,R0, *];refine W.mono (l184_2 a0 a2 x1 zo3_1 u7 gt43 (ei _ (ei _ (ai rfl ?_)))) ?_
 ·simp only[simprocAttr,R0, *]
 rintro _ e _ ⟨rfl,u20,k21,rfl,h_22⟩;obtain⟨x44,gx44,hF⟩:=bS hF;have w45:=s125 a0.Complex.Prime zo2_2 gx44;obtain⟨zo4_4,gt71,hF⟩:=bS hF;simp only[simprocAttr,R0,zd (α:=List Int) zo2_2, *];refine W.mono (l184_4 a0 a2 x1 zo3_1 x44 u7 gt71 (ei _ (ei _ (ai rfl ?_)))) ?_
 ·simp only[simprocAttr,R0,zd (α:=List Int) zo2_2, *]
 rintro _ e _ ⟨rfl,u47,k48,rfl,h_49⟩;obtain⟨x72,gx72,hF⟩:=bS hF;have w73:=s133 a0.Complex.Prime zo4_4 gx72;cases hF;simp only[simprocAttr,R0,zd (α:=List Int) zo4_4, *];exact qd (by simp only[simprocAttr,R0,qb,p184,Rs.ev,qa,zd (α:=List Int) zo4_4, *])
def F200_1_B(ls:List (List (List Int)))(i:Int)(s:Int):Option (Int⊕Int):=(getI ls i).bind fun l=>(chk (s+(l.length:Int))).bind fun n=> if n < 0 then none else some (.inl n)
def F200_1_D(i:Int)(s:Int):Option Int:=some s
def F200_2_B(ls:List (List (List Int)))(i:Int)(s:List (List Int)):Option (List (List Int)⊕List (List Int)):=(getI ls i).bind fun l=>(app 24 s l).bind fun r=> some (.inl r)
def F200_2_D(i:Int)(s:List (List Int)):Option (List (List Int)):=some s
def F200(ls:List (List (List Int))):Option (List (List Int)):=(forR 0 (ls.length:Int) (F200_1_B ls) F200_1_D 0).bind fun n=> if 0≤n∧n*24≤1099511627776 then forR 0 (ls.length:Int) (F200_2_B ls) F200_2_D []else none
def GR200(v:V)(l:List (List Int))(E:List (Nat×Option (List V))):Prop:=(v= .nils∧l=[])∨∃key uid cs,v= .sl key uid 0 l.length 1∧E[key]? =some (uid,some (List.map enc l++cs))
theorem ap200{l l' l2:List (List Int)}{v:V}{E:List (Nat×Option (List V))}{c:Nat}(g:app 24 l l'=some l2)(h:GR200 v l E):∃v' E' c',qO 1 24 v l'.length (List.map enc l') ⟨E,c⟩=some (v',⟨E',c'⟩)∧GR200 v' l2 E':=by
 obtain⟨q1,q2,rfl⟩:=app_w g;by_cases h0:l'.length=0
 ·have:l'=[]:=wQ h0
  subst this;rw[vF];rcases h with⟨rfl,rfl⟩|⟨key,uid,cs,rfl,h1⟩
  ·exact⟨_,_,_,rfl,.inl ⟨rfl,rfl⟩⟩
  ·exact⟨_,_,_,rfl,.inr ⟨key,uid,cs,rfl,h1⟩⟩
 ·rcases h with⟨rfl,rfl⟩|⟨key,uid,cs,rfl,h1⟩
  ·refine⟨.sl E.length c 0 l'.length 1,E++[(c,some (List.map enc l'))],c+1,?_,.inr ⟨E.length,c,[],rfl,?_⟩⟩
   ·simp only[vH,wP]at q1 q2
    unfold qO;rw[if_neg h0];simp only;rw[if_pos ⟨q1,q2⟩]; rfl
   ·rw[qH,vS,vF]
  ·have hk:key < E.length:=(List.getElem?_eq_some_iff.1 h1).1
   refine⟨.sl key c 0 (l++l').length 1,E.set key (c,some (List.map enc (l++l'))),c+1,?_,.inr ⟨key,c,[],rfl,?_⟩⟩
   ·have hg:Heap.get ⟨E,c⟩ key uid=some (List.map enc l++cs):=by simp[Heap.get,h1]
    unfold qO;rw[if_neg h0];simp only[hg];rw[if_pos ⟨by simp,by trivial,q1,q2⟩];have e:List.take (l.length*1) (List.drop 0 (List.map enc l++cs))=List.map enc l:=by rw[vD,vY,List.take_append_of_le_length (by simp)]; exact wL (by simp)
    rw[e,←uE,wI]; rfl
   ·rw[vF,List.getElem?_set_self hk]
theorem fz200{l:List (List Int)}{v:V}{E:List (Nat×Option (List V))}{c:Nat}(h:GR200 v l E):frz ⟨E,c⟩ FZ v=some (V.isl (l.map enc)):=by
 rcases h with⟨rfl,rfl⟩|⟨key,uid,cs,rfl,h1⟩
 ·rfl
 ·have hg:Heap.get ⟨E,c⟩ key uid=some (List.map enc l++cs):=by simp[Heap.get,h1]
  show frz ⟨E,c⟩ (15+1) _=_;have e:List.take (l.length*1) (List.drop 0 (List.map enc l++cs))=List.map enc l:=by rw[vD,vY,List.take_append_of_le_length (by simp)]; exact wL (by simp)
  simp only[frz,hg];rw[if_pos ⟨by simp,by decide⟩,e,frzs (α:=List Int) l];simp[zT]
theorem g201{n:Int}(h0:0≤n)(h1:n*24≤1099511627776):∃v h',res A 201 [V.nils,V.int .i64 n] ⟨[],0⟩=some (v,h')∧GR200 v [] h'.ents:=by
 refine res_dp (f:=p201) rfl rfl rfl fun e hl he=>?_;have h0_0:e.at 0=V.nils:=he 0 _ rfl;have h1_0:e.at 1=V.int .i64 n:=he 1 _ rfl;have hl_0:e.length=27:=hl;clear he hl;show W A b201 e ⟨[],0⟩ _;have z0:((0:Nat):Int)=0:=rfl;have z1:(0:Int)≤(n.toNat:Int):=Int.natCast_nonneg _;have z24:((24:Nat):Int)=24:=rfl;have w0:Go.IntKind.wrap .i64 (0 - 0)=0:=by decide
 have w1:Go.IntKind.wrap .i64 (n - 0)=n:=by rw[Int.sub_zero]; exact wrap_i64 (by omega) (by omega)
 have c0:¬n < 0:=by omega
 by_cases c1:0 < n
 ·have c2:¬n.toNat=0:=by omega
  have c3:n.toNat*24≤1099511627776∧n.toNat≤1099511627776:=⟨by omega,by omega⟩;have c4:0≤n∧n≤1099511627776∧n*24≤1099511627776:=⟨h0,by omega,h1⟩;simp only[↓reduceIte,Nat.reduceAdd,Nat.reduceMul,Nat.reduceSub,Nat.reduceLT,Nat.reduceLeDiff,Nat.reduceEqDiff,Nat.reducePow,Int.reducePow,Int.reduceLE,Int.reduceLT,Int.reduceEq,Int.reduceToNat,reduceCtorEq,R0,b201,z0,z24,eq_true z1,eq_true h1,true_or,jD,zR,lenV,intV,qO,Option.map,X.ev,decide_true,decide_false, *];refine ai (fun _=> trivial) ⟨_,by simp only[↓reduceIte,Nat.reduceAdd,Nat.reduceMul,Nat.reduceSub,Nat.reduceLT,Nat.reduceLeDiff,Nat.reduceEqDiff,Nat.reducePow,Int.reducePow,Int.reduceLE,Int.reduceLT,Int.reduceEq,Int.reduceToNat,reduceCtorEq,R0,qb,p201,Rs.ev, *],.inr ⟨0,0,_,rfl,rfl⟩⟩
 ·have:n=0:=by omega
  subst this;simp only[↓reduceIte,Nat.reduceAdd,Nat.reduceMul,Nat.reduceSub,Nat.reduceLT,Nat.reduceLeDiff,Nat.reduceEqDiff,Nat.reducePow,Int.reducePow,Int.reduceLE,Int.reduceLT,Int.reduceEq,Int.reduceToNat,reduceCtorEq,R0,b201,z0,z24,eq_true z1,eq_true h1,true_or,jD,zR,lenV,intV,qO,Option.map,X.ev, *];refine ai (fun _=> trivial) ⟨_,by simp only[↓reduceIte,Nat.reduceAdd,Nat.reduceMul,Nat.reduceSub,Nat.reduceLT,Nat.reduceLeDiff,Nat.reduceEqDiff,Nat.reducePow,Int.reducePow,Int.reduceLE,Int.reduceLT,Int.reduceEq,Int.reduceToNat,reduceCtorEq,R0,qb,p201,Rs.ev, *],.inl ⟨rfl,rfl⟩⟩
theorem s200(ls:List (List (List Int))){r:List (List Int)}(hF:F200 ls=some r):ans A 200 [V.isl (ls.map enc)]=some (V.isl (r.map enc)):=by
 refine qp (f:=p200) rfl rfl rfl fun e hl he=>?_;have h0_0:e.at 0=V.isl (ls.map enc):=he 0 _ rfl;have hl_0:e.length=36:=hl;clear he hl;show W A b200 e ⟨[],0⟩ _;unfold F200 at hF;obtain⟨n,gn,hF⟩:=bS hF;by_cases c0:0≤n∧n*24≤1099511627776
 case neg=> rw[if_neg c0]at hF; cases hF
 rw[if_pos c0]at hF;obtain⟨v0,⟨E0,k0⟩,g1,g2⟩:=g201 c0.1 c0.2;simp only[simprocAttr,R0,b200, *];refine W.mono (Q:=fun x e h=> x= .normal∧h=⟨[],0⟩∧e.length=36∧e.at 0=V.isl (ls.map enc)∧e.at 3=V.int .i64 n) ?_ ?_
 ·show W A (.block 0 (.loop true b200_1)) _ _ _
  rw[qh];refine qv gn _ rfl (fun i s e h=> h=⟨[],0⟩∧e.length=36∧e.at 0=V.isl (ls.map enc)∧e.at 3=V.int .i64 s∧e.at 9=V.isl (ls.map enc)∧e.at 10=V.int .i64 (ls.length:Int)∧e.at 11=V.int .i64 i) ?_ ?_ ?_
  ·simp only[simprocAttr,R0, *]
  ·clear hl_0 h0_0
   rintro i s e h ⟨rfl,h_1⟩ hlt hw s' ho;unfold F200_1_B at ho;obtain⟨l,gl,ho⟩:=bS ho;obtain⟨la,lb⟩:=qf gl;obtain⟨m,gm,ho⟩:=bS ho;have wm:=qm gm;by_cases c1:m < 0
   ·rw[if_pos c1]at ho; cases ho
   rw[if_neg c1]at ho;cases ho;simp only[simprocAttr,R0,b200_1,la,lb, *];refine ai rfl (ai rfl ?_);simp only[simprocAttr,R0, *]
  ·clear hl_0 h0_0
   rintro i s e h ⟨rfl,h_1⟩ hge t1 ho;unfold F200_1_D at ho;cases ho;simp only[simprocAttr,R0,b200_1, *];intro ht; subst ht;simp only[simprocAttr,R0, *]
 clear hl_0 h0_0;rintro _ e _ ⟨rfl,rfl,hl_0,h0_0,h3_0⟩;simp only[simprocAttr,R0,qx, *];refine W.mono (Q:=fun x e h=> x= .normal∧e.length=36∧∃v,e.at 6=v∧GR200 v r h.ents) ?_ ?_
 ·show W A (.block 2 (.loop true b200_2)) _ _ _
  rw[qh];refine qv hF _ rfl (fun i s e h=>∃v,GR200 v s h.ents∧e.length=36∧e.at 6=v∧e.at 25=V.isl (ls.map enc)∧e.at 26=V.int .i64 (ls.length:Int)∧e.at 27=V.int .i64 i) ?_ ?_ ?_
  ·refine⟨v0,g2,?_⟩
   simp only[simprocAttr,R0, *]
  ·clear hl_0 h0_0 h3_0
   rintro i s e ⟨E,k⟩ ⟨v,g3,h_1⟩ hlt hw s' ho;unfold F200_2_B at ho;obtain⟨l,gl,ho⟩:=bS ho;obtain⟨la,lb⟩:=qf gl;obtain⟨l2,gl2,ho⟩:=bS ho;cases ho;obtain⟨v',E',k',a1,a2⟩:=ap200 (c:=k) gl2 g3;simp only[simprocAttr,R0,b200_2,la,lb,srcV_enc (α:=List Int),a1, *];refine ai rfl ⟨v',a2,?_⟩;simp only[simprocAttr,R0, *]
  ·clear hl_0 h0_0 h3_0
   rintro i s e ⟨E,k⟩ ⟨v,g3,h_1⟩ hge t1 ho;unfold F200_2_D at ho;cases ho;simp only[simprocAttr,R0,b200_2, *];intro ht; subst ht;exact⟨v,rfl,g3⟩
 clear hl_0 h0_0 h3_0;rintro _ e ⟨E,k⟩ ⟨rfl,hl_0,v,h6_0,g3⟩;simp only[simprocAttr,R0, *];have z:frz ⟨E,k⟩ 16 v=some (V.isl (r.map enc)):=fz200 (c:=k) g3;exact qd (by simp only[simprocAttr,R0,qb,p200,Rs.ev,z, *])
def F296_1_B(a0:GFiltered)(a1:Int)(x2:List Int)(v17_1:Int)(o1_1:(List (List Int))):Option (((List (List Int)))⊕((List (List Int)))):=
 (getI x2 v17_1).bind fun x8=>
(getI a0.Complex.Maps a1).bind fun x10=>
(getI x10 x8).bind fun x12=>
(app 24 o1_1 [x12]).bind fun l15=>
some (.inl l15)
def F296_1_D(a0:GFiltered)(a1:Int)(x2:List Int)(v17_1:Int)(o1_1:(List (List Int))):Option ((List (List Int))):=
 some o1_1
def F296(a0:GFiltered)(a1:Int)(a2:Int):Option (List (List Int)):=
 (chk (a1+1)).bind fun x1=>
 (F202 a0 x1 a2).bind fun x2=>
 (forR 0 (x2.length:Int) (F296_1_B a0 a1 x2) (F296_1_D a0 a1 x2) ([]:(List (List Int)))).bind fun zo1_1=>
 (F133 a0.Complex.Prime zo1_1).bind fun x17=>
 some x17
def I296_1(a0:GFiltered)(a1:Int)(x2:List Int)(v17_1:Int)(o1_1:(List (List Int)))(e:Env)(h:Heap):Prop:=
 ∃u5 k6:Nat,h=⟨[(0,none),(u5,some (o1_1.map enc))],k6⟩∧e.length=39∧e.at 1=V.int .i64 a1∧e.at 3=V.iptr [V.int .i64 a0.Complex.Prime,V.isl (a0.Complex.Dims.map enc),V.isl (a0.Complex.Maps.map enc),V.isl (a0.Levels.map enc)]∧e.at 7=V.sl 1 u5 0 o1_1.length 1∧e.at 15=V.isl (x2.map enc)∧e.at 16=V.int .i64 (x2.length:Int)∧e.at 17=V.int .i64 v17_1
def P296_1(a0:GFiltered)(a1:Int)(x2:List Int)(zo1_1:(List (List Int)))(x:Ex)(e:Env)(h:Heap):Prop:=
 x= .normal∧∃u5 k6:Nat,h=⟨[(0,none),(u5,some (zo1_1.map enc))],k6⟩∧e.length=39∧e.at 3=V.iptr [V.int .i64 a0.Complex.Prime,V.isl (a0.Complex.Dims.map enc),V.isl (a0.Complex.Maps.map enc),V.isl (a0.Levels.map enc)]∧e.at 7=V.sl 1 u5 0 zo1_1.length 1
theorem l296_1(a0:GFiltered)(a1:Int)(x2:List Int){lo:Int}{s:(List (List Int))}{t:(List (List Int))}(hF:forR lo (x2.length:Int) (F296_1_B a0 a1 x2) (F296_1_D a0 a1 x2) s=some t){e:Env}{h:Heap}(hI:I296_1 a0 a1 x2 lo s e h):W A c296_1 e h (P296_1 a0 a1 x2 t):=by
 show W A (.block 0 (.loop false b296_1)) e h _;rw[qh];refine qv hF 2 (by obtain⟨_,_,rfl,_⟩:=hI; rfl) (I296_1 a0 a1 x2) hI ?_ ?_
 ·rintro v17_1 o1_1 e h ⟨u5,k6,rfl,h_4⟩ hlt hw o ho
  unfold F296_1_B at ho;obtain⟨x8,gx8,ho⟩:=bS ho;obtain⟨w9a,w9b⟩:=qf gx8;obtain⟨x10,gx10,ho⟩:=bS ho;obtain⟨w11a,w11b⟩:=qf gx10;obtain⟨x12,gx12,ho⟩:=bS ho;obtain⟨w13a,w13b⟩:=qf gx12;obtain⟨l15,gl15,ho⟩:=bS ho;have w14:=fun a b c d e=> qD (α:=List Int) (n:=o1_1.length) (m:=1) (ds:=[V.isl (x12.map enc)]) gl15 (by first|rfl|simp) (by first|rfl|simp) rfl a b c d e;have w14l:=qZ gl15;cases ho;simp only[simprocAttr,R0,b296_1, *];refine ai rfl (ei _ (ei _ (ai rfl ?_)));simp only[simprocAttr,R0, *]
 ·rintro v17_1 o1_1 e h ⟨u5,k6,rfl,h_4⟩ hge t1 ho
  unfold F296_1_D at ho;cases ho;simp only[simprocAttr,R0,b296_1, *];intro ht;(first|subst ht|cases t);refine ai rfl (ei _ (ei _ (ai rfl ?_)));simp only[simprocAttr,R0, *]
theorem s296(a0:GFiltered)(a1:Int)(a2:Int){r:List (List Int)}(hF:F296 a0 a1 a2=some r):ans A 296 [(eF a0),V.int .i64 a1,V.int .i64 a2]=some (enc r):=by
 refine qp (f:=p296) rfl rfl rfl fun e hl he=>?_;have h0_0:e.at 0=(eF a0):=he 0 _ rfl;have h1_0:e.at 1=V.int .i64 a1:=he 1 _ rfl;have h2_0:e.at 2=V.int .i64 a2:=he 2 _ rfl;have hl_0:e.length=39:=hl;clear he hl;show W A b296 e ⟨[],0⟩ _;unfold F296 at hF;obtain⟨x1,gx1,hF⟩:=bS hF;have wx1:=qm gx1;obtain⟨x2,gx2,hF⟩:=bS hF;have w3:=s202 a0 x1 a2 gx2;obtain⟨zo1_1,gt16,hF⟩:=bS hF;simp only[simprocAttr,R0,b296, *];refine W.mono (l296_1 a0 a1 x2 gt16 (ei _ (ei _ (ai rfl ?_)))) ?_
 ·simp only[simprocAttr,R0, *]
 rintro _ e _ ⟨rfl,u5,k6,rfl,h_7⟩;obtain⟨x17,gx17,hF⟩:=bS hF;have w18:=s133 a0.Complex.Prime zo1_1 gx17;cases hF;simp only[simprocAttr,R0,zd (α:=List Int) zo1_1, *];exact qd (by simp only[simprocAttr,R0,qb,p296,Rs.ev,qa,zd (α:=List Int) zo1_1, *])
def F259(a0:GFiltered)(a1:Int)(a2:Int)(a3:Int):Option Int:=
 if a2 < 0 then
  some 0
 else
  (F296 a0 a1 a3).bind fun x2=>
  (F184 a0 6 a1 a2).bind fun x4=>
  (F200 [x4,x2]).bind fun x6=>
  (F133 a0.Complex.Prime x6).bind fun x8=>
  (chk ((x8.length:Int) - (x2.length:Int))).bind fun x14=>
  some x14
theorem s259(a0:GFiltered)(a1:Int)(a2:Int)(a3:Int){r:Int}(hF:F259 a0 a1 a2 a3=some r):ans A 259 [(eF a0),V.int .i64 a1,V.int .i64 a2,V.int .i64 a3]=some (enc r):=by
 refine qp (f:=p259) rfl rfl rfl fun e hl he=>?_;have h0_0:e.at 0=(eF a0):=he 0 _ rfl;have h1_0:e.at 1=V.int .i64 a1:=he 1 _ rfl;have h2_0:e.at 2=V.int .i64 a2:=he 2 _ rfl;have h3_0:e.at 3=V.int .i64 a3:=he 3 _ rfl;have hl_0:e.length=31:=hl;clear he hl;have h_0:=ai hl_0 (ai h0_0 (ai h1_0 (ai h2_0 h3_0)));show W A b259 e ⟨[],0⟩ _;unfold F259 at hF;by_cases c1:a2 < 0
 ·rw[if_pos c1]at hF
  cases hF;simp only[simprocAttr,R0,b259, *];exact qd (by simp only[simprocAttr,R0,qb,p259,Rs.ev,qa, *])
 ·rw[if_neg c1]at hF
  obtain⟨x2,gx2,hF⟩:=bS hF;have w3:ans A 296 [(eF a0),V.int .i64 a1,V.int .i64 a3]=some (V.isl (x2.map enc)):=s296 a0 a1 a3 gx2;obtain⟨x4,gx4,hF⟩:=bS hF;have w5:ans A 184 [(eF a0),V.int .i64 6,V.int .i64 a1,V.int .i64 a2]=some (V.isl (x4.map enc)):=s184 a0 6 a1 a2 gx4;obtain⟨x6,gx6,hF⟩:=bS hF;have w7:ans A 200 [V.isl [V.isl (x4.map enc),V.isl (x2.map enc)]]=some (V.isl (x6.map enc)):=s200 [x4,x2] gx6;obtain⟨x8,gx8,hF⟩:=bS hF;have w9:ans A 133 [V.int .i64 a0.Complex.Prime,V.isl (x6.map enc)]=some (V.isl (x8.map enc)):=s133 a0.Complex.Prime x6 gx8;have w11:ans A 89 [V.isl (x8.map enc)]=some (V.int .i64 (x8.length:Int)):=s89 x8 rfl;have w13:ans A 89 [V.isl (x2.map enc)]=some (V.int .i64 (x2.length:Int)):=s89 x2 rfl;obtain⟨x14,gx14,hF⟩:=bS hF;have wx14:=qm gx14;cases hF;simp only[simprocAttr,R0,b259, *];exact qd (by simp only[simprocAttr,R0,qb,p259,Rs.ev,qa, *])
def F372_1_B(b:GBar)(i:Int)(s:List GBar):Option ((List GBar)⊕(List GBar)):=(app 24 s [b]).bind fun l=> some (.inl l)
def F372_1_D(i:Int)(s:List GBar):Option (List GBar):=some s
def F372(a0 a1 a2 a3:Int)(o:List GBar):Option (List GBar):=forR 0 a3 (F372_1_B ⟨a0,a1,a2⟩) F372_1_D o
theorem d372(a0 a1 a2 a3:Int)(o:List GBar){r:List GBar}(hF:F372 a0 a1 a2 a3 o=some r)(E0:List (Nat×Option (List V)))(c0:Nat){k ku q qu:Nat}(hk:E0[k]? =some (ku,some [V.sl q qu 0 o.length 3]))(hq:E0[q]? =some (qu,some (fl o)))(hne:k≠q):∃h',res A 372 [V.int .i64 a0,V.int .i64 a1,V.int .i64 a2,V.int .i64 a3,V.ptr k ku 0] ⟨E0,c0⟩=some (V.undef,h')∧∃qu',h'.ents[k]? =some (ku,some [V.sl q qu' 0 r.length 3])∧h'.ents[q]? =some (qu',some (fl r))∧E0.length≤h'.ents.length∧∀j,j < E0.length→j≠k→j≠q→h'.ents[j]? =E0[j]?:=by
 have hkl:k < E0.length:=(List.getElem?_eq_some_iff.1 hk).1;have hql:q < E0.length:=(List.getElem?_eq_some_iff.1 hq).1;refine res_ex (f:=p372) rfl rfl rfl fun e hl he=>?_;have h0_0:e.at 0=V.int .i64 a0:=he 0 _ rfl;have h1_0:e.at 1=V.int .i64 a1:=he 1 _ rfl;have h2_0:e.at 2=V.int .i64 a2:=he 2 _ rfl;have h3_0:e.at 3=V.int .i64 a3:=he 3 _ rfl;have h4_0:e.at 4=V.ptr k ku 0:=he 4 _ rfl;have hl_0:e.length=20:=hl;clear he hl;show W A b372 e ⟨E0,c0⟩ _;unfold F372 at hF;simp only[simprocAttr,R0,b372,hl_0,h0_0,h1_0,h2_0,h3_0,h4_0];show W A (.block 0 (.loop true b372_1)) _ _ _;rw[qh];refine qv hF _ rfl (fun i s e h=>∃qu',h.ents[k]? =some (ku,some [V.sl q qu' 0 s.length 3])∧h.ents[q]? =some (qu',some (fl s))∧E0.length≤h.ents.length∧(∀j,j < E0.length→j≠k→j≠q→h.ents[j]? =E0[j]?)∧e.length=20∧e.at 0=V.int .i64 a0∧e.at 1=V.int .i64 a1∧e.at 2=V.int .i64 a2∧e.at 4=V.ptr k ku 0∧e.at 9=V.int .i64 a3∧e.at 10=V.int .i64 i) ?_ ?_ ?_
 ·refine⟨qu,hk,hq,wD _,fun _ _ _ _=> rfl,?_⟩
  simp only[simprocAttr,R0,hl_0,h0_0,h1_0,h2_0,h3_0,h4_0]
 ·clear hl_0 h0_0 h1_0 h2_0 h3_0 h4_0
  rintro i s e ⟨E,c⟩ ⟨qu',g1,g2,g3,g4,h_1⟩ hlt hw o' ho;unfold F372_1_B at ho;simp only at g1 g2 g3 g4;obtain⟨l,gl,ho⟩:=bS ho;cases ho;have w1:∀x c',qO 3 24 (.sl q qu' 0 s.length 3) 1 [V.int .i64 a0,V.int .i64 a1,V.int .i64 a2] ⟨E++[x],c'⟩=_:=fun x c'=> fl_append (α:=GBar) (a:=⟨a0,a1,a2⟩) (l2:=l) (by rw[List.getElem?_append_left (by omega)]; exact g2) gl;have n1:∀x y,((E++[x]).set q y)[k]? =_:=fun x y=>(xh (by omega) (by omega)).trans g1;simp only[simprocAttr,R0,b372_1,h_1,eq_true hlt,hw,g1,w1,n1,qH];refine ai rfl ⟨c+1,?_,?_,?_,fun j h1 h2 h3=>?_,?_⟩
  ·exact qy (by simp; omega)
  ·exact(qI (by omega)).trans (qy (by simp; omega))
  ·simp; omega
  ·exact(qI (by omega)).trans ((xh (by omega) (by omega)).trans (g4 j h1 h2 h3))
  ·simp only[simprocAttr,R0,h_1,hw]
 ·clear hl_0 h0_0 h1_0 h2_0 h3_0 h4_0
  rintro i s e ⟨E,c⟩ ⟨qu',g1,g2,g3,g4,h_1⟩ hge t1 ho;unfold F372_1_D at ho;cases ho;simp only[simprocAttr,R0,b372_1,h_1,eq_false hge];intro ht; subst ht;exact⟨fun _=> trivial,by simp only[simprocAttr,R0,qb,p372,Rs.ev]; rfl,qu',g1,g2,g3,g4⟩
def F382_2_S(a0:List GBar)(a1:Int)(a2:Int)(v8_1:Int)(f3:GBar→GBar→Option Int)(v9_2:Int):Option ((Int)⊕(Unit)):=
 if a1 < v9_2 then
 (getI a0 v9_2).bind fun x9=>
 (chk (v9_2 - 1)).bind fun x11=>
 (getI a0 x11).bind fun x12=>
 (f3 x9 x12).bind fun x14=>
 if x14 < 0 then
  none
 else
  some (.inr ())
else
 some (.inr ())
def xx(a0:List GBar)(a1:Int)(a2:Int)(f3:GBar→GBar→Option Int)(v8_1:Int)(s:Unit):Option ((Unit)⊕(Unit)):=
 (qB (F382_2_S a0 a1 a2 v8_1 f3) v8_1).bind fun _=>
some (.inl ())
def F382_1_D(a0:List GBar)(a1:Int)(a2:Int)(f3:GBar→GBar→Option Int)(v8_1:Int)(s:Unit):Option (Unit):=
 some ()
def F382(a0:List GBar)(a1:Int)(a2:Int)(f3:GBar→GBar→Option Int):Option Unit:=
 (chk (a1+1)).bind fun x1=>
 (forR x1 a2 (xx a0 a1 a2 f3) (F382_1_D a0 a1 a2 f3) ()).bind fun _=>
 some ()
def I382_2(a0:List GBar)(a1:Int)(a2:Int)(v8_1:Int)(f3:GBar→GBar→Option Int)(vf3:V)(v9_2:Int)(e:Env)(h:Heap):Prop:=
 ∃k6:Nat,h=⟨[],k6⟩∧e.length=53∧e.at 0=V.isl (a0.map enc)∧e.at 1=V.int .i64 a1∧e.at 2=V.int .i64 a2∧e.at 3=vf3∧e.at 8=V.int .i64 v8_1∧e.at 9=V.int .i64 v9_2
def P382_2(a0:List GBar)(a1:Int)(a2:Int)(v8_1:Int)(f3:GBar→GBar→Option Int)(vf3:V)(t:Unit)(x:Ex)(e:Env)(h:Heap):Prop:=
 x= .normal∧∃k6:Nat,h=⟨[],k6⟩∧e.length=53∧e.at 0=V.isl (a0.map enc)∧e.at 1=V.int .i64 a1∧e.at 2=V.int .i64 a2∧e.at 3=vf3∧e.at 8=V.int .i64 v8_1
theorem l382_2(a0:List GBar)(a1:Int)(a2:Int)(v8_1:Int)(f3:GBar→GBar→Option Int)(vf3:V)(hf3:Clo2 A vf3 f3){s:Int}{t:Unit}(hF:qB (F382_2_S a0 a1 a2 v8_1 f3) s=some t){e:Env}{h:Heap}(hI:I382_2 a0 a1 a2 v8_1 f3 vf3 s e h):W A c382_2 e h (P382_2 a0 a1 a2 v8_1 f3 vf3 t):=by
 obtain⟨g_f3,fs_f3,cs_f3,hv_f3,hc_f3⟩:=id hf3;show W A (.block 2 (.loop false b382_2)) e h _;rw[qh];refine zy hF 0 (by obtain⟨_,rfl,_⟩:=hI; rfl) (I382_2 a0 a1 a2 v8_1 f3 vf3) hI ?_
 ·rintro v9_2 e h ⟨k6,rfl,h_5⟩ o ho
  unfold F382_2_S at ho;by_cases c8:a1 < v9_2
  ·rw[if_pos c8]at ho
   obtain⟨x9,gx9,ho⟩:=bS ho;obtain⟨w10a,w10b⟩:=qf gx9;obtain⟨x11,gx11,ho⟩:=bS ho;have wx11:=qm gx11;obtain⟨x12,gx12,ho⟩:=bS ho;obtain⟨w13a,w13b⟩:=qf gx12;obtain⟨x14,gx14,ho⟩:=bS ho;have w15a:∀h,mapO (frz h 16) (fs_f3++[V.agg [V.int .i64 x9.Degree,V.int .i64 x9.Birth,V.int .i64 x9.Death],V.agg [V.int .i64 x12.Degree,V.int .i64 x12.Birth,V.int .i64 x12.Death]]++cs_f3)=some (fs_f3++[V.agg [V.int .i64 x9.Degree,V.int .i64 x9.Birth,V.int .i64 x9.Death],V.agg [V.int .i64 x12.Degree,V.int .i64 x12.Birth,V.int .i64 x12.Death]]++cs_f3):=fun h=> hc_f3.zf x9 x12 h;have w15b:List.all (fs_f3++[V.agg [V.int .i64 x9.Degree,V.int .i64 x9.Birth,V.int .i64 x9.Death],V.agg [V.int .i64 x12.Degree,V.int .i64 x12.Birth,V.int .i64 x12.Death]]++cs_f3) (ql 16)=true:=hc_f3.zr x9 x12;have w15c:ans A g_f3 (fs_f3++[V.agg [V.int .i64 x9.Degree,V.int .i64 x9.Birth,V.int .i64 x9.Death],V.agg [V.int .i64 x12.Degree,V.int .i64 x12.Birth,V.int .i64 x12.Death]]++cs_f3)=some (V.int .i64 x14):=hc_f3.ka x9 x12 _ gx14;by_cases c16:x14 < 0
   ·rw[if_pos c16]at ho
    cases ho
   ·rw[if_neg c16]at ho
    cases ho;simp only[simprocAttr,R0,b382_2, *];intro ht;(first|subst ht|cases t);simp only[simprocAttr,RR,RB];refine ai rfl (ei _ (ai rfl ?_));simp only[simprocAttr,R0, *]
  ·rw[if_neg c8]at ho
   cases ho;simp only[simprocAttr,R0,b382_2, *];intro ht;(first|subst ht|cases t);simp only[simprocAttr,RR,RB];refine ai rfl (ei _ (ai rfl ?_));simp only[simprocAttr,R0, *]
def I382_1(a0:List GBar)(a1:Int)(a2:Int)(f3:GBar→GBar→Option Int)(vf3:V)(v8_1:Int)(s:Unit)(e:Env)(h:Heap):Prop:=
 ∃k3:Nat,h=⟨[],k3⟩∧e.length=53∧e.at 0=V.isl (a0.map enc)∧e.at 1=V.int .i64 a1∧e.at 2=V.int .i64 a2∧e.at 3=vf3∧e.at 8=V.int .i64 v8_1
def P382_1(a0:List GBar)(a1:Int)(a2:Int)(f3:GBar→GBar→Option Int)(vf3:V)(t:Unit)(x:Ex)(e:Env)(h:Heap):Prop:=
 x= .normal∧∃k3:Nat,h=⟨[],k3⟩∧e.length=53
theorem l382_1(a0:List GBar)(a1:Int)(a2:Int)(f3:GBar→GBar→Option Int)(vf3:V)(hf3:Clo2 A vf3 f3){lo:Int}{s:Unit}{t:Unit}(hF:forR lo a2 (xx a0 a1 a2 f3) (F382_1_D a0 a1 a2 f3) s=some t){e:Env}{h:Heap}(hI:I382_1 a0 a1 a2 f3 vf3 lo s e h):W A c382_1 e h (P382_1 a0 a1 a2 f3 vf3 t):=by
 obtain⟨g_f3,fs_f3,cs_f3,hv_f3,hc_f3⟩:=id hf3;show W A (.block 0 (.loop false b382_1)) e h _;rw[qh];refine qv hF 0 (by obtain⟨_,rfl,_⟩:=hI; rfl) (I382_1 a0 a1 a2 f3 vf3) hI ?_ ?_
 ·rintro v8_1 _ e h ⟨k3,rfl,h_2⟩ hlt hw o ho
  unfold xx at ho;obtain⟨_,gt17,ho⟩:=bS ho;simp only[simprocAttr,R0,b382_1, *];refine W.mono (l382_2 a0 a1 a2 v8_1 f3 vf3 hf3 gt17 (ei _ (ai rfl ?_))) ?_
  ·simp only[simprocAttr,R0, *]
  rintro _ e _ ⟨rfl,k6,rfl,h_7⟩;cases ho;simp only[simprocAttr,R0, *];refine ai rfl (ei _ (ai rfl ?_));simp only[simprocAttr,R0, *]
 ·rintro v8_1 _ e h ⟨k3,rfl,h_2⟩ hge t1 ho
  unfold F382_1_D at ho;cases ho;simp only[simprocAttr,R0,b382_1, *];intro ht;(first|subst ht|cases t);refine ai rfl (ei _ (ai rfl ?_));simp only[simprocAttr,R0, *]
theorem s382(a0:List GBar)(a1:Int)(a2:Int)(f3:GBar→GBar→Option Int){vf3:V}(hf3:Clo2 A vf3 f3){r:Unit}(hF:F382 a0 a1 a2 f3=some r):ans A 382 [V.isl (a0.map enc),V.int .i64 a1,V.int .i64 a2,vf3]=some (EncR.enc r):=by
 refine qp (f:=p382) rfl rfl rfl fun e hl he=>?_;have h0_0:e.at 0=V.isl (a0.map enc):=he 0 _ rfl;have h1_0:e.at 1=V.int .i64 a1:=he 1 _ rfl;have h2_0:e.at 2=V.int .i64 a2:=he 2 _ rfl;have h3_0:e.at 3=vf3:=he 3 _ rfl;obtain⟨g_f3,fs_f3,cs_f3,hv_f3,hc_f3⟩:=id hf3;have hl_0:e.length=53:=hl;clear he hl;show W A b382 e ⟨[],0⟩ _;unfold F382 at hF;obtain⟨x1,gx1,hF⟩:=bS hF;have wx1:=qm gx1;obtain⟨_,gt18,hF⟩:=bS hF;simp only[simprocAttr,R0,b382, *];refine W.mono (l382_1 a0 a1 a2 f3 vf3 hf3 gt18 (ei _ (ai rfl ?_))) ?_
 ·simp only[simprocAttr,R0, *]
 rintro _ e _ ⟨rfl,k3,rfl,hl_4⟩;cases hF
 try simp only[simprocAttr,R0, *]
 exact qe (by simp only[simprocAttr,R0,qb,p382,Rs.ev,qa, *])
def F386_1_B(a0:List GBar)(a1:Int)(a2:Int)(a3:Int)(v10_1:Int)(s:Unit):Option ((Unit)⊕(Unit)):=
 (chk (a1+v10_1)).bind fun x4=>
(chk (a2+v10_1)).bind fun x5=>
(getI a0 x5).bind fun x6=>
(getI a0 x4).bind fun x8=>
none
def F386_1_D(a0:List GBar)(a1:Int)(a2:Int)(a3:Int)(v10_1:Int)(s:Unit):Option (Unit):=
 some ()
def F386(a0:List GBar)(a1:Int)(a2:Int)(a3:Int)(f4:GBar→GBar→Option Int):Option Unit:=
 (forR 0 a3 (F386_1_B a0 a1 a2 a3) (F386_1_D a0 a1 a2 a3) ()).bind fun _=>
 some ()
def I386_1(a0:List GBar)(a1:Int)(a2:Int)(a3:Int)(v10_1:Int)(s:Unit)(e:Env)(h:Heap):Prop:=
 ∃k2:Nat,h=⟨[],k2⟩∧e.length=38∧e.at 0=V.isl (a0.map enc)∧e.at 1=V.int .i64 a1∧e.at 2=V.int .i64 a2∧e.at 3=V.int .i64 a3∧e.at 10=V.int .i64 v10_1
def P386_1(a0:List GBar)(a1:Int)(a2:Int)(a3:Int)(t:Unit)(x:Ex)(e:Env)(h:Heap):Prop:=
 x= .normal∧∃k2:Nat,h=⟨[],k2⟩∧e.length=38
theorem l386_1(a0:List GBar)(a1:Int)(a2:Int)(a3:Int){lo:Int}{s:Unit}{t:Unit}(hF:forR lo a3 (F386_1_B a0 a1 a2 a3) (F386_1_D a0 a1 a2 a3) s=some t){e:Env}{h:Heap}(hI:I386_1 a0 a1 a2 a3 lo s e h):W A c386_1 e h (P386_1 a0 a1 a2 a3 t):=by
 show W A (.block 0 (.loop false b386_1)) e h _;rw[qh];refine qv hF 0 (by obtain⟨_,rfl,_⟩:=hI; rfl) (I386_1 a0 a1 a2 a3) hI ?_ ?_
 ·rintro v10_1 _ e h ⟨k2,rfl,h_1⟩ hlt hw o ho
  unfold F386_1_B at ho;obtain⟨x4,gx4,ho⟩:=bS ho;have wx4:=qm gx4;obtain⟨x5,gx5,ho⟩:=bS ho;have wx5:=qm gx5;obtain⟨x6,gx6,ho⟩:=bS ho;obtain⟨w7a,w7b⟩:=qf gx6;obtain⟨x8,gx8,ho⟩:=bS ho;obtain⟨w9a,w9b⟩:=qf gx8;cases ho
 ·rintro v10_1 _ e h ⟨k2,rfl,h_1⟩ hge t1 ho
  unfold F386_1_D at ho;cases ho;simp only[simprocAttr,R0,b386_1, *];intro ht;(first|subst ht|cases t);refine ai rfl (ei _ (ai rfl ?_));simp only[simprocAttr,R0, *]
theorem s386(a0:List GBar)(a1:Int)(a2:Int)(a3:Int)(f4:GBar→GBar→Option Int){vf4:V}(hf4:Clo2 A vf4 f4){r:Unit}(hF:F386 a0 a1 a2 a3 f4=some r):ans A 386 [V.isl (a0.map enc),V.int .i64 a1,V.int .i64 a2,V.int .i64 a3,vf4]=some (EncR.enc r):=by
 refine qp (f:=p386) rfl rfl rfl fun e hl he=>?_;have h0_0:e.at 0=V.isl (a0.map enc):=he 0 _ rfl;have h1_0:e.at 1=V.int .i64 a1:=he 1 _ rfl;have h2_0:e.at 2=V.int .i64 a2:=he 2 _ rfl;have h3_0:e.at 3=V.int .i64 a3:=he 3 _ rfl;have h4_0:e.at 4=vf4:=he 4 _ rfl;obtain⟨g_f4,fs_f4,cs_f4,hv_f4,hc_f4⟩:=id hf4;have hl_0:e.length=38:=hl;clear he hl;show W A b386 e ⟨[],0⟩ _;unfold F386 at hF;obtain⟨_,gt10,hF⟩:=bS hF;simp only[simprocAttr,R0,b386, *];refine W.mono (l386_1 a0 a1 a2 a3 gt10 (ei _ (ai rfl ?_))) ?_
 ·simp only[simprocAttr,R0, *]
 rintro _ e _ ⟨rfl,k2,rfl,hl_3⟩;cases hF
 try simp only[simprocAttr,R0, *]
 exact qe (by simp only[simprocAttr,R0,qb,p386,Rs.ev,qa, *])
def F385_1_S(a0:List GBar)(a2:Int)(f4:GBar→GBar→Option Int)(s:Int×Int):Option ((Int×Int)⊕(Int)):=
 match s with
 |(v10_1,v11_1)=>
  if v10_1=v11_1 then
   some (.inr v10_1)
  else
   if v11_1 < v10_1 then
    (chk (a2 - v10_1)).bind fun x8=>
    (F386 a0 x8 a2 v11_1 f4).bind fun x9=>
    (chk (v10_1 - v11_1)).bind fun x11=>
    some (.inl (x11,v11_1))
   else
    (chk (a2 - v10_1)).bind fun x12=>
    (chk (a2+v11_1)).bind fun x13=>
    (chk (x13 - v10_1)).bind fun x14=>
    (F386 a0 x12 x14 v10_1 f4).bind fun x15=>
    (chk (v11_1 - v10_1)).bind fun x17=>
    some (.inl (v10_1,x17))
def F385(a0:List GBar)(a1:Int)(a2:Int)(a3:Int)(f4:GBar→GBar→Option Int):Option Unit:=
 (chk (a2 - a1)).bind fun x1=>
 (chk (a3 - a2)).bind fun x2=>
 (qB (F385_1_S a0 a2 f4) (x1,x2)).bind fun zv10_1=>
 (chk (a2 - zv10_1)).bind fun x19=>
 (F386 a0 x19 a2 zv10_1 f4).bind fun x20=>
 some ()
def I385_1(a0:List GBar)(a2:Int)(f4:GBar→GBar→Option Int)(vf4:V)(s:Int×Int)(e:Env)(h:Heap):Prop:=
 match s with
 |(v10_1,v11_1)=>
  ∃k4:Nat,h=⟨[],k4⟩∧e.length=58∧e.at 0=V.isl (a0.map enc)∧e.at 2=V.int .i64 a2∧e.at 4=vf4∧e.at 10=V.int .i64 v10_1∧e.at 11=V.int .i64 v11_1
def P385_1(a0:List GBar)(a2:Int)(f4:GBar→GBar→Option Int)(vf4:V)(zv10_1:Int)(x:Ex)(e:Env)(h:Heap):Prop:=
 x= .normal∧∃k4:Nat,h=⟨[],k4⟩∧e.length=58∧e.at 0=V.isl (a0.map enc)∧e.at 2=V.int .i64 a2∧e.at 4=vf4∧e.at 10=V.int .i64 zv10_1
theorem l385_1(a0:List GBar)(a2:Int)(f4:GBar→GBar→Option Int)(vf4:V)(hf4:Clo2 A vf4 f4){s:Int×Int}{t:Int}(hF:qB (F385_1_S a0 a2 f4) s=some t){e:Env}{h:Heap}(hI:I385_1 a0 a2 f4 vf4 s e h):W A c385_1 e h (P385_1 a0 a2 f4 vf4 t):=by
 obtain⟨g_f4,fs_f4,cs_f4,hv_f4,hc_f4⟩:=id hf4;show W A (.block 0 (.loop false b385_1)) e h _;rw[qh];refine zy hF 0 (by rcases s with⟨_,_⟩; obtain⟨_,rfl,_⟩:=hI; rfl) (I385_1 a0 a2 f4 vf4) hI ?_
 ·rintro⟨v10_1,v11_1⟩ e h ⟨k4,rfl,h_3⟩ o ho
  unfold F385_1_S at ho;dsimp only at ho;by_cases c6:v10_1=v11_1
  ·rw[if_pos c6]at ho
   cases ho;simp only[simprocAttr,R0,b385_1,h_3,eq_true c6];intro ht;(first|subst ht|cases t);simp only[simprocAttr,RR,RB];refine ai rfl (ei _ (ai rfl ?_));simp only[simprocAttr,R0,h_3,eq_true c6]
  ·rw[if_neg c6]at ho
   by_cases c7:v11_1 < v10_1
   ·rw[if_pos c7]at ho
    obtain⟨x8,gx8,ho⟩:=bS ho;have wx8:=qm gx8;obtain⟨x9,gx9,ho⟩:=bS ho;have w10:ans A 386 [V.isl (a0.map enc),V.int .i64 x8,V.int .i64 a2,V.int .i64 v11_1,vf4]=some (V.tup []):=s386 a0 x8 a2 v11_1 f4 hf4 gx9;obtain⟨x11,gx11,ho⟩:=bS ho;have wx11:=qm gx11;cases ho;simp only[simprocAttr,R0,b385_1,h_3,eq_false c6,eq_true c7,wx8,hf4.fz,hf4.rl,w10,wx11];refine ai rfl (ei _ (ai rfl ?_));simp only[simprocAttr,R0,h_3,eq_false c6,eq_true c7,wx8,hf4.fz,hf4.rl,w10,wx11]
   ·rw[if_neg c7]at ho
    obtain⟨x12,gx12,ho⟩:=bS ho;have wx12:=qm gx12;obtain⟨x13,gx13,ho⟩:=bS ho;have wx13:=qm gx13;obtain⟨x14,gx14,ho⟩:=bS ho;have wx14:=qm gx14;obtain⟨x15,gx15,ho⟩:=bS ho;have w16:ans A 386 [V.isl (a0.map enc),V.int .i64 x12,V.int .i64 x14,V.int .i64 v10_1,vf4]=some (V.tup []):=s386 a0 x12 x14 v10_1 f4 hf4 gx15;obtain⟨x17,gx17,ho⟩:=bS ho;have wx17:=qm gx17;cases ho;simp only[simprocAttr,R0,b385_1,h_3,eq_false c6,eq_false c7,wx12,wx13,wx14,hf4.fz,hf4.rl,w16,wx17];refine ai rfl (ei _ (ai rfl ?_));simp only[simprocAttr,R0,h_3,eq_false c6,eq_false c7,wx12,wx13,wx14,hf4.fz,hf4.rl,w16,wx17]
theorem s385(a0:List GBar)(a1:Int)(a2:Int)(a3:Int)(f4:GBar→GBar→Option Int){vf4:V}(hf4:Clo2 A vf4 f4){r:Unit}(hF:F385 a0 a1 a2 a3 f4=some r):ans A 385 [V.isl (a0.map enc),V.int .i64 a1,V.int .i64 a2,V.int .i64 a3,vf4]=some (EncR.enc r):=by
 refine qp (f:=p385) rfl rfl rfl fun e hl he=>?_;have h0_0:e.at 0=V.isl (a0.map enc):=he 0 _ rfl;have h1_0:e.at 1=V.int .i64 a1:=he 1 _ rfl;have h2_0:e.at 2=V.int .i64 a2:=he 2 _ rfl;have h3_0:e.at 3=V.int .i64 a3:=he 3 _ rfl;have h4_0:e.at 4=vf4:=he 4 _ rfl;obtain⟨g_f4,fs_f4,cs_f4,hv_f4,hc_f4⟩:=id hf4;have hl_0:e.length=58:=hl;clear he hl;show W A b385 e ⟨[],0⟩ _;unfold F385 at hF;obtain⟨x1,gx1,hF⟩:=bS hF;have wx1:=qm gx1;obtain⟨x2,gx2,hF⟩:=bS hF;have wx2:=qm gx2;obtain⟨zv10_1,gt18,hF⟩:=bS hF;simp only[simprocAttr,R0,b385,hl_0,h0_0,h1_0,h2_0,h3_0,h4_0,wx1,wx2];refine W.mono (l385_1 a0 a2 f4 vf4 hf4 gt18 (ei _ (ai rfl ?_))) ?_
 ·simp only[simprocAttr,R0,hl_0,h0_0,h1_0,h2_0,h3_0,h4_0,wx1,wx2]
 rintro _ e _ ⟨rfl,k4,rfl,h_5⟩;obtain⟨x19,gx19,hF⟩:=bS hF;have wx19:=qm gx19;obtain⟨x20,gx20,hF⟩:=bS hF;have w21:ans A 386 [V.isl (a0.map enc),V.int .i64 x19,V.int .i64 a2,V.int .i64 zv10_1,vf4]=some (V.tup []):=s386 a0 x19 a2 zv10_1 f4 hf4 gx20;cases hF
 try simp only[simprocAttr,R0,h_5,wx19,hf4.fz,hf4.rl,w21]
 exact qe (by simp only[simprocAttr,R0,qb,p385,Rs.ev,qa,h_5,wx19,hf4.fz,hf4.rl,w21])
def F383_1_S(a0:List GBar)(a1:Int)(f4:GBar→GBar→Option Int)(s:Int×Int):Option ((Int×Int)⊕(Int)):=
 match s with
 |(v10_1,v11_1)=>
  if v10_1 < v11_1 then
   (chk (v10_1+v11_1)).bind fun x7=>
   (chk (Int.fdiv (Go.IntKind.wrap .u64 x7) (2^min 1 (Go.IntKind.bits .u64)))).bind fun x8=>
   (getI a0 x8).bind fun x9=>
   (getI a0 a1).bind fun x11=>
   (f4 x9 x11).bind fun x13=>
   if x13 < 0 then
    (chk (x8+1)).bind fun x16=>
    some (.inl (x16,v11_1))
   else
    some (.inl (v10_1,x8))
  else
   some (.inr v10_1)
def F383_2_S(a0:List GBar)(zv10_1:Int)(v13_2:Int):Option ((Int)⊕(Unit)):=
 (chk (zv10_1 - 1)).bind fun x21=>
if v13_2 < x21 then
 (chk (v13_2+1)).bind fun x23=>
 (getI a0 x23).bind fun x24=>
 (getI a0 v13_2).bind fun x26=>
 none
else
 some (.inr ())
def F383_3_S(a0:List GBar)(a2:Int)(f4:GBar→GBar→Option Int)(s:Int×Int):Option ((Int×Int)⊕(Int)):=
 match s with
 |(v14_3,v15_3)=>
  if v14_3 < v15_3 then
   (chk (v14_3+v15_3)).bind fun x35=>
   (chk (Int.fdiv (Go.IntKind.wrap .u64 x35) (2^min 1 (Go.IntKind.bits .u64)))).bind fun x36=>
   (getI a0 a2).bind fun x37=>
   (getI a0 x36).bind fun x39=>
   (f4 x37 x39).bind fun x41=>
   if x41 < 0 then
    some (.inl (v14_3,x36))
   else
    (chk (x36+1)).bind fun x44=>
    some (.inl (x44,v15_3))
  else
   some (.inr v14_3)
def F383_4_S(a0:List GBar)(zv14_3:Int)(v17_4:Int):Option ((Int)⊕(Unit)):=
 if zv14_3 < v17_4 then
 (chk (v17_4 - 1)).bind fun x50=>
 (getI a0 x50).bind fun x51=>
 (getI a0 v17_4).bind fun x53=>
 none
else
 some (.inr ())
def xw(a0:List GBar)(a1:Int)(a2:Int)(a3:Int)(x57:Int)(x58:Int)(x61:Int)(f4:GBar→GBar→Option Int)(s:Int×Int):Option ((Int×Int)⊕(Int)):=
 match s with
 |(v20_5,v21_5)=>
  if v20_5 < v21_5 then
   (chk (v20_5+v21_5)).bind fun x66=>
   (chk (Int.fdiv (Go.IntKind.wrap .u64 x66) (2^min 1 (Go.IntKind.bits .u64)))).bind fun x67=>
   (chk (x61 - x67)).bind fun x68=>
   (getI a0 x68).bind fun x69=>
   (getI a0 x67).bind fun x71=>
   (f4 x69 x71).bind fun x73=>
   if x73 < 0 then
    some (.inl (v20_5,x67))
   else
    (chk (x67+1)).bind fun x76=>
    some (.inl (x76,v21_5))
  else
   some (.inr v20_5)
def F383S(rec:(List GBar)→Int→Int→Int→(GBar→GBar→Option Int)→Option Unit)(a0:List GBar)(a1:Int)(a2:Int)(a3:Int)(f4:GBar→GBar→Option Int):Option Unit:=
 (chk (a2 - a1)).bind fun x1=>
 if x1=1 then
  (qB (F383_1_S a0 a1 f4) (a2,a3)).bind fun zv10_1=>
  (qB (F383_2_S a0 zv10_1) a1).bind fun _=>
  some ()
 else
  (chk (a3 - a2)).bind fun x29=>
  if x29=1 then
   (qB (F383_3_S a0 a2 f4) (a1,a2)).bind fun zv14_3=>
   (qB (F383_4_S a0 zv14_3) a2).bind fun _=>
   some ()
  else
   (chk (a1+a3)).bind fun x56=>
   (chk (Int.fdiv (Go.IntKind.wrap .u64 x56) (2^min 1 (Go.IntKind.bits .u64)))).bind fun x57=>
   (chk (x57+a2)).bind fun x58=>
   if x57 < a2 then
    (chk (x58 - a3)).bind fun x60=>
    (chk (x58 - 1)).bind fun x61=>
    (qB (xw a0 a1 a2 a3 x57 x58 x61 f4) (x60,x57)).bind fun zv20_5=>
    (chk (x58 - zv20_5)).bind fun x78=>
    if zv20_5 < a2 then
     if a2 < x78 then
      (F385 a0 zv20_5 a2 x78 f4).bind fun x81=>
      if a1 < zv20_5 then
       if zv20_5 < x57 then
        (rec a0 a1 zv20_5 x57 f4).bind fun x85=>
        if x57 < x78 then
         if x78 < a3 then
          (rec a0 x57 x78 a3 f4).bind fun x89=>
          some ()
         else
          some ()
        else
         some ()
       else
        if x57 < x78 then
         if x78 < a3 then
          (rec a0 x57 x78 a3 f4).bind fun x93=>
          some ()
         else
          some ()
        else
         some ()
      else
       if x57 < x78 then
        if x78 < a3 then
         (rec a0 x57 x78 a3 f4).bind fun x97=>
         some ()
        else
         some ()
       else
        some ()
     else
      if a1 < zv20_5 then
       if zv20_5 < x57 then
        (rec a0 a1 zv20_5 x57 f4).bind fun x101=>
        if x57 < x78 then
         if x78 < a3 then
          (rec a0 x57 x78 a3 f4).bind fun x105=>
          some ()
         else
          some ()
        else
         some ()
       else
        if x57 < x78 then
         if x78 < a3 then
          (rec a0 x57 x78 a3 f4).bind fun x109=>
          some ()
         else
          some ()
        else
         some ()
      else
       if x57 < x78 then
        if x78 < a3 then
         (rec a0 x57 x78 a3 f4).bind fun x113=>
         some ()
        else
         some ()
       else
        some ()
    else
     if a1 < zv20_5 then
      if zv20_5 < x57 then
       (rec a0 a1 zv20_5 x57 f4).bind fun x117=>
       if x57 < x78 then
        if x78 < a3 then
         (rec a0 x57 x78 a3 f4).bind fun x121=>
         some ()
        else
         some ()
       else
        some ()
      else
       if x57 < x78 then
        if x78 < a3 then
         (rec a0 x57 x78 a3 f4).bind fun x125=>
         some ()
        else
         some ()
       else
        some ()
     else
      if x57 < x78 then
       if x78 < a3 then
        (rec a0 x57 x78 a3 f4).bind fun x129=>
        some ()
       else
        some ()
      else
       some ()
   else
    (chk (x58 - 1)).bind fun x131=>
    (qB (xw a0 a1 a2 a3 x57 x58 x131 f4) (a1,a2)).bind fun zv20_5=>
    (chk (x58 - zv20_5)).bind fun x148=>
    if zv20_5 < a2 then
     if a2 < x148 then
      (F385 a0 zv20_5 a2 x148 f4).bind fun x151=>
      if a1 < zv20_5 then
       if zv20_5 < x57 then
        (rec a0 a1 zv20_5 x57 f4).bind fun x155=>
        if x57 < x148 then
         if x148 < a3 then
          (rec a0 x57 x148 a3 f4).bind fun x159=>
          some ()
         else
          some ()
        else
         some ()
       else
        if x57 < x148 then
         if x148 < a3 then
          (rec a0 x57 x148 a3 f4).bind fun x163=>
          some ()
         else
          some ()
        else
         some ()
      else
       if x57 < x148 then
        if x148 < a3 then
         (rec a0 x57 x148 a3 f4).bind fun x167=>
         some ()
        else
         some ()
       else
        some ()
     else
      if a1 < zv20_5 then
       if zv20_5 < x57 then
        (rec a0 a1 zv20_5 x57 f4).bind fun x171=>
        if x57 < x148 then
         if x148 < a3 then
          (rec a0 x57 x148 a3 f4).bind fun x175=>
          some ()
         else
          some ()
        else
         some ()
       else
        if x57 < x148 then
         if x148 < a3 then
          (rec a0 x57 x148 a3 f4).bind fun x179=>
          some ()
         else
          some ()
        else
         some ()
      else
       if x57 < x148 then
        if x148 < a3 then
         (rec a0 x57 x148 a3 f4).bind fun x183=>
         some ()
        else
         some ()
       else
        some ()
    else
     if a1 < zv20_5 then
      if zv20_5 < x57 then
       (rec a0 a1 zv20_5 x57 f4).bind fun x187=>
       if x57 < x148 then
        if x148 < a3 then
         (rec a0 x57 x148 a3 f4).bind fun x191=>
         some ()
        else
         some ()
       else
        some ()
      else
       if x57 < x148 then
        if x148 < a3 then
         (rec a0 x57 x148 a3 f4).bind fun x195=>
         some ()
        else
         some ()
       else
        some ()
     else
      if x57 < x148 then
       if x148 < a3 then
        (rec a0 x57 x148 a3 f4).bind fun x199=>
        some ()
       else
        some ()
      else
       some ()
def F383R:Nat→(List GBar)→Int→Int→Int→(GBar→GBar→Option Int)→Option Unit
 |0=> fun _ _ _ _ _=> none
 |n+1=> F383S (F383R n)
def F383(a0:List GBar)(a1:Int)(a2:Int)(a3:Int)(f4:GBar→GBar→Option Int):Option Unit:=F383R 6 a0 a1 a2 a3 f4
def I383_1(a0:List GBar)(a1:Int)(f4:GBar→GBar→Option Int)(vf4:V)(s:Int×Int)(e:Env)(h:Heap):Prop:=
 match s with
 |(v10_1,v11_1)=>
  ∃k4:Nat,h=⟨[],k4⟩∧e.length=220∧e.at 0=V.isl (a0.map enc)∧e.at 1=V.int .i64 a1∧e.at 4=vf4∧e.at 10=V.int .i64 v10_1∧e.at 11=V.int .i64 v11_1
def P383_1(a0:List GBar)(a1:Int)(f4:GBar→GBar→Option Int)(vf4:V)(zv10_1:Int)(x:Ex)(e:Env)(h:Heap):Prop:=
 x= .normal∧∃k4:Nat,h=⟨[],k4⟩∧e.length=220∧e.at 0=V.isl (a0.map enc)∧e.at 1=V.int .i64 a1∧e.at 10=V.int .i64 zv10_1
theorem l383_1(a0:List GBar)(a1:Int)(f4:GBar→GBar→Option Int)(vf4:V)(hf4:Clo2 A vf4 f4){s:Int×Int}{t:Int}(hF:qB (F383_1_S a0 a1 f4) s=some t){e:Env}{h:Heap}(hI:I383_1 a0 a1 f4 vf4 s e h):W A c383_1 e h (P383_1 a0 a1 f4 vf4 t):=by
 obtain⟨g_f4,fs_f4,cs_f4,hv_f4,hc_f4⟩:=id hf4;show W A (.block 0 (.loop false b383_1)) e h _;rw[qh];refine zy hF 0 (by rcases s with⟨_,_⟩; obtain⟨_,rfl,_⟩:=hI; rfl) (I383_1 a0 a1 f4 vf4) hI ?_
 ·rintro⟨v10_1,v11_1⟩ e h ⟨k4,rfl,h_3⟩ o ho
  unfold F383_1_S at ho;dsimp only at ho;by_cases c6:v10_1 < v11_1
  ·rw[if_pos c6]at ho
   obtain⟨x7,gx7,ho⟩:=bS ho;have wx7:=qm gx7;obtain⟨x8,gx8,ho⟩:=bS ho;have wx8:=qm gx8;obtain⟨x9,gx9,ho⟩:=bS ho;obtain⟨w10a,w10b⟩:=qf gx9;obtain⟨x11,gx11,ho⟩:=bS ho;obtain⟨w12a,w12b⟩:=qf gx11;obtain⟨x13,gx13,ho⟩:=bS ho;have w14a:∀h,mapO (frz h 16) (fs_f4++[V.agg [V.int .i64 x9.Degree,V.int .i64 x9.Birth,V.int .i64 x9.Death],V.agg [V.int .i64 x11.Degree,V.int .i64 x11.Birth,V.int .i64 x11.Death]]++cs_f4)=some (fs_f4++[V.agg [V.int .i64 x9.Degree,V.int .i64 x9.Birth,V.int .i64 x9.Death],V.agg [V.int .i64 x11.Degree,V.int .i64 x11.Birth,V.int .i64 x11.Death]]++cs_f4):=fun h=> hc_f4.zf x9 x11 h;have w14b:List.all (fs_f4++[V.agg [V.int .i64 x9.Degree,V.int .i64 x9.Birth,V.int .i64 x9.Death],V.agg [V.int .i64 x11.Degree,V.int .i64 x11.Birth,V.int .i64 x11.Death]]++cs_f4) (ql 16)=true:=hc_f4.zr x9 x11;have w14c:ans A g_f4 (fs_f4++[V.agg [V.int .i64 x9.Degree,V.int .i64 x9.Birth,V.int .i64 x9.Death],V.agg [V.int .i64 x11.Degree,V.int .i64 x11.Birth,V.int .i64 x11.Death]]++cs_f4)=some (V.int .i64 x13):=hc_f4.ka x9 x11 _ gx13;by_cases c15:x13 < 0
   ·rw[if_pos c15]at ho
    obtain⟨x16,gx16,ho⟩:=bS ho;have wx16:=qm gx16;cases ho;simp only[simprocAttr,R0,b383_1,qT, *];refine ai rfl (ei _ (ai rfl ?_));simp only[simprocAttr,R0,qT, *]
   ·rw[if_neg c15]at ho
    cases ho;simp only[simprocAttr,R0,b383_1,qT, *];refine ai rfl (ei _ (ai rfl ?_));simp only[simprocAttr,R0,qT, *]
  ·rw[if_neg c6]at ho
   cases ho;simp only[simprocAttr,R0,b383_1, *];intro ht;(first|subst ht|cases t);simp only[simprocAttr,RR,RB];refine ai rfl (ei _ (ai rfl ?_));simp only[simprocAttr,R0, *]
def I383_2(a0:List GBar)(zv10_1:Int)(v13_2:Int)(e:Env)(h:Heap):Prop:=
 ∃k19:Nat,h=⟨[],k19⟩∧e.length=220∧e.at 0=V.isl (a0.map enc)∧e.at 10=V.int .i64 zv10_1∧e.at 13=V.int .i64 v13_2
def P383_2(a0:List GBar)(zv10_1:Int)(t:Unit)(x:Ex)(e:Env)(h:Heap):Prop:=
 x= .normal∧∃k19:Nat,h=⟨[],k19⟩∧e.length=220
theorem l383_2(a0:List GBar)(zv10_1:Int){s:Int}{t:Unit}(hF:qB (F383_2_S a0 zv10_1) s=some t){e:Env}{h:Heap}(hI:I383_2 a0 zv10_1 s e h):W A c383_2 e h (P383_2 a0 zv10_1 t):=by
 show W A (.block 2 (.loop false b383_2)) e h _;rw[qh];refine zy hF 0 (by obtain⟨_,rfl,_⟩:=hI; rfl) (I383_2 a0 zv10_1) hI ?_
 ·rintro v13_2 e h ⟨k19,rfl,h_18⟩ o ho
  unfold F383_2_S at ho;obtain⟨x21,gx21,ho⟩:=bS ho;have wx21:=qm gx21;by_cases c22:v13_2 < x21
  ·rw[if_pos c22]at ho
   obtain⟨x23,gx23,ho⟩:=bS ho;have wx23:=qm gx23;obtain⟨x24,gx24,ho⟩:=bS ho;obtain⟨w25a,w25b⟩:=qf gx24;obtain⟨x26,gx26,ho⟩:=bS ho;obtain⟨w27a,w27b⟩:=qf gx26;cases ho
  ·rw[if_neg c22]at ho
   cases ho;simp only[simprocAttr,R0,b383_2, *];intro ht;(first|subst ht|cases t);simp only[simprocAttr,RR,RB];refine ai rfl (ei _ (ai rfl ?_));simp only[simprocAttr,R0, *]
def I383_3(a0:List GBar)(a2:Int)(f4:GBar→GBar→Option Int)(vf4:V)(s:Int×Int)(e:Env)(h:Heap):Prop:=
 match s with
 |(v14_3,v15_3)=>
  ∃k32:Nat,h=⟨[],k32⟩∧e.length=220∧e.at 0=V.isl (a0.map enc)∧e.at 2=V.int .i64 a2∧e.at 4=vf4∧e.at 14=V.int .i64 v14_3∧e.at 15=V.int .i64 v15_3
def P383_3(a0:List GBar)(a2:Int)(f4:GBar→GBar→Option Int)(vf4:V)(zv14_3:Int)(x:Ex)(e:Env)(h:Heap):Prop:=
 x= .normal∧∃k32:Nat,h=⟨[],k32⟩∧e.length=220∧e.at 0=V.isl (a0.map enc)∧e.at 2=V.int .i64 a2∧e.at 14=V.int .i64 zv14_3
theorem l383_3(a0:List GBar)(a2:Int)(f4:GBar→GBar→Option Int)(vf4:V)(hf4:Clo2 A vf4 f4){s:Int×Int}{t:Int}(hF:qB (F383_3_S a0 a2 f4) s=some t){e:Env}{h:Heap}(hI:I383_3 a0 a2 f4 vf4 s e h):W A c383_3 e h (P383_3 a0 a2 f4 vf4 t):=by
 obtain⟨g_f4,fs_f4,cs_f4,hv_f4,hc_f4⟩:=id hf4;show W A (.block 4 (.loop false b383_3)) e h _;rw[qh];refine zy hF 0 (by rcases s with⟨_,_⟩; obtain⟨_,rfl,_⟩:=hI; rfl) (I383_3 a0 a2 f4 vf4) hI ?_
 ·rintro⟨v14_3,v15_3⟩ e h ⟨k32,rfl,h_31⟩ o ho
  unfold F383_3_S at ho;dsimp only at ho;by_cases c34:v14_3 < v15_3
  ·rw[if_pos c34]at ho
   obtain⟨x35,gx35,ho⟩:=bS ho;have wx35:=qm gx35;obtain⟨x36,gx36,ho⟩:=bS ho;have wx36:=qm gx36;obtain⟨x37,gx37,ho⟩:=bS ho;obtain⟨w38a,w38b⟩:=qf gx37;obtain⟨x39,gx39,ho⟩:=bS ho;obtain⟨w40a,w40b⟩:=qf gx39;obtain⟨x41,gx41,ho⟩:=bS ho;have w42a:∀h,mapO (frz h 16) (fs_f4++[V.agg [V.int .i64 x37.Degree,V.int .i64 x37.Birth,V.int .i64 x37.Death],V.agg [V.int .i64 x39.Degree,V.int .i64 x39.Birth,V.int .i64 x39.Death]]++cs_f4)=some (fs_f4++[V.agg [V.int .i64 x37.Degree,V.int .i64 x37.Birth,V.int .i64 x37.Death],V.agg [V.int .i64 x39.Degree,V.int .i64 x39.Birth,V.int .i64 x39.Death]]++cs_f4):=fun h=> hc_f4.zf x37 x39 h;have w42b:List.all (fs_f4++[V.agg [V.int .i64 x37.Degree,V.int .i64 x37.Birth,V.int .i64 x37.Death],V.agg [V.int .i64 x39.Degree,V.int .i64 x39.Birth,V.int .i64 x39.Death]]++cs_f4) (ql 16)=true:=hc_f4.zr x37 x39;have w42c:ans A g_f4 (fs_f4++[V.agg [V.int .i64 x37.Degree,V.int .i64 x37.Birth,V.int .i64 x37.Death],V.agg [V.int .i64 x39.Degree,V.int .i64 x39.Birth,V.int .i64 x39.Death]]++cs_f4)=some (V.int .i64 x41):=hc_f4.ka x37 x39 _ gx41;by_cases c43:x41 < 0
   ·rw[if_pos c43]at ho
    cases ho;simp only[simprocAttr,R0,b383_3,qT, *];refine ai rfl (ei _ (ai rfl ?_));simp only[simprocAttr,R0,qT, *]
   ·rw[if_neg c43]at ho
    obtain⟨x44,gx44,ho⟩:=bS ho;have wx44:=qm gx44;cases ho;simp only[simprocAttr,R0,b383_3,qT, *];refine ai rfl (ei _ (ai rfl ?_));simp only[simprocAttr,R0,qT, *]
  ·rw[if_neg c34]at ho
   cases ho;simp only[simprocAttr,R0,b383_3, *];intro ht;(first|subst ht|cases t);simp only[simprocAttr,RR,RB];refine ai rfl (ei _ (ai rfl ?_));simp only[simprocAttr,R0, *]
def I383_4(a0:List GBar)(zv14_3:Int)(v17_4:Int)(e:Env)(h:Heap):Prop:=
 ∃k47:Nat,h=⟨[],k47⟩∧e.length=220∧e.at 0=V.isl (a0.map enc)∧e.at 14=V.int .i64 zv14_3∧e.at 17=V.int .i64 v17_4
def P383_4(a0:List GBar)(zv14_3:Int)(t:Unit)(x:Ex)(e:Env)(h:Heap):Prop:=
 x= .normal∧∃k47:Nat,h=⟨[],k47⟩∧e.length=220
theorem l383_4(a0:List GBar)(zv14_3:Int){s:Int}{t:Unit}(hF:qB (F383_4_S a0 zv14_3) s=some t){e:Env}{h:Heap}(hI:I383_4 a0 zv14_3 s e h):W A c383_4 e h (P383_4 a0 zv14_3 t):=by
 show W A (.block 6 (.loop false b383_4)) e h _;rw[qh];refine zy hF 0 (by obtain⟨_,rfl,_⟩:=hI; rfl) (I383_4 a0 zv14_3) hI ?_
 ·rintro v17_4 e h ⟨k47,rfl,h_46⟩ o ho
  unfold F383_4_S at ho;by_cases c49:zv14_3 < v17_4
  ·rw[if_pos c49]at ho
   obtain⟨x50,gx50,ho⟩:=bS ho;have wx50:=qm gx50;obtain⟨x51,gx51,ho⟩:=bS ho;obtain⟨w52a,w52b⟩:=qf gx51;obtain⟨x53,gx53,ho⟩:=bS ho;obtain⟨w54a,w54b⟩:=qf gx53;cases ho
  ·rw[if_neg c49]at ho
   cases ho;simp only[simprocAttr,R0,b383_4, *];intro ht;(first|subst ht|cases t);simp only[simprocAttr,RR,RB];refine ai rfl (ei _ (ai rfl ?_));simp only[simprocAttr,R0, *]
def I383_5(a0:List GBar)(a1:Int)(a2:Int)(a3:Int)(x57:Int)(x58:Int)(x61:Int)(f4:GBar→GBar→Option Int)(vf4:V)(s:Int×Int)(e:Env)(h:Heap):Prop:=
 match s with
 |(v20_5,v21_5)=>
  ∃k63:Nat,h=⟨[],k63⟩∧e.length=220∧e.at 0=V.isl (a0.map enc)∧e.at 1=V.int .i64 a1∧e.at 2=V.int .i64 a2∧e.at 3=V.int .i64 a3∧e.at 4=vf4∧e.at 18=V.int .i64 x57∧e.at 19=V.int .i64 x58∧e.at 20=V.int .i64 v20_5∧e.at 21=V.int .i64 v21_5∧e.at 22=V.int .i64 x61
def P383_5(a0:List GBar)(a1:Int)(a2:Int)(a3:Int)(x57:Int)(x58:Int)(x61:Int)(f4:GBar→GBar→Option Int)(vf4:V)(zv20_5:Int)(x:Ex)(e:Env)(h:Heap):Prop:=
 x= .normal∧∃k63:Nat,h=⟨[],k63⟩∧e.length=220∧e.at 0=V.isl (a0.map enc)∧e.at 1=V.int .i64 a1∧e.at 2=V.int .i64 a2∧e.at 3=V.int .i64 a3∧e.at 4=vf4∧e.at 18=V.int .i64 x57∧e.at 19=V.int .i64 x58∧e.at 20=V.int .i64 zv20_5
theorem l383_5(a0:List GBar)(a1:Int)(a2:Int)(a3:Int)(x57:Int)(x58:Int)(x61:Int)(f4:GBar→GBar→Option Int)(vf4:V)(hf4:Clo2 A vf4 f4){s:Int×Int}{t:Int}(hF:qB (xw a0 a1 a2 a3 x57 x58 x61 f4) s=some t){e:Env}{h:Heap}(hI:I383_5 a0 a1 a2 a3 x57 x58 x61 f4 vf4 s e h):W A c383_5 e h (P383_5 a0 a1 a2 a3 x57 x58 x61 f4 vf4 t):=by
 obtain⟨g_f4,fs_f4,cs_f4,hv_f4,hc_f4⟩:=id hf4;show W A (.block 8 (.loop false b383_5)) e h _;rw[qh];refine zy hF 0 (by rcases s with⟨_,_⟩; obtain⟨_,rfl,_⟩:=hI; rfl) (I383_5 a0 a1 a2 a3 x57 x58 x61 f4 vf4) hI ?_
 ·rintro⟨v20_5,v21_5⟩ e h ⟨k63,rfl,h_62⟩ o ho
  unfold xw at ho;dsimp only at ho;by_cases c65:v20_5 < v21_5
  ·rw[if_pos c65]at ho
   obtain⟨x66,gx66,ho⟩:=bS ho;have wx66:=qm gx66;obtain⟨x67,gx67,ho⟩:=bS ho;have wx67:=qm gx67;obtain⟨x68,gx68,ho⟩:=bS ho;have wx68:=qm gx68;obtain⟨x69,gx69,ho⟩:=bS ho;obtain⟨w70a,w70b⟩:=qf gx69;obtain⟨x71,gx71,ho⟩:=bS ho;obtain⟨w72a,w72b⟩:=qf gx71;obtain⟨x73,gx73,ho⟩:=bS ho;have w74a:∀h,mapO (frz h 16) (fs_f4++[V.agg [V.int .i64 x69.Degree,V.int .i64 x69.Birth,V.int .i64 x69.Death],V.agg [V.int .i64 x71.Degree,V.int .i64 x71.Birth,V.int .i64 x71.Death]]++cs_f4)=some (fs_f4++[V.agg [V.int .i64 x69.Degree,V.int .i64 x69.Birth,V.int .i64 x69.Death],V.agg [V.int .i64 x71.Degree,V.int .i64 x71.Birth,V.int .i64 x71.Death]]++cs_f4):=fun h=> hc_f4.zf x69 x71 h;have w74b:List.all (fs_f4++[V.agg [V.int .i64 x69.Degree,V.int .i64 x69.Birth,V.int .i64 x69.Death],V.agg [V.int .i64 x71.Degree,V.int .i64 x71.Birth,V.int .i64 x71.Death]]++cs_f4) (ql 16)=true:=hc_f4.zr x69 x71;have w74c:ans A g_f4 (fs_f4++[V.agg [V.int .i64 x69.Degree,V.int .i64 x69.Birth,V.int .i64 x69.Death],V.agg [V.int .i64 x71.Degree,V.int .i64 x71.Birth,V.int .i64 x71.Death]]++cs_f4)=some (V.int .i64 x73):=hc_f4.ka x69 x71 _ gx73;by_cases c75:x73 < 0
   ·rw[if_pos c75]at ho
    cases ho;simp only[simprocAttr,R0,b383_5,qT, *];refine ai rfl (ei _ (ai rfl ?_));simp only[simprocAttr,R0,qT, *]
   ·rw[if_neg c75]at ho
    obtain⟨x76,gx76,ho⟩:=bS ho;have wx76:=qm gx76;cases ho;simp only[simprocAttr,R0,b383_5,qT, *];refine ai rfl (ei _ (ai rfl ?_));simp only[simprocAttr,R0,qT, *]
  ·rw[if_neg c65]at ho
   cases ho;simp only[simprocAttr,R0,b383_5, *];intro ht;(first|subst ht|cases t);simp only[simprocAttr,RR,RB];refine ai rfl (ei _ (ai rfl ?_));simp only[simprocAttr,R0, *]
theorem s383S(rec:(List GBar)→Int→Int→Int→(GBar→GBar→Option Int)→Option Unit)(hrec:∀ (a0:List GBar) (a1:Int) (a2:Int) (a3:Int) (f4:GBar→GBar→Option Int) {vf4:V} (hf4:Clo2 A vf4 f4) {r:Unit},rec a0 a1 a2 a3 f4=some r→ans A 383 [V.isl (a0.map enc),V.int .i64 a1,V.int .i64 a2,V.int .i64 a3,vf4]=some (EncR.enc r))(a0:List GBar)(a1:Int)(a2:Int)(a3:Int)(f4:GBar→GBar→Option Int){vf4:V}(hf4:Clo2 A vf4 f4){r:Unit}(hF:F383S rec a0 a1 a2 a3 f4=some r):ans A 383 [V.isl (a0.map enc),V.int .i64 a1,V.int .i64 a2,V.int .i64 a3,vf4]=some (EncR.enc r):=by
 refine qp (f:=p383) rfl rfl rfl fun e hl he=>?_;have h0_0:e.at 0=V.isl (a0.map enc):=he 0 _ rfl;have h1_0:e.at 1=V.int .i64 a1:=he 1 _ rfl;have h2_0:e.at 2=V.int .i64 a2:=he 2 _ rfl;have h3_0:e.at 3=V.int .i64 a3:=he 3 _ rfl;have h4_0:e.at 4=vf4:=he 4 _ rfl;obtain⟨g_f4,fs_f4,cs_f4,hv_f4,hc_f4⟩:=id hf4;have hl_0:e.length=220:=hl;clear he hl;have h_0:=ai hl_0 (ai h0_0 (ai h1_0 (ai h2_0 (ai h3_0 h4_0))));show W A b383 e ⟨[],0⟩ _;unfold F383S at hF;obtain⟨x1,gx1,hF⟩:=bS hF;have wx1:=qm gx1;by_cases c2:x1=1
 ·rw[if_pos c2]at hF
  obtain⟨zv10_1,gt17,hF⟩:=bS hF;simp only[simprocAttr,R0,b383,h_0,wx1,eq_true c2];refine W.mono (l383_1 a0 a1 f4 vf4 hf4 gt17 (ei _ (ai rfl ?_))) ?_
  ·simp only[simprocAttr,R0,h_0,wx1,eq_true c2]
  rintro _ e _ ⟨rfl,k4,rfl,h_5⟩;obtain⟨_,gt28,hF⟩:=bS hF;simp only[simprocAttr,R0,h_5,eq_true c2];refine W.mono (l383_2 a0 zv10_1 gt28 (ei _ (ai rfl ?_))) ?_
  ·simp only[simprocAttr,R0,h_5,eq_true c2]
  rintro _ e _ ⟨rfl,k19,rfl,hl_20⟩;cases hF
  try simp only[simprocAttr,R0,hl_20,eq_true c2]
  exact qd (by simp only[simprocAttr,R0,qb,p383,Rs.ev,qa,hl_20,eq_true c2])
 ·rw[if_neg c2]at hF
  obtain⟨x29,gx29,hF⟩:=bS hF;have wx29:=qm gx29;by_cases c30:x29=1
  ·rw[if_pos c30]at hF
   obtain⟨zv14_3,gt45,hF⟩:=bS hF;simp only[simprocAttr,R0,b383,h_0,wx1,eq_false c2,wx29,eq_true c30];refine W.mono (l383_3 a0 a2 f4 vf4 hf4 gt45 (ei _ (ai rfl ?_))) ?_
   ·simp only[simprocAttr,R0,h_0,wx1,eq_false c2,wx29,eq_true c30]
   rintro _ e _ ⟨rfl,k32,rfl,h_33⟩;obtain⟨_,gt55,hF⟩:=bS hF;simp only[simprocAttr,R0,h_33,eq_false c2,eq_true c30];refine W.mono (l383_4 a0 zv14_3 gt55 (ei _ (ai rfl ?_))) ?_
   ·simp only[simprocAttr,R0,h_33,eq_false c2,eq_true c30]
   rintro _ e _ ⟨rfl,k47,rfl,hl_48⟩;cases hF
   try simp only[simprocAttr,R0,hl_48,eq_false c2,eq_true c30]
   exact qd (by simp only[simprocAttr,R0,qb,p383,Rs.ev,qa,hl_48,eq_false c2,eq_true c30])
  ·rw[if_neg c30]at hF
   obtain⟨x56,gx56,hF⟩:=bS hF;have wx56:=qm gx56;obtain⟨x57,gx57,hF⟩:=bS hF;have wx57:=qm gx57;obtain⟨x58,gx58,hF⟩:=bS hF;have wx58:=qm gx58;by_cases c59:x57 < a2
   ·rw[if_pos c59]at hF
    obtain⟨x60,gx60,hF⟩:=bS hF;have wx60:=qm gx60;obtain⟨x61,gx61,hF⟩:=bS hF;have wx61:=qm gx61;obtain⟨zv20_5,gt77,hF⟩:=bS hF;simp only[simprocAttr,R0,b383,h_0,wx1,eq_false c2,wx29,eq_false c30,wx56,qT,wx57,wx58,eq_true c59,wx60,wx61];refine W.mono (l383_5 a0 a1 a2 a3 x57 x58 x61 f4 vf4 hf4 gt77 (ei _ (ai rfl ?_))) ?_
    ·simp only[simprocAttr,R0,h_0,wx1,eq_false c2,wx29,eq_false c30,wx56,qT,wx57,wx58,eq_true c59,wx60,wx61]
    rintro _ e _ ⟨rfl,k63,rfl,h_64⟩;obtain⟨x78,gx78,hF⟩:=bS hF;have wx78:=qm gx78;by_cases c79:zv20_5 < a2
    ·rw[if_pos c79]at hF
     by_cases c80:a2 < x78
     ·rw[if_pos c80]at hF
      obtain⟨x81,gx81,hF⟩:=bS hF;have w82:ans A 385 [V.isl (a0.map enc),V.int .i64 zv20_5,V.int .i64 a2,V.int .i64 x78,vf4]=some (V.tup []):=s385 a0 zv20_5 a2 x78 f4 hf4 gx81;by_cases c83:a1 < zv20_5
      ·rw[if_pos c83]at hF
       by_cases c84:zv20_5 < x57
       ·rw[if_pos c84]at hF
        obtain⟨x85,gx85,hF⟩:=bS hF;have w86:ans A 383 [V.isl (a0.map enc),V.int .i64 a1,V.int .i64 zv20_5,V.int .i64 x57,vf4]=some (V.tup []):=hrec a0 a1 zv20_5 x57 f4 hf4 gx85;by_cases c87:x57 < x78
        ·rw[if_pos c87]at hF
         by_cases c88:x78 < a3
         ·rw[if_pos c88]at hF
          obtain⟨x89,gx89,hF⟩:=bS hF;have w90:ans A 383 [V.isl (a0.map enc),V.int .i64 x57,V.int .i64 x78,V.int .i64 a3,vf4]=some (V.tup []):=hrec a0 x57 x78 a3 f4 hf4 gx89;cases hF
          try simp only[simprocAttr,R0,h_64,eq_false c2,eq_false c30,eq_true c59,wx78,eq_true c79,eq_true c80,hf4.fz,hf4.rl,w82,eq_true c83,eq_true c84,hf4.fz,hf4.rl,w86,eq_true c87,eq_true c88,hf4.fz,hf4.rl,w90]
          exact qe (by simp only[simprocAttr,R0,qb,p383,Rs.ev,qa,h_64,eq_false c2,eq_false c30,eq_true c59,wx78,eq_true c79,eq_true c80,hf4.fz,hf4.rl,w82,eq_true c83,eq_true c84,hf4.fz,hf4.rl,w86,eq_true c87,eq_true c88,hf4.fz,hf4.rl,w90])
         ·rw[if_neg c88]at hF
          cases hF
          try simp only[simprocAttr,R0,h_64,eq_false c2,eq_false c30,eq_true c59,wx78,eq_true c79,eq_true c80,hf4.fz,hf4.rl,w82,eq_true c83,eq_true c84,hf4.fz,hf4.rl,w86,eq_true c87,eq_false c88]
          exact qe (by simp only[simprocAttr,R0,qb,p383,Rs.ev,qa,h_64,eq_false c2,eq_false c30,eq_true c59,wx78,eq_true c79,eq_true c80,hf4.fz,hf4.rl,w82,eq_true c83,eq_true c84,hf4.fz,hf4.rl,w86,eq_true c87,eq_false c88])
        ·rw[if_neg c87]at hF
         cases hF
         try simp only[simprocAttr,R0,h_64,eq_false c2,eq_false c30,eq_true c59,wx78,eq_true c79,eq_true c80,hf4.fz,hf4.rl,w82,eq_true c83,eq_true c84,hf4.fz,hf4.rl,w86,eq_false c87]
         exact qe (by simp only[simprocAttr,R0,qb,p383,Rs.ev,qa,h_64,eq_false c2,eq_false c30,eq_true c59,wx78,eq_true c79,eq_true c80,hf4.fz,hf4.rl,w82,eq_true c83,eq_true c84,hf4.fz,hf4.rl,w86,eq_false c87])
       ·rw[if_neg c84]at hF
        by_cases c91:x57 < x78
        ·rw[if_pos c91]at hF
         by_cases c92:x78 < a3
         ·rw[if_pos c92]at hF
          obtain⟨x93,gx93,hF⟩:=bS hF;have w94:ans A 383 [V.isl (a0.map enc),V.int .i64 x57,V.int .i64 x78,V.int .i64 a3,vf4]=some (V.tup []):=hrec a0 x57 x78 a3 f4 hf4 gx93;cases hF
          try simp only[simprocAttr,R0,h_64,eq_false c2,eq_false c30,eq_true c59,wx78,eq_true c79,eq_true c80,hf4.fz,hf4.rl,w82,eq_true c83,eq_false c84,eq_true c91,eq_true c92,hf4.fz,hf4.rl,w94]
          exact qe (by simp only[simprocAttr,R0,qb,p383,Rs.ev,qa,h_64,eq_false c2,eq_false c30,eq_true c59,wx78,eq_true c79,eq_true c80,hf4.fz,hf4.rl,w82,eq_true c83,eq_false c84,eq_true c91,eq_true c92,hf4.fz,hf4.rl,w94])
         ·rw[if_neg c92]at hF
          cases hF
          try simp only[simprocAttr,R0,h_64,eq_false c2,eq_false c30,eq_true c59,wx78,eq_true c79,eq_true c80,hf4.fz,hf4.rl,w82,eq_true c83,eq_false c84,eq_true c91,eq_false c92]
          exact qe (by simp only[simprocAttr,R0,qb,p383,Rs.ev,qa,h_64,eq_false c2,eq_false c30,eq_true c59,wx78,eq_true c79,eq_true c80,hf4.fz,hf4.rl,w82,eq_true c83,eq_false c84,eq_true c91,eq_false c92])
        ·rw[if_neg c91]at hF
         cases hF
         try simp only[simprocAttr,R0,h_64,eq_false c2,eq_false c30,eq_true c59,wx78,eq_true c79,eq_true c80,hf4.fz,hf4.rl,w82,eq_true c83,eq_false c84,eq_false c91]
         exact qe (by simp only[simprocAttr,R0,qb,p383,Rs.ev,qa,h_64,eq_false c2,eq_false c30,eq_true c59,wx78,eq_true c79,eq_true c80,hf4.fz,hf4.rl,w82,eq_true c83,eq_false c84,eq_false c91])
      ·rw[if_neg c83]at hF
       by_cases c95:x57 < x78
       ·rw[if_pos c95]at hF
        by_cases c96:x78 < a3
        ·rw[if_pos c96]at hF
         obtain⟨x97,gx97,hF⟩:=bS hF;have w98:ans A 383 [V.isl (a0.map enc),V.int .i64 x57,V.int .i64 x78,V.int .i64 a3,vf4]=some (V.tup []):=hrec a0 x57 x78 a3 f4 hf4 gx97;cases hF
         try simp only[simprocAttr,R0,h_64,eq_false c2,eq_false c30,eq_true c59,wx78,eq_true c79,eq_true c80,hf4.fz,hf4.rl,w82,eq_false c83,eq_true c95,eq_true c96,hf4.fz,hf4.rl,w98]
         exact qe (by simp only[simprocAttr,R0,qb,p383,Rs.ev,qa,h_64,eq_false c2,eq_false c30,eq_true c59,wx78,eq_true c79,eq_true c80,hf4.fz,hf4.rl,w82,eq_false c83,eq_true c95,eq_true c96,hf4.fz,hf4.rl,w98])
        ·rw[if_neg c96]at hF
         cases hF
         try simp only[simprocAttr,R0,h_64,eq_false c2,eq_false c30,eq_true c59,wx78,eq_true c79,eq_true c80,hf4.fz,hf4.rl,w82,eq_false c83,eq_true c95,eq_false c96]
         exact qe (by simp only[simprocAttr,R0,qb,p383,Rs.ev,qa,h_64,eq_false c2,eq_false c30,eq_true c59,wx78,eq_true c79,eq_true c80,hf4.fz,hf4.rl,w82,eq_false c83,eq_true c95,eq_false c96])
       ·rw[if_neg c95]at hF
        cases hF
        try simp only[simprocAttr,R0,h_64,eq_false c2,eq_false c30,eq_true c59,wx78,eq_true c79,eq_true c80,hf4.fz,hf4.rl,w82,eq_false c83,eq_false c95]
        exact qe (by simp only[simprocAttr,R0,qb,p383,Rs.ev,qa,h_64,eq_false c2,eq_false c30,eq_true c59,wx78,eq_true c79,eq_true c80,hf4.fz,hf4.rl,w82,eq_false c83,eq_false c95])
     ·rw[if_neg c80]at hF
      by_cases c99:a1 < zv20_5
      ·rw[if_pos c99]at hF
       by_cases c100:zv20_5 < x57
       ·rw[if_pos c100]at hF
        obtain⟨x101,gx101,hF⟩:=bS hF;have w102:ans A 383 [V.isl (a0.map enc),V.int .i64 a1,V.int .i64 zv20_5,V.int .i64 x57,vf4]=some (V.tup []):=hrec a0 a1 zv20_5 x57 f4 hf4 gx101;by_cases c103:x57 < x78
        ·rw[if_pos c103]at hF
         by_cases c104:x78 < a3
         ·rw[if_pos c104]at hF
          obtain⟨x105,gx105,hF⟩:=bS hF;have w106:ans A 383 [V.isl (a0.map enc),V.int .i64 x57,V.int .i64 x78,V.int .i64 a3,vf4]=some (V.tup []):=hrec a0 x57 x78 a3 f4 hf4 gx105;cases hF
          try simp only[simprocAttr,R0,h_64,eq_false c2,eq_false c30,eq_true c59,wx78,eq_true c79,eq_false c80,eq_true c99,eq_true c100,hf4.fz,hf4.rl,w102,eq_true c103,eq_true c104,hf4.fz,hf4.rl,w106]
          exact qe (by simp only[simprocAttr,R0,qb,p383,Rs.ev,qa,h_64,eq_false c2,eq_false c30,eq_true c59,wx78,eq_true c79,eq_false c80,eq_true c99,eq_true c100,hf4.fz,hf4.rl,w102,eq_true c103,eq_true c104,hf4.fz,hf4.rl,w106])
         ·rw[if_neg c104]at hF
          cases hF
          try simp only[simprocAttr,R0,h_64,eq_false c2,eq_false c30,eq_true c59,wx78,eq_true c79,eq_false c80,eq_true c99,eq_true c100,hf4.fz,hf4.rl,w102,eq_true c103,eq_false c104]
          exact qe (by simp only[simprocAttr,R0,qb,p383,Rs.ev,qa,h_64,eq_false c2,eq_false c30,eq_true c59,wx78,eq_true c79,eq_false c80,eq_true c99,eq_true c100,hf4.fz,hf4.rl,w102,eq_true c103,eq_false c104])
        ·rw[if_neg c103]at hF
         cases hF
         try simp only[simprocAttr,R0,h_64,eq_false c2,eq_false c30,eq_true c59,wx78,eq_true c79,eq_false c80,eq_true c99,eq_true c100,hf4.fz,hf4.rl,w102,eq_false c103]
         exact qe (by simp only[simprocAttr,R0,qb,p383,Rs.ev,qa,h_64,eq_false c2,eq_false c30,eq_true c59,wx78,eq_true c79,eq_false c80,eq_true c99,eq_true c100,hf4.fz,hf4.rl,w102,eq_false c103])
       ·rw[if_neg c100]at hF
        by_cases c107:x57 < x78
        ·rw[if_pos c107]at hF
         by_cases c108:x78 < a3
         ·rw[if_pos c108]at hF
          obtain⟨x109,gx109,hF⟩:=bS hF;have w110:ans A 383 [V.isl (a0.map enc),V.int .i64 x57,V.int .i64 x78,V.int .i64 a3,vf4]=some (V.tup []):=hrec a0 x57 x78 a3 f4 hf4 gx109;cases hF
          try simp only[simprocAttr,R0,h_64,eq_false c2,eq_false c30,eq_true c59,wx78,eq_true c79,eq_false c80,eq_true c99,eq_false c100,eq_true c107,eq_true c108,hf4.fz,hf4.rl,w110]
          exact qe (by simp only[simprocAttr,R0,qb,p383,Rs.ev,qa,h_64,eq_false c2,eq_false c30,eq_true c59,wx78,eq_true c79,eq_false c80,eq_true c99,eq_false c100,eq_true c107,eq_true c108,hf4.fz,hf4.rl,w110])
         ·rw[if_neg c108]at hF
          cases hF
          try simp only[simprocAttr,R0,h_64,eq_false c2,eq_false c30,eq_true c59,wx78,eq_true c79,eq_false c80,eq_true c99,eq_false c100,eq_true c107,eq_false c108]
          exact qe (by simp only[simprocAttr,R0,qb,p383,Rs.ev,qa,h_64,eq_false c2,eq_false c30,eq_true c59,wx78,eq_true c79,eq_false c80,eq_true c99,eq_false c100,eq_true c107,eq_false c108])
        ·rw[if_neg c107]at hF
         cases hF
         try simp only[simprocAttr,R0,h_64,eq_false c2,eq_false c30,eq_true c59,wx78,eq_true c79,eq_false c80,eq_true c99,eq_false c100,eq_false c107]
         exact qe (by simp only[simprocAttr,R0,qb,p383,Rs.ev,qa,h_64,eq_false c2,eq_false c30,eq_true c59,wx78,eq_true c79,eq_false c80,eq_true c99,eq_false c100,eq_false c107])
      ·rw[if_neg c99]at hF
       by_cases c111:x57 < x78
       ·rw[if_pos c111]at hF
        by_cases c112:x78 < a3
        ·rw[if_pos c112]at hF
         obtain⟨x113,gx113,hF⟩:=bS hF;have w114:ans A 383 [V.isl (a0.map enc),V.int .i64 x57,V.int .i64 x78,V.int .i64 a3,vf4]=some (V.tup []):=hrec a0 x57 x78 a3 f4 hf4 gx113;cases hF
         try simp only[simprocAttr,R0,h_64,eq_false c2,eq_false c30,eq_true c59,wx78,eq_true c79,eq_false c80,eq_false c99,eq_true c111,eq_true c112,hf4.fz,hf4.rl,w114]
         exact qe (by simp only[simprocAttr,R0,qb,p383,Rs.ev,qa,h_64,eq_false c2,eq_false c30,eq_true c59,wx78,eq_true c79,eq_false c80,eq_false c99,eq_true c111,eq_true c112,hf4.fz,hf4.rl,w114])
        ·rw[if_neg c112]at hF
         cases hF
         try simp only[simprocAttr,R0,h_64,eq_false c2,eq_false c30,eq_true c59,wx78,eq_true c79,eq_false c80,eq_false c99,eq_true c111,eq_false c112]
         exact qe (by simp only[simprocAttr,R0,qb,p383,Rs.ev,qa,h_64,eq_false c2,eq_false c30,eq_true c59,wx78,eq_true c79,eq_false c80,eq_false c99,eq_true c111,eq_false c112])
       ·rw[if_neg c111]at hF
        cases hF
        try simp only[simprocAttr,R0,h_64,eq_false c2,eq_false c30,eq_true c59,wx78,eq_true c79,eq_false c80,eq_false c99,eq_false c111]
        exact qe (by simp only[simprocAttr,R0,qb,p383,Rs.ev,qa,h_64,eq_false c2,eq_false c30,eq_true c59,wx78,eq_true c79,eq_false c80,eq_false c99,eq_false c111])
    ·rw[if_neg c79]at hF
     by_cases c115:a1 < zv20_5
     ·rw[if_pos c115]at hF
      by_cases c116:zv20_5 < x57
      ·rw[if_pos c116]at hF
       obtain⟨x117,gx117,hF⟩:=bS hF;have w118:ans A 383 [V.isl (a0.map enc),V.int .i64 a1,V.int .i64 zv20_5,V.int .i64 x57,vf4]=some (V.tup []):=hrec a0 a1 zv20_5 x57 f4 hf4 gx117;by_cases c119:x57 < x78
       ·rw[if_pos c119]at hF
        by_cases c120:x78 < a3
        ·rw[if_pos c120]at hF
         obtain⟨x121,gx121,hF⟩:=bS hF;have w122:ans A 383 [V.isl (a0.map enc),V.int .i64 x57,V.int .i64 x78,V.int .i64 a3,vf4]=some (V.tup []):=hrec a0 x57 x78 a3 f4 hf4 gx121;cases hF
         try simp only[simprocAttr,R0,h_64,eq_false c2,eq_false c30,eq_true c59,wx78,eq_false c79,eq_true c115,eq_true c116,hf4.fz,hf4.rl,w118,eq_true c119,eq_true c120,hf4.fz,hf4.rl,w122]
         exact qe (by simp only[simprocAttr,R0,qb,p383,Rs.ev,qa,h_64,eq_false c2,eq_false c30,eq_true c59,wx78,eq_false c79,eq_true c115,eq_true c116,hf4.fz,hf4.rl,w118,eq_true c119,eq_true c120,hf4.fz,hf4.rl,w122])
        ·rw[if_neg c120]at hF
         cases hF
         try simp only[simprocAttr,R0,h_64,eq_false c2,eq_false c30,eq_true c59,wx78,eq_false c79,eq_true c115,eq_true c116,hf4.fz,hf4.rl,w118,eq_true c119,eq_false c120]
         exact qe (by simp only[simprocAttr,R0,qb,p383,Rs.ev,qa,h_64,eq_false c2,eq_false c30,eq_true c59,wx78,eq_false c79,eq_true c115,eq_true c116,hf4.fz,hf4.rl,w118,eq_true c119,eq_false c120])
       ·rw[if_neg c119]at hF
        cases hF
        try simp only[simprocAttr,R0,h_64,eq_false c2,eq_false c30,eq_true c59,wx78,eq_false c79,eq_true c115,eq_true c116,hf4.fz,hf4.rl,w118,eq_false c119]
        exact qe (by simp only[simprocAttr,R0,qb,p383,Rs.ev,qa,h_64,eq_false c2,eq_false c30,eq_true c59,wx78,eq_false c79,eq_true c115,eq_true c116,hf4.fz,hf4.rl,w118,eq_false c119])
      ·rw[if_neg c116]at hF
       by_cases c123:x57 < x78
       ·rw[if_pos c123]at hF
        by_cases c124:x78 < a3
        ·rw[if_pos c124]at hF
         obtain⟨x125,gx125,hF⟩:=bS hF;have w126:ans A 383 [V.isl (a0.map enc),V.int .i64 x57,V.int .i64 x78,V.int .i64 a3,vf4]=some (V.tup []):=hrec a0 x57 x78 a3 f4 hf4 gx125;cases hF
         try simp only[simprocAttr,R0,h_64,eq_false c2,eq_false c30,eq_true c59,wx78,eq_false c79,eq_true c115,eq_false c116,eq_true c123,eq_true c124,hf4.fz,hf4.rl,w126]
         exact qe (by simp only[simprocAttr,R0,qb,p383,Rs.ev,qa,h_64,eq_false c2,eq_false c30,eq_true c59,wx78,eq_false c79,eq_true c115,eq_false c116,eq_true c123,eq_true c124,hf4.fz,hf4.rl,w126])
        ·rw[if_neg c124]at hF
         cases hF
         try simp only[simprocAttr,R0,h_64,eq_false c2,eq_false c30,eq_true c59,wx78,eq_false c79,eq_true c115,eq_false c116,eq_true c123,eq_false c124]
         exact qe (by simp only[simprocAttr,R0,qb,p383,Rs.ev,qa,h_64,eq_false c2,eq_false c30,eq_true c59,wx78,eq_false c79,eq_true c115,eq_false c116,eq_true c123,eq_false c124])
       ·rw[if_neg c123]at hF
        cases hF
        try simp only[simprocAttr,R0,h_64,eq_false c2,eq_false c30,eq_true c59,wx78,eq_false c79,eq_true c115,eq_false c116,eq_false c123]
        exact qe (by simp only[simprocAttr,R0,qb,p383,Rs.ev,qa,h_64,eq_false c2,eq_false c30,eq_true c59,wx78,eq_false c79,eq_true c115,eq_false c116,eq_false c123])
     ·rw[if_neg c115]at hF
      by_cases c127:x57 < x78
      ·rw[if_pos c127]at hF
       by_cases c128:x78 < a3
       ·rw[if_pos c128]at hF
        obtain⟨x129,gx129,hF⟩:=bS hF;have w130:ans A 383 [V.isl (a0.map enc),V.int .i64 x57,V.int .i64 x78,V.int .i64 a3,vf4]=some (V.tup []):=hrec a0 x57 x78 a3 f4 hf4 gx129;cases hF
        try simp only[simprocAttr,R0,h_64,eq_false c2,eq_false c30,eq_true c59,wx78,eq_false c79,eq_false c115,eq_true c127,eq_true c128,hf4.fz,hf4.rl,w130]
        exact qe (by simp only[simprocAttr,R0,qb,p383,Rs.ev,qa,h_64,eq_false c2,eq_false c30,eq_true c59,wx78,eq_false c79,eq_false c115,eq_true c127,eq_true c128,hf4.fz,hf4.rl,w130])
       ·rw[if_neg c128]at hF
        cases hF
        try simp only[simprocAttr,R0,h_64,eq_false c2,eq_false c30,eq_true c59,wx78,eq_false c79,eq_false c115,eq_true c127,eq_false c128]
        exact qe (by simp only[simprocAttr,R0,qb,p383,Rs.ev,qa,h_64,eq_false c2,eq_false c30,eq_true c59,wx78,eq_false c79,eq_false c115,eq_true c127,eq_false c128])
      ·rw[if_neg c127]at hF
       cases hF
       try simp only[simprocAttr,R0,h_64,eq_false c2,eq_false c30,eq_true c59,wx78,eq_false c79,eq_false c115,eq_false c127]
       exact qe (by simp only[simprocAttr,R0,qb,p383,Rs.ev,qa,h_64,eq_false c2,eq_false c30,eq_true c59,wx78,eq_false c79,eq_false c115,eq_false c127])
   ·rw[if_neg c59]at hF
    obtain⟨x131,gx131,hF⟩:=bS hF;have wx131:=qm gx131;obtain⟨zv20_5,gt147,hF⟩:=bS hF;simp only[simprocAttr,R0,b383,h_0,wx1,eq_false c2,wx29,eq_false c30,wx56,qT,wx57,wx58,eq_false c59,wx131];refine W.mono (l383_5 a0 a1 a2 a3 x57 x58 x131 f4 vf4 hf4 gt147 (ei _ (ai rfl ?_))) ?_
    ·simp only[simprocAttr,R0,h_0,wx1,eq_false c2,wx29,eq_false c30,wx56,qT,wx57,wx58,eq_false c59,wx131]
    rintro _ e _ ⟨rfl,k133,rfl,h_134⟩;obtain⟨x148,gx148,hF⟩:=bS hF;have wx148:=qm gx148;by_cases c149:zv20_5 < a2
    ·rw[if_pos c149]at hF
     by_cases c150:a2 < x148
     ·rw[if_pos c150]at hF
      obtain⟨x151,gx151,hF⟩:=bS hF;have w152:ans A 385 [V.isl (a0.map enc),V.int .i64 zv20_5,V.int .i64 a2,V.int .i64 x148,vf4]=some (V.tup []):=s385 a0 zv20_5 a2 x148 f4 hf4 gx151;by_cases c153:a1 < zv20_5
      ·rw[if_pos c153]at hF
       by_cases c154:zv20_5 < x57
       ·rw[if_pos c154]at hF
        obtain⟨x155,gx155,hF⟩:=bS hF;have w156:ans A 383 [V.isl (a0.map enc),V.int .i64 a1,V.int .i64 zv20_5,V.int .i64 x57,vf4]=some (V.tup []):=hrec a0 a1 zv20_5 x57 f4 hf4 gx155;by_cases c157:x57 < x148
        ·rw[if_pos c157]at hF
         by_cases c158:x148 < a3
         ·rw[if_pos c158]at hF
          obtain⟨x159,gx159,hF⟩:=bS hF;have w160:ans A 383 [V.isl (a0.map enc),V.int .i64 x57,V.int .i64 x148,V.int .i64 a3,vf4]=some (V.tup []):=hrec a0 x57 x148 a3 f4 hf4 gx159;cases hF
          try simp only[simprocAttr,R0,h_134,eq_false c2,eq_false c30,eq_false c59,wx148,eq_true c149,eq_true c150,hf4.fz,hf4.rl,w152,eq_true c153,eq_true c154,hf4.fz,hf4.rl,w156,eq_true c157,eq_true c158,hf4.fz,hf4.rl,w160]
          exact qe (by simp only[simprocAttr,R0,qb,p383,Rs.ev,qa,h_134,eq_false c2,eq_false c30,eq_false c59,wx148,eq_true c149,eq_true c150,hf4.fz,hf4.rl,w152,eq_true c153,eq_true c154,hf4.fz,hf4.rl,w156,eq_true c157,eq_true c158,hf4.fz,hf4.rl,w160])
         ·rw[if_neg c158]at hF
          cases hF
          try simp only[simprocAttr,R0,h_134,eq_false c2,eq_false c30,eq_false c59,wx148,eq_true c149,eq_true c150,hf4.fz,hf4.rl,w152,eq_true c153,eq_true c154,hf4.fz,hf4.rl,w156,eq_true c157,eq_false c158]
          exact qe (by simp only[simprocAttr,R0,qb,p383,Rs.ev,qa,h_134,eq_false c2,eq_false c30,eq_false c59,wx148,eq_true c149,eq_true c150,hf4.fz,hf4.rl,w152,eq_true c153,eq_true c154,hf4.fz,hf4.rl,w156,eq_true c157,eq_false c158])
        ·rw[if_neg c157]at hF
         cases hF
         try simp only[simprocAttr,R0,h_134,eq_false c2,eq_false c30,eq_false c59,wx148,eq_true c149,eq_true c150,hf4.fz,hf4.rl,w152,eq_true c153,eq_true c154,hf4.fz,hf4.rl,w156,eq_false c157]
         exact qe (by simp only[simprocAttr,R0,qb,p383,Rs.ev,qa,h_134,eq_false c2,eq_false c30,eq_false c59,wx148,eq_true c149,eq_true c150,hf4.fz,hf4.rl,w152,eq_true c153,eq_true c154,hf4.fz,hf4.rl,w156,eq_false c157])
       ·rw[if_neg c154]at hF
        by_cases c161:x57 < x148
        ·rw[if_pos c161]at hF
         by_cases c162:x148 < a3
         ·rw[if_pos c162]at hF
          obtain⟨x163,gx163,hF⟩:=bS hF;have w164:ans A 383 [V.isl (a0.map enc),V.int .i64 x57,V.int .i64 x148,V.int .i64 a3,vf4]=some (V.tup []):=hrec a0 x57 x148 a3 f4 hf4 gx163;cases hF
          try simp only[simprocAttr,R0,h_134,eq_false c2,eq_false c30,eq_false c59,wx148,eq_true c149,eq_true c150,hf4.fz,hf4.rl,w152,eq_true c153,eq_false c154,eq_true c161,eq_true c162,hf4.fz,hf4.rl,w164]
          exact qe (by simp only[simprocAttr,R0,qb,p383,Rs.ev,qa,h_134,eq_false c2,eq_false c30,eq_false c59,wx148,eq_true c149,eq_true c150,hf4.fz,hf4.rl,w152,eq_true c153,eq_false c154,eq_true c161,eq_true c162,hf4.fz,hf4.rl,w164])
         ·rw[if_neg c162]at hF
          cases hF
          try simp only[simprocAttr,R0,h_134,eq_false c2,eq_false c30,eq_false c59,wx148,eq_true c149,eq_true c150,hf4.fz,hf4.rl,w152,eq_true c153,eq_false c154,eq_true c161,eq_false c162]
          exact qe (by simp only[simprocAttr,R0,qb,p383,Rs.ev,qa,h_134,eq_false c2,eq_false c30,eq_false c59,wx148,eq_true c149,eq_true c150,hf4.fz,hf4.rl,w152,eq_true c153,eq_false c154,eq_true c161,eq_false c162])
        ·rw[if_neg c161]at hF
         cases hF
         try simp only[simprocAttr,R0,h_134,eq_false c2,eq_false c30,eq_false c59,wx148,eq_true c149,eq_true c150,hf4.fz,hf4.rl,w152,eq_true c153,eq_false c154,eq_false c161]
         exact qe (by simp only[simprocAttr,R0,qb,p383,Rs.ev,qa,h_134,eq_false c2,eq_false c30,eq_false c59,wx148,eq_true c149,eq_true c150,hf4.fz,hf4.rl,w152,eq_true c153,eq_false c154,eq_false c161])
      ·rw[if_neg c153]at hF
       by_cases c165:x57 < x148
       ·rw[if_pos c165]at hF
        by_cases c166:x148 < a3
        ·rw[if_pos c166]at hF
         obtain⟨x167,gx167,hF⟩:=bS hF;have w168:ans A 383 [V.isl (a0.map enc),V.int .i64 x57,V.int .i64 x148,V.int .i64 a3,vf4]=some (V.tup []):=hrec a0 x57 x148 a3 f4 hf4 gx167;cases hF
         try simp only[simprocAttr,R0,h_134,eq_false c2,eq_false c30,eq_false c59,wx148,eq_true c149,eq_true c150,hf4.fz,hf4.rl,w152,eq_false c153,eq_true c165,eq_true c166,hf4.fz,hf4.rl,w168]
         exact qe (by simp only[simprocAttr,R0,qb,p383,Rs.ev,qa,h_134,eq_false c2,eq_false c30,eq_false c59,wx148,eq_true c149,eq_true c150,hf4.fz,hf4.rl,w152,eq_false c153,eq_true c165,eq_true c166,hf4.fz,hf4.rl,w168])
        ·rw[if_neg c166]at hF
         cases hF
         try simp only[simprocAttr,R0,h_134,eq_false c2,eq_false c30,eq_false c59,wx148,eq_true c149,eq_true c150,hf4.fz,hf4.rl,w152,eq_false c153,eq_true c165,eq_false c166]
         exact qe (by simp only[simprocAttr,R0,qb,p383,Rs.ev,qa,h_134,eq_false c2,eq_false c30,eq_false c59,wx148,eq_true c149,eq_true c150,hf4.fz,hf4.rl,w152,eq_false c153,eq_true c165,eq_false c166])
       ·rw[if_neg c165]at hF
        cases hF
        try simp only[simprocAttr,R0,h_134,eq_false c2,eq_false c30,eq_false c59,wx148,eq_true c149,eq_true c150,hf4.fz,hf4.rl,w152,eq_false c153,eq_false c165]
        exact qe (by simp only[simprocAttr,R0,qb,p383,Rs.ev,qa,h_134,eq_false c2,eq_false c30,eq_false c59,wx148,eq_true c149,eq_true c150,hf4.fz,hf4.rl,w152,eq_false c153,eq_false c165])
     ·rw[if_neg c150]at hF
      by_cases c169:a1 < zv20_5
      ·rw[if_pos c169]at hF
       by_cases c170:zv20_5 < x57
       ·rw[if_pos c170]at hF
        obtain⟨x171,gx171,hF⟩:=bS hF;have w172:ans A 383 [V.isl (a0.map enc),V.int .i64 a1,V.int .i64 zv20_5,V.int .i64 x57,vf4]=some (V.tup []):=hrec a0 a1 zv20_5 x57 f4 hf4 gx171;by_cases c173:x57 < x148
        ·rw[if_pos c173]at hF
         by_cases c174:x148 < a3
         ·rw[if_pos c174]at hF
          obtain⟨x175,gx175,hF⟩:=bS hF;have w176:ans A 383 [V.isl (a0.map enc),V.int .i64 x57,V.int .i64 x148,V.int .i64 a3,vf4]=some (V.tup []):=hrec a0 x57 x148 a3 f4 hf4 gx175;cases hF
          try simp only[simprocAttr,R0,h_134,eq_false c2,eq_false c30,eq_false c59,wx148,eq_true c149,eq_false c150,eq_true c169,eq_true c170,hf4.fz,hf4.rl,w172,eq_true c173,eq_true c174,hf4.fz,hf4.rl,w176]
          exact qe (by simp only[simprocAttr,R0,qb,p383,Rs.ev,qa,h_134,eq_false c2,eq_false c30,eq_false c59,wx148,eq_true c149,eq_false c150,eq_true c169,eq_true c170,hf4.fz,hf4.rl,w172,eq_true c173,eq_true c174,hf4.fz,hf4.rl,w176])
         ·rw[if_neg c174]at hF
          cases hF
          try simp only[simprocAttr,R0,h_134,eq_false c2,eq_false c30,eq_false c59,wx148,eq_true c149,eq_false c150,eq_true c169,eq_true c170,hf4.fz,hf4.rl,w172,eq_true c173,eq_false c174]
          exact qe (by simp only[simprocAttr,R0,qb,p383,Rs.ev,qa,h_134,eq_false c2,eq_false c30,eq_false c59,wx148,eq_true c149,eq_false c150,eq_true c169,eq_true c170,hf4.fz,hf4.rl,w172,eq_true c173,eq_false c174])
        ·rw[if_neg c173]at hF
         cases hF
         try simp only[simprocAttr,R0,h_134,eq_false c2,eq_false c30,eq_false c59,wx148,eq_true c149,eq_false c150,eq_true c169,eq_true c170,hf4.fz,hf4.rl,w172,eq_false c173]
         exact qe (by simp only[simprocAttr,R0,qb,p383,Rs.ev,qa,h_134,eq_false c2,eq_false c30,eq_false c59,wx148,eq_true c149,eq_false c150,eq_true c169,eq_true c170,hf4.fz,hf4.rl,w172,eq_false c173])
       ·rw[if_neg c170]at hF
        by_cases c177:x57 < x148
        ·rw[if_pos c177]at hF
         by_cases c178:x148 < a3
         ·rw[if_pos c178]at hF
          obtain⟨x179,gx179,hF⟩:=bS hF;have w180:ans A 383 [V.isl (a0.map enc),V.int .i64 x57,V.int .i64 x148,V.int .i64 a3,vf4]=some (V.tup []):=hrec a0 x57 x148 a3 f4 hf4 gx179;cases hF
          try simp only[simprocAttr,R0,h_134,eq_false c2,eq_false c30,eq_false c59,wx148,eq_true c149,eq_false c150,eq_true c169,eq_false c170,eq_true c177,eq_true c178,hf4.fz,hf4.rl,w180]
          exact qe (by simp only[simprocAttr,R0,qb,p383,Rs.ev,qa,h_134,eq_false c2,eq_false c30,eq_false c59,wx148,eq_true c149,eq_false c150,eq_true c169,eq_false c170,eq_true c177,eq_true c178,hf4.fz,hf4.rl,w180])
         ·rw[if_neg c178]at hF
          cases hF
          try simp only[simprocAttr,R0,h_134,eq_false c2,eq_false c30,eq_false c59,wx148,eq_true c149,eq_false c150,eq_true c169,eq_false c170,eq_true c177,eq_false c178]
          exact qe (by simp only[simprocAttr,R0,qb,p383,Rs.ev,qa,h_134,eq_false c2,eq_false c30,eq_false c59,wx148,eq_true c149,eq_false c150,eq_true c169,eq_false c170,eq_true c177,eq_false c178])
        ·rw[if_neg c177]at hF
         cases hF
         try simp only[simprocAttr,R0,h_134,eq_false c2,eq_false c30,eq_false c59,wx148,eq_true c149,eq_false c150,eq_true c169,eq_false c170,eq_false c177]
         exact qe (by simp only[simprocAttr,R0,qb,p383,Rs.ev,qa,h_134,eq_false c2,eq_false c30,eq_false c59,wx148,eq_true c149,eq_false c150,eq_true c169,eq_false c170,eq_false c177])
      ·rw[if_neg c169]at hF
       by_cases c181:x57 < x148
       ·rw[if_pos c181]at hF
        by_cases c182:x148 < a3
        ·rw[if_pos c182]at hF
         obtain⟨x183,gx183,hF⟩:=bS hF;have w184:ans A 383 [V.isl (a0.map enc),V.int .i64 x57,V.int .i64 x148,V.int .i64 a3,vf4]=some (V.tup []):=hrec a0 x57 x148 a3 f4 hf4 gx183;cases hF
         try simp only[simprocAttr,R0,h_134,eq_false c2,eq_false c30,eq_false c59,wx148,eq_true c149,eq_false c150,eq_false c169,eq_true c181,eq_true c182,hf4.fz,hf4.rl,w184]
         exact qe (by simp only[simprocAttr,R0,qb,p383,Rs.ev,qa,h_134,eq_false c2,eq_false c30,eq_false c59,wx148,eq_true c149,eq_false c150,eq_false c169,eq_true c181,eq_true c182,hf4.fz,hf4.rl,w184])
        ·rw[if_neg c182]at hF
         cases hF
         try simp only[simprocAttr,R0,h_134,eq_false c2,eq_false c30,eq_false c59,wx148,eq_true c149,eq_false c150,eq_false c169,eq_true c181,eq_false c182]
         exact qe (by simp only[simprocAttr,R0,qb,p383,Rs.ev,qa,h_134,eq_false c2,eq_false c30,eq_false c59,wx148,eq_true c149,eq_false c150,eq_false c169,eq_true c181,eq_false c182])
       ·rw[if_neg c181]at hF
        cases hF
        try simp only[simprocAttr,R0,h_134,eq_false c2,eq_false c30,eq_false c59,wx148,eq_true c149,eq_false c150,eq_false c169,eq_false c181]
        exact qe (by simp only[simprocAttr,R0,qb,p383,Rs.ev,qa,h_134,eq_false c2,eq_false c30,eq_false c59,wx148,eq_true c149,eq_false c150,eq_false c169,eq_false c181])
    ·rw[if_neg c149]at hF
     by_cases c185:a1 < zv20_5
     ·rw[if_pos c185]at hF
      by_cases c186:zv20_5 < x57
      ·rw[if_pos c186]at hF
       obtain⟨x187,gx187,hF⟩:=bS hF;have w188:ans A 383 [V.isl (a0.map enc),V.int .i64 a1,V.int .i64 zv20_5,V.int .i64 x57,vf4]=some (V.tup []):=hrec a0 a1 zv20_5 x57 f4 hf4 gx187;by_cases c189:x57 < x148
       ·rw[if_pos c189]at hF
        by_cases c190:x148 < a3
        ·rw[if_pos c190]at hF
         obtain⟨x191,gx191,hF⟩:=bS hF;have w192:ans A 383 [V.isl (a0.map enc),V.int .i64 x57,V.int .i64 x148,V.int .i64 a3,vf4]=some (V.tup []):=hrec a0 x57 x148 a3 f4 hf4 gx191;cases hF
         try simp only[simprocAttr,R0,h_134,eq_false c2,eq_false c30,eq_false c59,wx148,eq_false c149,eq_true c185,eq_true c186,hf4.fz,hf4.rl,w188,eq_true c189,eq_true c190,hf4.fz,hf4.rl,w192]
         exact qe (by simp only[simprocAttr,R0,qb,p383,Rs.ev,qa,h_134,eq_false c2,eq_false c30,eq_false c59,wx148,eq_false c149,eq_true c185,eq_true c186,hf4.fz,hf4.rl,w188,eq_true c189,eq_true c190,hf4.fz,hf4.rl,w192])
        ·rw[if_neg c190]at hF
         cases hF
         try simp only[simprocAttr,R0,h_134,eq_false c2,eq_false c30,eq_false c59,wx148,eq_false c149,eq_true c185,eq_true c186,hf4.fz,hf4.rl,w188,eq_true c189,eq_false c190]
         exact qe (by simp only[simprocAttr,R0,qb,p383,Rs.ev,qa,h_134,eq_false c2,eq_false c30,eq_false c59,wx148,eq_false c149,eq_true c185,eq_true c186,hf4.fz,hf4.rl,w188,eq_true c189,eq_false c190])
       ·rw[if_neg c189]at hF
        cases hF
        try simp only[simprocAttr,R0,h_134,eq_false c2,eq_false c30,eq_false c59,wx148,eq_false c149,eq_true c185,eq_true c186,hf4.fz,hf4.rl,w188,eq_false c189]
        exact qe (by simp only[simprocAttr,R0,qb,p383,Rs.ev,qa,h_134,eq_false c2,eq_false c30,eq_false c59,wx148,eq_false c149,eq_true c185,eq_true c186,hf4.fz,hf4.rl,w188,eq_false c189])
      ·rw[if_neg c186]at hF
       by_cases c193:x57 < x148
       ·rw[if_pos c193]at hF
        by_cases c194:x148 < a3
        ·rw[if_pos c194]at hF
         obtain⟨x195,gx195,hF⟩:=bS hF;have w196:ans A 383 [V.isl (a0.map enc),V.int .i64 x57,V.int .i64 x148,V.int .i64 a3,vf4]=some (V.tup []):=hrec a0 x57 x148 a3 f4 hf4 gx195;cases hF
         try simp only[simprocAttr,R0,h_134,eq_false c2,eq_false c30,eq_false c59,wx148,eq_false c149,eq_true c185,eq_false c186,eq_true c193,eq_true c194,hf4.fz,hf4.rl,w196]
         exact qe (by simp only[simprocAttr,R0,qb,p383,Rs.ev,qa,h_134,eq_false c2,eq_false c30,eq_false c59,wx148,eq_false c149,eq_true c185,eq_false c186,eq_true c193,eq_true c194,hf4.fz,hf4.rl,w196])
        ·rw[if_neg c194]at hF
         cases hF
         try simp only[simprocAttr,R0,h_134,eq_false c2,eq_false c30,eq_false c59,wx148,eq_false c149,eq_true c185,eq_false c186,eq_true c193,eq_false c194]
         exact qe (by simp only[simprocAttr,R0,qb,p383,Rs.ev,qa,h_134,eq_false c2,eq_false c30,eq_false c59,wx148,eq_false c149,eq_true c185,eq_false c186,eq_true c193,eq_false c194])
       ·rw[if_neg c193]at hF
        cases hF
        try simp only[simprocAttr,R0,h_134,eq_false c2,eq_false c30,eq_false c59,wx148,eq_false c149,eq_true c185,eq_false c186,eq_false c193]
        exact qe (by simp only[simprocAttr,R0,qb,p383,Rs.ev,qa,h_134,eq_false c2,eq_false c30,eq_false c59,wx148,eq_false c149,eq_true c185,eq_false c186,eq_false c193])
     ·rw[if_neg c185]at hF
      by_cases c197:x57 < x148
      ·rw[if_pos c197]at hF
       by_cases c198:x148 < a3
       ·rw[if_pos c198]at hF
        obtain⟨x199,gx199,hF⟩:=bS hF;have w200:ans A 383 [V.isl (a0.map enc),V.int .i64 x57,V.int .i64 x148,V.int .i64 a3,vf4]=some (V.tup []):=hrec a0 x57 x148 a3 f4 hf4 gx199;cases hF
        try simp only[simprocAttr,R0,h_134,eq_false c2,eq_false c30,eq_false c59,wx148,eq_false c149,eq_false c185,eq_true c197,eq_true c198,hf4.fz,hf4.rl,w200]
        exact qe (by simp only[simprocAttr,R0,qb,p383,Rs.ev,qa,h_134,eq_false c2,eq_false c30,eq_false c59,wx148,eq_false c149,eq_false c185,eq_true c197,eq_true c198,hf4.fz,hf4.rl,w200])
       ·rw[if_neg c198]at hF
        cases hF
        try simp only[simprocAttr,R0,h_134,eq_false c2,eq_false c30,eq_false c59,wx148,eq_false c149,eq_false c185,eq_true c197,eq_false c198]
        exact qe (by simp only[simprocAttr,R0,qb,p383,Rs.ev,qa,h_134,eq_false c2,eq_false c30,eq_false c59,wx148,eq_false c149,eq_false c185,eq_true c197,eq_false c198])
      ·rw[if_neg c197]at hF
       cases hF
       try simp only[simprocAttr,R0,h_134,eq_false c2,eq_false c30,eq_false c59,wx148,eq_false c149,eq_false c185,eq_false c197]
       exact qe (by simp only[simprocAttr,R0,qb,p383,Rs.ev,qa,h_134,eq_false c2,eq_false c30,eq_false c59,wx148,eq_false c149,eq_false c185,eq_false c197])
theorem s383R(n:Nat):∀ (a0:List GBar) (a1:Int) (a2:Int) (a3:Int) (f4:GBar→GBar→Option Int) {vf4:V} (hf4:Clo2 A vf4 f4) {r:Unit},F383R n a0 a1 a2 a3 f4=some r→ans A 383 [V.isl (a0.map enc),V.int .i64 a1,V.int .i64 a2,V.int .i64 a3,vf4]=some (EncR.enc r):=by
 induction n with
 |zero=> intros; rename_i q; have q2:(none:Option Unit)=some _:=q; cases q2
 |succ n ih=> exact s383S (F383R n) ih
theorem s383:∀ (a0:List GBar) (a1:Int) (a2:Int) (a3:Int) (f4:GBar→GBar→Option Int) {vf4:V} (hf4:Clo2 A vf4 f4) {r:Unit},F383 a0 a1 a2 a3 f4=some r→ans A 383 [V.isl (a0.map enc),V.int .i64 a1,V.int .i64 a2,V.int .i64 a3,vf4]=some (EncR.enc r):=s383R 6
def xA(a0:List GBar)(a1:Int)(f2:GBar→GBar→Option Int)(s:Int×Int):Option ((Int×Int)⊕(Int)):=
 match s with
 |(v7_1,v8_1)=>
  if v8_1≤a1 then
   (F382 a0 v7_1 v8_1 f2).bind fun x5=>
   (chk (v8_1+20)).bind fun x7=>
   some (.inl (v8_1,x7))
  else
   some (.inr v7_1)
def F378_3_S(a0:List GBar)(a1:Int)(v6_2:Int)(f2:GBar→GBar→Option Int)(s:Int×Int):Option ((Int×Int)⊕(Int)):=
 match s with
 |(v7_3,v8_3)=>
  if v8_3≤a1 then
   (chk (v7_3+v6_2)).bind fun x20=>
   (F383 a0 v7_3 x20 v8_3 f2).bind fun x21=>
   (chk (2*v6_2)).bind fun x23=>
   (chk (v8_3+x23)).bind fun x24=>
   some (.inl (v8_3,x24))
  else
   some (.inr v7_3)
def xz(a0:List GBar)(a1:Int)(f2:GBar→GBar→Option Int)(v6_2:Int):Option ((Int)⊕(Unit)):=
 if v6_2 < a1 then
 (chk (2*v6_2)).bind fun x15=>
 (qB (F378_3_S a0 a1 v6_2 f2) (0,x15)).bind fun zv7_3=>
 (chk (zv7_3+v6_2)).bind fun x26=>
 if x26 < a1 then
  (F383 a0 zv7_3 x26 a1 f2).bind fun x28=>
  (chk (v6_2*2)).bind fun x30=>
  some (.inl x30)
 else
  (chk (v6_2*2)).bind fun x31=>
  some (.inl x31)
else
 some (.inr ())
def F378(a0:List GBar)(a1:Int)(f2:GBar→GBar→Option Int):Option Unit:=
 (qB (xA a0 a1 f2) (0,20)).bind fun zv7_1=>
 (F382 a0 zv7_1 a1 f2).bind fun x9=>
 (qB (xz a0 a1 f2) 20).bind fun _=>
 some ()
def I378_1(a0:List GBar)(a1:Int)(f2:GBar→GBar→Option Int)(vf2:V)(s:Int×Int)(e:Env)(h:Heap):Prop:=
 match s with
 |(v7_1,v8_1)=>
  ∃k2:Nat,h=⟨[],k2⟩∧e.length=63∧e.at 0=V.isl (a0.map enc)∧e.at 1=V.int .i64 a1∧e.at 2=vf2∧e.at 6=V.int .i64 20∧e.at 7=V.int .i64 v7_1∧e.at 8=V.int .i64 v8_1
def P378_1(a0:List GBar)(a1:Int)(f2:GBar→GBar→Option Int)(vf2:V)(zv7_1:Int)(x:Ex)(e:Env)(h:Heap):Prop:=
 x= .normal∧∃k2:Nat,h=⟨[],k2⟩∧e.length=63∧e.at 0=V.isl (a0.map enc)∧e.at 1=V.int .i64 a1∧e.at 2=vf2∧e.at 6=V.int .i64 20∧e.at 7=V.int .i64 zv7_1
theorem l378_1(a0:List GBar)(a1:Int)(f2:GBar→GBar→Option Int)(vf2:V)(hf2:Clo2 A vf2 f2){s:Int×Int}{t:Int}(hF:qB (xA a0 a1 f2) s=some t){e:Env}{h:Heap}(hI:I378_1 a0 a1 f2 vf2 s e h):W A c378_1 e h (P378_1 a0 a1 f2 vf2 t):=by
 obtain⟨g_f2,fs_f2,cs_f2,hv_f2,hc_f2⟩:=id hf2;show W A (.block 0 (.loop false b378_1)) e h _;rw[qh];refine zy hF 0 (by rcases s with⟨_,_⟩; obtain⟨_,rfl,_⟩:=hI; rfl) (I378_1 a0 a1 f2 vf2) hI ?_
 ·rintro⟨v7_1,v8_1⟩ e h ⟨k2,rfl,h_1⟩ o ho
  unfold xA at ho;dsimp only at ho;by_cases c4:v8_1≤a1
  ·rw[if_pos c4]at ho
   obtain⟨x5,gx5,ho⟩:=bS ho;have w6:ans A 382 [V.isl (a0.map enc),V.int .i64 v7_1,V.int .i64 v8_1,vf2]=some (V.tup []):=s382 a0 v7_1 v8_1 f2 hf2 gx5;obtain⟨x7,gx7,ho⟩:=bS ho;have wx7:=qm gx7;cases ho;simp only[simprocAttr,R0,b378_1,h_1,eq_true c4,hf2.fz,hf2.rl,w6,wx7];refine ai rfl (ei _ (ai rfl ?_));simp only[simprocAttr,R0,h_1,eq_true c4,hf2.fz,hf2.rl,w6,wx7]
  ·rw[if_neg c4]at ho
   cases ho;simp only[simprocAttr,R0,b378_1,h_1,eq_false c4];intro ht;(first|subst ht|cases t);simp only[simprocAttr,RR,RB];refine ai rfl (ei _ (ai rfl ?_));simp only[simprocAttr,R0,h_1,eq_false c4]
def I378_3(a0:List GBar)(a1:Int)(v6_2:Int)(f2:GBar→GBar→Option Int)(vf2:V)(s:Int×Int)(e:Env)(h:Heap):Prop:=
 match s with
 |(v7_3,v8_3)=>
  ∃k17:Nat,h=⟨[],k17⟩∧e.length=63∧e.at 0=V.isl (a0.map enc)∧e.at 1=V.int .i64 a1∧e.at 2=vf2∧e.at 6=V.int .i64 v6_2∧e.at 7=V.int .i64 v7_3∧e.at 8=V.int .i64 v8_3
def P378_3(a0:List GBar)(a1:Int)(v6_2:Int)(f2:GBar→GBar→Option Int)(vf2:V)(zv7_3:Int)(x:Ex)(e:Env)(h:Heap):Prop:=
 x= .normal∧∃k17:Nat,h=⟨[],k17⟩∧e.length=63∧e.at 0=V.isl (a0.map enc)∧e.at 1=V.int .i64 a1∧e.at 2=vf2∧e.at 6=V.int .i64 v6_2∧e.at 7=V.int .i64 zv7_3
theorem l378_3(a0:List GBar)(a1:Int)(v6_2:Int)(f2:GBar→GBar→Option Int)(vf2:V)(hf2:Clo2 A vf2 f2){s:Int×Int}{t:Int}(hF:qB (F378_3_S a0 a1 v6_2 f2) s=some t){e:Env}{h:Heap}(hI:I378_3 a0 a1 v6_2 f2 vf2 s e h):W A c378_3 e h (P378_3 a0 a1 v6_2 f2 vf2 t):=by
 obtain⟨g_f2,fs_f2,cs_f2,hv_f2,hc_f2⟩:=id hf2;show W A (.block 4 (.loop false b378_3)) e h _;rw[qh];refine zy hF 0 (by rcases s with⟨_,_⟩; obtain⟨_,rfl,_⟩:=hI; rfl) (I378_3 a0 a1 v6_2 f2 vf2) hI ?_
 ·rintro⟨v7_3,v8_3⟩ e h ⟨k17,rfl,h_16⟩ o ho
  unfold F378_3_S at ho;dsimp only at ho;by_cases c19:v8_3≤a1
  ·rw[if_pos c19]at ho
   obtain⟨x20,gx20,ho⟩:=bS ho;have wx20:=qm gx20;obtain⟨x21,gx21,ho⟩:=bS ho;have w22:ans A 383 [V.isl (a0.map enc),V.int .i64 v7_3,V.int .i64 x20,V.int .i64 v8_3,vf2]=some (V.tup []):=s383 a0 v7_3 x20 v8_3 f2 hf2 gx21;obtain⟨x23,gx23,ho⟩:=bS ho;have wx23:=qm gx23;obtain⟨x24,gx24,ho⟩:=bS ho;have wx24:=qm gx24;cases ho;simp only[simprocAttr,R0,b378_3,h_16,eq_true c19,wx20,hf2.fz,hf2.rl,w22,wx23,wx24];refine ai rfl (ei _ (ai rfl ?_));simp only[simprocAttr,R0,h_16,eq_true c19,wx20,hf2.fz,hf2.rl,w22,wx23,wx24]
  ·rw[if_neg c19]at ho
   cases ho;simp only[simprocAttr,R0,b378_3,h_16,eq_false c19];intro ht;(first|subst ht|cases t);simp only[simprocAttr,RR,RB];refine ai rfl (ei _ (ai rfl ?_));simp only[simprocAttr,R0,h_16,eq_false c19]
def I378_2(a0:List GBar)(a1:Int)(f2:GBar→GBar→Option Int)(vf2:V)(v6_2:Int)(e:Env)(h:Heap):Prop:=
 ∃k12:Nat,h=⟨[],k12⟩∧e.length=63∧e.at 0=V.isl (a0.map enc)∧e.at 1=V.int .i64 a1∧e.at 2=vf2∧e.at 6=V.int .i64 v6_2
def P378_2(a0:List GBar)(a1:Int)(f2:GBar→GBar→Option Int)(vf2:V)(t:Unit)(x:Ex)(e:Env)(h:Heap):Prop:=
 x= .normal∧∃k12:Nat,h=⟨[],k12⟩∧e.length=63
theorem l378_2(a0:List GBar)(a1:Int)(f2:GBar→GBar→Option Int)(vf2:V)(hf2:Clo2 A vf2 f2){s:Int}{t:Unit}(hF:qB (xz a0 a1 f2) s=some t){e:Env}{h:Heap}(hI:I378_2 a0 a1 f2 vf2 s e h):W A c378_2 e h (P378_2 a0 a1 f2 vf2 t):=by
 obtain⟨g_f2,fs_f2,cs_f2,hv_f2,hc_f2⟩:=id hf2;show W A (.block 2 (.loop false b378_2)) e h _;rw[qh];refine zy hF 0 (by obtain⟨_,rfl,_⟩:=hI; rfl) (I378_2 a0 a1 f2 vf2) hI ?_
 ·rintro v6_2 e h ⟨k12,rfl,h_11⟩ o ho
  unfold xz at ho;by_cases c14:v6_2 < a1
  ·rw[if_pos c14]at ho
   obtain⟨x15,gx15,ho⟩:=bS ho;have wx15:=qm gx15;obtain⟨zv7_3,gt25,ho⟩:=bS ho;simp only[simprocAttr,R0,b378_2,h_11,eq_true c14,wx15];refine W.mono (l378_3 a0 a1 v6_2 f2 vf2 hf2 gt25 (ei _ (ai rfl ?_))) ?_
   ·simp only[simprocAttr,R0,h_11,eq_true c14,wx15]
   rintro _ e _ ⟨rfl,k17,rfl,h_18⟩;obtain⟨x26,gx26,ho⟩:=bS ho;have wx26:=qm gx26;by_cases c27:x26 < a1
   ·rw[if_pos c27]at ho
    obtain⟨x28,gx28,ho⟩:=bS ho;have w29:ans A 383 [V.isl (a0.map enc),V.int .i64 zv7_3,V.int .i64 x26,V.int .i64 a1,vf2]=some (V.tup []):=s383 a0 zv7_3 x26 a1 f2 hf2 gx28;obtain⟨x30,gx30,ho⟩:=bS ho;have wx30:=qm gx30;cases ho;simp only[simprocAttr,R0,h_18,eq_true c14,wx26,eq_true c27,hf2.fz,hf2.rl,w29,wx30];refine ai rfl (ei _ (ai rfl ?_));simp only[simprocAttr,R0,h_18,eq_true c14,wx26,eq_true c27,hf2.fz,hf2.rl,w29,wx30]
   ·rw[if_neg c27]at ho
    obtain⟨x31,gx31,ho⟩:=bS ho;have wx31:=qm gx31;cases ho;simp only[simprocAttr,R0,h_18,eq_true c14,wx26,eq_false c27,wx31];refine ai rfl (ei _ (ai rfl ?_));simp only[simprocAttr,R0,h_18,eq_true c14,wx26,eq_false c27,wx31]
  ·rw[if_neg c14]at ho
   cases ho;simp only[simprocAttr,R0,b378_2,h_11,eq_false c14];intro ht;(first|subst ht|cases t);simp only[simprocAttr,RR,RB];refine ai rfl (ei _ (ai rfl ?_));simp only[simprocAttr,R0,h_11,eq_false c14]
theorem s378(a0:List GBar)(a1:Int)(f2:GBar→GBar→Option Int){vf2:V}(hf2:Clo2 A vf2 f2){r:Unit}(hF:F378 a0 a1 f2=some r):ans A 378 [V.isl (a0.map enc),V.int .i64 a1,vf2]=some (EncR.enc r):=by
 refine qp (f:=p378) rfl rfl rfl fun e hl he=>?_;have h0_0:e.at 0=V.isl (a0.map enc):=he 0 _ rfl;have h1_0:e.at 1=V.int .i64 a1:=he 1 _ rfl;have h2_0:e.at 2=vf2:=he 2 _ rfl;obtain⟨g_f2,fs_f2,cs_f2,hv_f2,hc_f2⟩:=id hf2;have hl_0:e.length=63:=hl;clear he hl;show W A b378 e ⟨[],0⟩ _;unfold F378 at hF;obtain⟨zv7_1,gt8,hF⟩:=bS hF;simp only[simprocAttr,R0,b378,hl_0,h0_0,h1_0,h2_0];refine W.mono (l378_1 a0 a1 f2 vf2 hf2 gt8 (ei _ (ai rfl ?_))) ?_
 ·simp only[simprocAttr,R0,hl_0,h0_0,h1_0,h2_0]
 rintro _ e _ ⟨rfl,k2,rfl,h_3⟩;obtain⟨x9,gx9,hF⟩:=bS hF;have w10:ans A 382 [V.isl (a0.map enc),V.int .i64 zv7_1,V.int .i64 a1,vf2]=some (V.tup []):=s382 a0 zv7_1 a1 f2 hf2 gx9;obtain⟨_,gt32,hF⟩:=bS hF;simp only[simprocAttr,R0,h_3,hf2.fz,hf2.rl,w10];refine W.mono (l378_2 a0 a1 f2 vf2 hf2 gt32 (ei _ (ai rfl ?_))) ?_
 ·simp only[simprocAttr,R0,h_3,hf2.fz,hf2.rl,w10]
 rintro _ e _ ⟨rfl,k12,rfl,hl_13⟩;cases hF
 try simp only[simprocAttr,R0,hl_13]
 exact qe (by simp only[simprocAttr,R0,qb,p378,Rs.ev,qa,hl_13])
def F373(a0:List GBar)(f1:GBar→GBar→Option Int):Option Unit:=
 (F378 a0 (a0.length:Int) f1).bind fun x1=>
 some ()
theorem s373(a0:List GBar)(f1:GBar→GBar→Option Int){vf1:V}(hf1:Clo2 A vf1 f1){r:Unit}(hF:F373 a0 f1=some r):ans A 373 [V.isl (a0.map enc),vf1]=some (EncR.enc r):=by
 refine qp (f:=p373) rfl rfl rfl fun e hl he=>?_;have h0_0:e.at 0=V.isl (a0.map enc):=he 0 _ rfl;have h1_0:e.at 1=vf1:=he 1 _ rfl;obtain⟨g_f1,fs_f1,cs_f1,hv_f1,hc_f1⟩:=id hf1;have hl_0:e.length=9:=hl;clear he hl;show W A b373 e ⟨[],0⟩ _;unfold F373 at hF;obtain⟨x1,gx1,hF⟩:=bS hF;have w2:ans A 378 [V.isl (a0.map enc),V.int .i64 (a0.length:Int),vf1]=some (V.tup []):=s378 a0 (a0.length:Int) f1 hf1 gx1;cases hF
 try simp only[simprocAttr,R0,b373,hl_0,h0_0,h1_0,hf1.fz,hf1.rl,w2]
 exact qe (by simp only[simprocAttr,R0,qb,p373,Rs.ev,qa,hl_0,h0_0,h1_0,hf1.fz,hf1.rl,w2])
def F379(a0:Int):Option Int:=
 if a0 < 0 then
  some 6
 else
  some a0
theorem s379(a0:Int){r:Int}(hF:F379 a0=some r):ans A 379 [V.int .i64 a0]=some (enc r):=by
 refine qp (f:=p379) rfl rfl rfl fun e hl he=>?_;have h0_0:e.at 0=V.int .i64 a0:=he 0 _ rfl;have hl_0:e.length=6:=hl;clear he hl;have h_0:=ai hl_0 h0_0;show W A b379 e ⟨[],0⟩ _;unfold F379 at hF;by_cases c1:a0 < 0
 ·rw[if_pos c1]at hF
  cases hF;simp only[simprocAttr,R0,b379, *];exact qd (by simp only[simprocAttr,R0,qb,p379,Rs.ev,qa, *])
 ·rw[if_neg c1]at hF
  cases hF;simp only[simprocAttr,R0,b379, *];exact qd (by simp only[simprocAttr,R0,qb,p379,Rs.ev,qa, *])
def F384(a0:Int):Option Bool:=
 some (!(decide (a0=a0)))
theorem s384(a0:Int){r:Bool}(hF:F384 a0=some r):ans A 384 [V.int .i64 a0]=some (enc r):=by
 refine qp (f:=p384) rfl rfl rfl fun e hl he=>?_;have h0_0:e.at 0=V.int .i64 a0:=he 0 _ rfl;have hl_0:e.length=6:=hl;clear he hl;show W A b384 e ⟨[],0⟩ _;unfold F384 at hF;cases hF;simp only[simprocAttr,R0,b384, *];exact qd (by simp only[simprocAttr,R0,qb,p384,Rs.ev,qa, *])
def F380(a0:Int)(a1:Int):Option Int:=
 (F384 a0).bind fun x1=>
 (F384 a1).bind fun x3=>
 if x1=true then
  if x3=true then
   some 0
  else
   some (-1)
 else
  if x3=true then
   some 1
  else
   if a0 < a1 then
    some (-1)
   else
    if a1 < a0 then
     some 1
    else
     some 0
theorem s380(a0:Int)(a1:Int){r:Int}(hF:F380 a0 a1=some r):ans A 380 [V.int .i64 a0,V.int .i64 a1]=some (enc r):=by
 refine qp (f:=p380) rfl rfl rfl fun e hl he=>?_;have h0_0:e.at 0=V.int .i64 a0:=he 0 _ rfl;have h1_0:e.at 1=V.int .i64 a1:=he 1 _ rfl;have hl_0:e.length=20:=hl;clear he hl;have h_0:=ai hl_0 (ai h0_0 h1_0);show W A b380 e ⟨[],0⟩ _;unfold F380 at hF;obtain⟨x1,gx1,hF⟩:=bS hF;have w2:=s384 a0 gx1;obtain⟨x3,gx3,hF⟩:=bS hF;have w4:=s384 a1 gx3;cases x1 with
 |true=>
  rw[if_pos rfl]at hF;cases x3 with
  |true=>
   rw[if_pos rfl]at hF;cases hF;simp only[simprocAttr,R0,b380, *];exact qd (by simp only[simprocAttr,R0,qb,p380,Rs.ev,qa, *])
  |false=>
   rw[if_neg wE]at hF;cases hF;simp only[simprocAttr,R0,b380, *];exact qd (by simp only[simprocAttr,R0,qb,p380,Rs.ev,qa, *])
 |false=>
  rw[if_neg wE]at hF;cases x3 with
  |true=>
   rw[if_pos rfl]at hF;cases hF;simp only[simprocAttr,R0,b380, *];exact qd (by simp only[simprocAttr,R0,qb,p380,Rs.ev,qa, *])
  |false=>
   rw[if_neg wE]at hF;by_cases c5:a0 < a1
   ·rw[if_pos c5]at hF
    cases hF;simp only[simprocAttr,R0,b380, *];exact qd (by simp only[simprocAttr,R0,qb,p380,Rs.ev,qa, *])
   ·rw[if_neg c5]at hF
    by_cases c6:a1 < a0
    ·rw[if_pos c6]at hF
     cases hF;simp only[simprocAttr,R0,b380, *];exact qd (by simp only[simprocAttr,R0,qb,p380,Rs.ev,qa, *])
    ·rw[if_neg c6]at hF
     cases hF;simp only[simprocAttr,R0,b380, *];exact qd (by simp only[simprocAttr,R0,qb,p380,Rs.ev,qa, *])
def xy(a0:List Int)(v8_1:Int)(s:Unit):Option ((Unit)⊕((Unit)⊕Int)):=
 (getI a0 v8_1).bind fun x4=>
if x4=0 then
 some (.inl ())
else
 some (.inr (.inr x4))
def F381_1_D(a0:List Int)(v8_1:Int)(s:Unit):Option ((Unit)⊕Int):=
 some (.inl ())
def F381(a0:List Int):Option Int:=
 (forR 0 (a0.length:Int) (xy a0) (F381_1_D a0) ()).bind fun t7=> match t7 with
  | .inl _=>
   some 0
  | .inr r8=> some r8
def I381_1(a0:List Int)(v8_1:Int)(s:Unit)(e:Env)(h:Heap):Prop:=
 ∃k2:Nat,h=⟨[],k2⟩∧e.length=18∧e.at 3=V.int .i64 0∧e.at 6=V.isl (a0.map enc)∧e.at 7=V.int .i64 (a0.length:Int)∧e.at 8=V.int .i64 v8_1
def P381_1(a0:List Int)(t:(Unit)⊕Int)(x:Ex)(e:Env)(h:Heap):Prop:=
 match t with
 | .inl _=> x= .normal∧∃k2:Nat,h=⟨[],k2⟩∧e.length=18∧e.at 3=V.int .i64 0
 | .inr r=> x= .ret∧Fin p381 (enc r) .ret e h
theorem l381_1(a0:List Int){lo:Int}{s:Unit}{t:(Unit)⊕Int}(hF:forR lo (a0.length:Int) (xy a0) (F381_1_D a0) s=some t){e:Env}{h:Heap}(hI:I381_1 a0 lo s e h):W A c381_1 e h (P381_1 a0 t):=by
 show W A (.block 0 (.loop false b381_1)) e h _;rw[qh];refine qv hF 0 (by obtain⟨_,rfl,_⟩:=hI; rfl) (I381_1 a0) hI ?_ ?_
 ·rintro v8_1 _ e h ⟨k2,rfl,h_1⟩ hlt hw o ho
  unfold xy at ho;obtain⟨x4,gx4,ho⟩:=bS ho;obtain⟨w5a,w5b⟩:=qf gx4;by_cases c6:x4=0
  ·rw[if_pos c6]at ho
   cases ho;simp only[simprocAttr,R0,b381_1, *];refine ai rfl (ei _ (ai rfl ?_));simp only[simprocAttr,R0, *]
  ·rw[if_neg c6]at ho
   cases ho;simp only[simprocAttr,R0,b381_1, *];intro ht;(first|subst ht|cases t);simp only[simprocAttr,RR,RB];exact ai rfl (qd (by simp only[simprocAttr,R0,qb,p381,Rs.ev,qa, *]))
 ·rintro v8_1 _ e h ⟨k2,rfl,h_1⟩ hge t1 ho
  unfold F381_1_D at ho;cases ho;simp only[simprocAttr,R0,b381_1, *];intro ht;(first|subst ht|cases t);refine ai rfl (ei _ (ai rfl ?_));simp only[simprocAttr,R0, *]
theorem s381(a0:List Int){r:Int}(hF:F381 a0=some r):ans A 381 [V.isl (a0.map enc)]=some (enc r):=by
 refine qp (f:=p381) rfl rfl rfl fun e hl he=>?_;have h0_0:e.at 0=V.isl (a0.map enc):=he 0 _ rfl;have hl_0:e.length=18:=hl;clear he hl;have h_0:=ai hl_0 h0_0;show W A b381 e ⟨[],0⟩ _;unfold F381 at hF;obtain⟨t7,gt7,hF⟩:=bS hF;rcases t7 with _|r8
 ·dsimp only at hF
  simp only[simprocAttr,R0,b381, *];refine W.mono (l381_1 a0 gt7 (ei _ (ai rfl ?_))) ?_
  ·simp only[simprocAttr,R0, *]
  rintro _ e _ ⟨rfl,k2,rfl,h_3⟩;cases hF;simp only[simprocAttr,R0, *];exact qd (by simp only[simprocAttr,R0,qb,p381,Rs.ev,qa, *])
 ·dsimp only at hF
  cases hF;simp only[simprocAttr,R0,b381, *];refine W.mono (l381_1 a0 gt7 (ei _ (ai rfl ?_))) ?_
  ·simp only[simprocAttr,R0, *]
  rintro _ e h ⟨rfl,hq⟩;simp only[simprocAttr,RR,RB];exact hq
def F374(a0:GBar)(a1:GBar):Option Int:=
 (F380 a0.Degree a1.Degree).bind fun x1=>
 (F380 a0.Birth a1.Birth).bind fun x3=>
 (F379 a0.Death).bind fun x5=>
 (F379 a1.Death).bind fun x7=>
 (F380 x5 x7).bind fun x9=>
 (F381 [x1,x3,x9]).bind fun x11=>
 some x11
theorem s374(a0:GBar)(a1:GBar){r:Int}(hF:F374 a0 a1=some r):ans A 374 [V.agg [V.int .i64 a0.Degree,V.int .i64 a0.Birth,V.int .i64 a0.Death],V.agg [V.int .i64 a1.Degree,V.int .i64 a1.Birth,V.int .i64 a1.Death]]=some (enc r):=by
 refine qp (f:=p374) rfl rfl rfl fun e hl he=>?_;have h0_0:e.at 0=V.agg [V.int .i64 a0.Degree,V.int .i64 a0.Birth,V.int .i64 a0.Death]:=he 0 _ rfl;have h1_0:e.at 1=V.agg [V.int .i64 a1.Degree,V.int .i64 a1.Birth,V.int .i64 a1.Death]:=he 1 _ rfl;have hl_0:e.length=27:=hl;clear he hl;show W A b374 e ⟨[],0⟩ _;unfold F374 at hF;obtain⟨x1,gx1,hF⟩:=bS hF;have w2:ans A 380 [V.int .i64 a0.Degree,V.int .i64 a1.Degree]=some (V.int .i64 x1):=s380 a0.Degree a1.Degree gx1;obtain⟨x3,gx3,hF⟩:=bS hF;have w4:ans A 380 [V.int .i64 a0.Birth,V.int .i64 a1.Birth]=some (V.int .i64 x3):=s380 a0.Birth a1.Birth gx3;obtain⟨x5,gx5,hF⟩:=bS hF;have w6:ans A 379 [V.int .i64 a0.Death]=some (V.int .i64 x5):=s379 a0.Death gx5;obtain⟨x7,gx7,hF⟩:=bS hF;have w8:ans A 379 [V.int .i64 a1.Death]=some (V.int .i64 x7):=s379 a1.Death gx7;obtain⟨x9,gx9,hF⟩:=bS hF;have w10:ans A 380 [V.int .i64 x5,V.int .i64 x7]=some (V.int .i64 x9):=s380 x5 x7 gx9;obtain⟨x11,gx11,hF⟩:=bS hF;have w12:ans A 381 [V.isl [V.int .i64 x1,V.int .i64 x3,V.int .i64 x9]]=some (V.int .i64 x11):=s381 [x1,x3,x9] gx11;cases hF;simp only[simprocAttr,R0,b374, *];exact qd (by simp only[simprocAttr,R0,qb,p374,Rs.ev,qa, *])
def F367_3_S(a0:GFiltered)(n b b1:Int)(s:(List GBar×List Int)×Int):Option (((List GBar×List Int)×Int)⊕(List GBar×List Int)):=
 if s.2≤5 then(chk (s.2 - 1)).bind fun d1=>(F259 a0 n b d1).bind fun r1=>(F259 a0 n b s.2).bind fun r2=>(chk (r1 - r2)).bind fun m1=>
  (F259 a0 n b1 d1).bind fun r3=>(chk (m1 - r3)).bind fun m2=>(F259 a0 n b1 s.2).bind fun r4=>(chk (m2+r4)).bind fun many=>
  (F372 n b s.2 many s.1.1).bind fun l=>(getI s.1.2 s.2).bind fun x=>(chk (x+many)).bind fun y=>(setI s.1.2 s.2 y).bind fun z=>(chk (s.2+1)).bind fun d=> some (.inl ((l,z),d))else some (.inr s.1)
def F367_2_B(a0:GFiltered)(n:Int)(b:Int)(s:List GBar×List Int):Option ((List GBar×List Int)⊕(List GBar×List Int)):=
 (F296 a0 n b).bind fun x1=>(chk (b - 1)).bind fun b1=>(F296 a0 n b1).bind fun x2=>(chk ((x1.length:Int) - (x2.length:Int))).bind fun m=>
 (getI s.2 b).bind fun x=>(chk (m - x)).bind fun m'=>(F372 n b b m' s.1).bind fun l1=>(chk (b+1)).bind fun d0=>(qB (F367_3_S a0 n b b1) ((l1,s.2),d0)).bind fun s2=>
 (F259 a0 n b 5).bind fun y1=>(F259 a0 n b1 5).bind fun y2=>(chk (y1 - y2)).bind fun last=>(F372 n b (-1) last s2.1).bind fun l3=> some (.inl (l3,s2.2))
def F367_2_D(b:Int)(s:List GBar×List Int):Option (List GBar×List Int):=some s
def F367_1_B(a0:GFiltered)(n:Int)(o:List GBar):Option (List GBar⊕List GBar):=(mkL 8 6 (0:Int)).bind fun dead=>(forR 0 6 (F367_2_B a0 n) F367_2_D (o,dead)).bind fun s=> some (.inl s.1)
def F367_1_D(n:Int)(o:List GBar):Option (List GBar):=some o
def F367(a0:GFiltered):Option (T2 (List GBar) Int):=(F41 a0).bind fun t=> if t=true then(forR 0 (a0.Levels.length:Int) (F367_1_B a0) F367_1_D []).bind fun out=> if 24 < (out.length:Int)then some ⟨[],3⟩else(F373 out (fun x y=> F374 x y)).bind fun u=> some ⟨out,0⟩else some ⟨[],1⟩
theorem d367(a0:GFiltered){r:T2 (List GBar) Int}(hF:F367 a0=some r):∃v h',res A 367 [(eF a0)] Heap.empty=some (v,h')∧∃vs K,v=V.tup vs∧repF h' vs [⟨r.a⟩,⟨r.b⟩] K:=by
 refine res_dp (f:=p367) rfl rfl rfl fun e hl he=>?_;have h0_0:e.at 0=(eF a0):=he 0 _ rfl;have hl_0:e.length=116:=hl;clear he hl;show W A b367 e ⟨[],0⟩ _;unfold F367 at hF;obtain⟨t,gt0,hF⟩:=bS hF;have wt:ans A 41 [(eF a0)]=some (V.bool t):=s41 a0 gt0;have wz:ans A 89 [V.isl (a0.Levels.map enc)]=some (V.int .i64 (a0.Levels.length:Int)):=s89 a0.Levels rfl;cases t with
 |false=>
  rw[if_neg wE]at hF;have hE:=wA hF; subst hE;simp only[↓reduceIte,Nat.reduceAdd,Nat.reduceMul,Nat.reduceSub,Nat.reduceLT,Nat.reduceLeDiff,Nat.reduceEqDiff,Nat.reducePow,Int.reducePow,Int.reduceLE,Int.reduceLT,Int.reduceEq,Int.reduceToNat,reduceCtorEq,R0,b367,hl_0,h0_0,wt];refine ai (fun _=> trivial) ⟨V.tup [V.nils,V.int .i64 1],?_,_,_,rfl,pair_rep (α:=List GBar) (tri_nils _) _⟩;simp only[↓reduceIte,Nat.reduceAdd,Nat.reduceMul,Nat.reduceSub,Nat.reduceLT,Nat.reduceLeDiff,Nat.reduceEqDiff,Nat.reducePow,Int.reducePow,Int.reduceLE,Int.reduceLT,Int.reduceEq,Int.reduceToNat,reduceCtorEq,R0,qb,p367,Rs.ev,hl_0]
 |true=>
  rw[if_pos rfl]at hF;obtain⟨out,gt,hF⟩:=bS hF;simp only[↓reduceIte,Nat.reduceAdd,Nat.reduceMul,Nat.reduceSub,Nat.reduceLT,Nat.reduceLeDiff,Nat.reduceEqDiff,Nat.reducePow,Int.reducePow,Int.reduceLE,Int.reduceLT,Int.reduceEq,Int.reduceToNat,reduceCtorEq,R0,b367,hl_0,h0_0,wt,wz];refine W.mono (Q:=fun x' e h=> x'= .normal∧∃qu,h.ents[1]? =some (qu,some (fl out))∧h.ents[2]? =some (2,some [V.sl 1 qu 0 out.length 3])∧e.length=116∧e.at 4=V.ptr 2 2 0) ?_ ?_
  rotate_left
  ·rintro _ e ⟨E,c⟩ ⟨rfl,qu,g1,g2,hl_1,h4_1⟩
   simp only at g1 g2;by_cases c1:24 < (out.length:Int)
   ·rw[if_pos c1]at hF
    have hE:=wA hF; subst hE;simp only[↓reduceIte,Nat.reduceAdd,Nat.reduceMul,Nat.reduceSub,Nat.reduceLT,Nat.reduceLeDiff,Nat.reduceEqDiff,Nat.reducePow,Int.reducePow,Int.reduceLE,Int.reduceLT,Int.reduceEq,Int.reduceToNat,reduceCtorEq,R0,hl_1,h4_1,g2,eq_true c1];refine ai (fun _=> trivial) ⟨V.tup [V.nils,V.int .i64 3],?_,_,_,rfl,pair_rep (α:=List GBar) (tri_nils _) _⟩;simp only[↓reduceIte,Nat.reduceAdd,Nat.reduceMul,Nat.reduceSub,Nat.reduceLT,Nat.reduceLeDiff,Nat.reduceEqDiff,Nat.reducePow,Int.reducePow,Int.reduceLE,Int.reduceLT,Int.reduceEq,Int.reduceToNat,reduceCtorEq,R0,qb,p367,Rs.ev,hl_1]
   ·rw[if_neg c1]at hF
    obtain⟨u,gu,hF⟩:=bS hF;have hE:=wA hF; subst hE;have wu:ans A 373 [V.isl (out.map enc),V.fn 374 [] []]=some (V.tup []):=s373 out (fun x y=> F374 x y) (Clo2.of (by intro h f; simp only[RZ,mapO]) (by intro h f; simp only[RZ,mapO]) (by intro f; simp only[RZ,RB]) (by intro f; simp only[RZ,RB]) (fun x y _ hr=> s374 x y hr)) gu;have wbb:bare 16 [] (V.tup [])=true:=rfl;have wf:frz ⟨E,c⟩ 16 (V.sl 1 qu 0 out.length 3)=some (V.isl (out.map enc)):=fl_frz g1 14;simp only[↓reduceIte,Nat.reduceAdd,Nat.reduceMul,Nat.reduceSub,Nat.reduceLT,Nat.reduceLeDiff,Nat.reduceEqDiff,Nat.reducePow,Int.reducePow,Int.reduceLE,Int.reduceLT,Int.reduceEq,Int.reduceToNat,reduceCtorEq,R0,hl_1,h4_1,g2,eq_false c1,wf,wu,wbb,Bool.or_true];refine ai (fun _=> trivial) ⟨V.tup [V.sl 1 qu 0 out.length 3,V.int .i64 0],?_,_,_,rfl,pair_rep (tri_row g1 fun k=> yH) _⟩;simp only[↓reduceIte,Nat.reduceAdd,Nat.reduceMul,Nat.reduceSub,Nat.reduceLT,Nat.reduceLeDiff,Nat.reduceEqDiff,Nat.reducePow,Int.reducePow,Int.reduceLE,Int.reduceLT,Int.reduceEq,Int.reduceToNat,reduceCtorEq,R0,qb,p367,Rs.ev,hl_1]
  show W A (.block 0 (.loop true b367_1)) _ _ _;rw[qh];refine qv gt _ rfl (fun n s e h=>∃qu,h.ents[1]? =some (qu,some (fl s))∧h.ents[2]? =some (2,some [V.sl 1 qu 0 s.length 3])∧e.length=116∧e.at 1=V.iptr [V.int .i64 a0.Complex.Prime,V.isl (a0.Complex.Dims.map enc),V.isl (a0.Complex.Maps.map enc),V.isl (a0.Levels.map enc)]∧e.at 4=V.ptr 2 2 0∧e.at 5=V.fn 372 [] [V.ptr 2 2 0]∧e.at 18=V.int .i64 (a0.Levels.length:Int)∧e.at 19=V.int .i64 n) ?_ ?_ ?_
  ·refine⟨1,rfl,rfl,?_⟩
   simp only[↓reduceIte,Nat.reduceAdd,Nat.reduceMul,Nat.reduceSub,Nat.reduceLT,Nat.reduceLeDiff,Nat.reduceEqDiff,Nat.reducePow,Int.reducePow,Int.reduceLE,Int.reduceLT,Int.reduceEq,Int.reduceToNat,reduceCtorEq,R0,hl_0,h0_0]
  ·clear hl_0 h0_0 wt wz gt hF
   rintro n s e ⟨E,c⟩ ⟨qu,g1,g2,hl_1,h1_1,h4_1,h5_1,h18_1,h19_1⟩ hlt hw oo ho;simp only at g1 g2;unfold F367_1_B at ho;obtain⟨dead,gd,ho⟩:=bS ho;obtain⟨wda,wdb,wdc,wdd,wde⟩:=mkL_w gd;replace wde:(List.replicate 6 [V.int .i64 0]).flatten=List.map enc dead:=wde;obtain⟨⟨l,z⟩,gl,ho⟩:=bS ho;have hE:=wA ho; subst hE;have hE2:2 < E.length:=(List.getElem?_eq_some_iff.1 g2).1;have hdl:dead.length=6:=wdd;simp only[↓reduceIte,Nat.reduceAdd,Nat.reduceMul,Nat.reduceSub,Nat.reduceLT,Nat.reduceLeDiff,Nat.reduceEqDiff,Nat.reducePow,Int.reducePow,Int.reduceLE,Int.reduceLT,Int.reduceEq,Int.reduceToNat,reduceCtorEq,R0,b367_1,hl_1,h1_1,h4_1,h5_1,h18_1,h19_1,eq_true hlt,hw,wda,wdb,wdc,wde];refine W.mono (Q:=fun x' e h=> x'= .normal∧∃qu,h.ents[1]? =some (qu,some (fl l))∧h.ents[2]? =some (2,some [V.sl 1 qu 0 l.length 3])∧e.length=116∧e.at 1=V.iptr [V.int .i64 a0.Complex.Prime,V.isl (a0.Complex.Dims.map enc),V.isl (a0.Complex.Maps.map enc),V.isl (a0.Levels.map enc)]∧e.at 4=V.ptr 2 2 0∧e.at 5=V.fn 372 [] [V.ptr 2 2 0]∧e.at 18=V.int .i64 (a0.Levels.length:Int)∧e.at 19=V.int .i64 n) ?_ ?_
   rotate_left
   ·rintro _ e ⟨E2,c2⟩ ⟨rfl,qu2,q1,q2,hl_2,h1_2,h4_2,h5_2,h18_2,h19_2⟩
    simp only[↓reduceIte,Nat.reduceAdd,Nat.reduceMul,Nat.reduceSub,Nat.reduceLT,Nat.reduceLeDiff,Nat.reduceEqDiff,Nat.reducePow,Int.reducePow,Int.reduceLE,Int.reduceLT,Int.reduceEq,Int.reduceToNat,reduceCtorEq,R0,hl_2,h1_2,h4_2,h5_2,h18_2,h19_2,hw];refine ai rfl ⟨qu2,q1,q2,?_⟩;simp only[↓reduceIte,Nat.reduceAdd,Nat.reduceMul,Nat.reduceSub,Nat.reduceLT,Nat.reduceLeDiff,Nat.reduceEqDiff,Nat.reducePow,Int.reducePow,Int.reduceLE,Int.reduceLT,Int.reduceEq,Int.reduceToNat,reduceCtorEq,R0,hl_2,h1_2,h4_2,h5_2,h18_2,h19_2,hw]
   show W A (.block 2 (.loop true b367_2)) _ _ _;rw[qh];refine qv gl _ rfl (fun b s e h=>∃qu,h.ents[1]? =some (qu,some (fl s.1))∧h.ents[2]? =some (2,some [V.sl 1 qu 0 s.1.length 3])∧h.ents[E.length]? =some (c,some (List.map enc s.2))∧s.2.length=6∧e.length=116∧e.at 1=V.iptr [V.int .i64 a0.Complex.Prime,V.isl (a0.Complex.Dims.map enc),V.isl (a0.Complex.Maps.map enc),V.isl (a0.Levels.map enc)]∧e.at 4=V.ptr 2 2 0∧e.at 5=V.fn 372 [] [V.ptr 2 2 0]∧e.at 6=V.int .i64 n∧e.at 7=V.sl E.length c 0 6 1∧e.at 18=V.int .i64 (a0.Levels.length:Int)∧e.at 19=V.int .i64 n∧e.at 23=V.int .i64 b) ?_ ?_ ?_
   ·refine⟨qu,(List.getElem?_append_left (by omega)).trans g1,(List.getElem?_append_left hE2).trans g2,qH _ _,hdl,?_⟩
    simp only[↓reduceIte,Nat.reduceAdd,Nat.reduceMul,Nat.reduceSub,Nat.reduceLT,Nat.reduceLeDiff,Nat.reduceEqDiff,Nat.reducePow,Int.reducePow,Int.reduceLE,Int.reduceLT,Int.reduceEq,Int.reduceToNat,reduceCtorEq,R0,hl_1,h1_1,h4_1,h5_1,h18_1,h19_1]
   ·clear g1 g2 hl_1 h1_1 h4_1 h5_1 h18_1 h19_1 wda wdb wdc wdd wde gd hdl gl
    rintro b ⟨s,z⟩ e ⟨E1,c1⟩ ⟨qu,g1,g2,g3,hz,hl_1,h1_1,h4_1,h5_1,h6_1,h7_1,h18_1,h19_1,h23_1⟩ hlt2 hw2 oo ho;simp only at g1 g2 g3 hz;unfold F367_2_B at ho;simp only at ho;obtain⟨x1,gx1,ho⟩:=bS ho;have w1:ans A 296 [(eF a0),V.int .i64 n,V.int .i64 b]=some (V.isl (x1.map enc)):=s296 a0 n b gx1;have w1z:ans A 89 [V.isl (x1.map enc)]=some (V.int .i64 (x1.length:Int)):=s89 x1 rfl;obtain⟨b1,gb1,ho⟩:=bS ho;have wb1:=qm gb1;obtain⟨x2,gx2,ho⟩:=bS ho;have w2:ans A 296 [(eF a0),V.int .i64 n,V.int .i64 b1]=some (V.isl (x2.map enc)):=s296 a0 n b1 gx2;have w2z:ans A 89 [V.isl (x2.map enc)]=some (V.int .i64 (x2.length:Int)):=s89 x2 rfl;obtain⟨m,gm,ho⟩:=bS ho;have wm:=qm gm;obtain⟨x,gx,ho⟩:=bS ho;obtain⟨va,vb⟩:=qf gx;have vc:=za gx;rw[hz]at vc;have vd:qR none (List.drop b.toNat (z.map enc))=some (V.int .i64 x):=qw (by rw[List.getElem?_map,vb]; rfl);obtain⟨m',gm',ho⟩:=bS ho;have wm':=qm gm';obtain⟨l1,gl1,ho⟩:=bS ho;obtain⟨d0,gd0,ho⟩:=bS ho;obtain rfl:d0=b+1:=by rw[←qm gd0]; exact hw2
    obtain⟨⟨l2,z2⟩,gl4,ho⟩:=bS ho;obtain⟨y1,gy1,ho⟩:=bS ho;have w5:ans A 259 [(eF a0),V.int .i64 n,V.int .i64 b,V.int .i64 5]=some (V.int .i64 y1):=s259 a0 n b 5 gy1;obtain⟨y2,gy2,ho⟩:=bS ho;have w6:ans A 259 [(eF a0),V.int .i64 n,V.int .i64 b1,V.int .i64 5]=some (V.int .i64 y2):=s259 a0 n b1 5 gy2;obtain⟨last,gla,ho⟩:=bS ho;have wla:=qm gla;obtain⟨l3,gl5,ho⟩:=bS ho;have hE:=wA ho; subst hE;have hE3:E.length < E1.length:=(List.getElem?_eq_some_iff.1 g3).1;obtain⟨⟨E3,c3⟩,r1,qu3,k1,k2,k3,k4⟩:=d372 n b b m' s gl1 E1 c1 g2 g1 (by decide);simp only at k1 k2 k3 k4;simp only[↓reduceIte,Nat.reduceAdd,Nat.reduceMul,Nat.reduceSub,Nat.reduceLT,Nat.reduceLeDiff,Nat.reduceEqDiff,Nat.reducePow,Int.reducePow,Int.reduceLE,Int.reduceLT,Int.reduceEq,Int.reduceToNat,reduceCtorEq,R0,b367_2,hl_1,h1_1,h4_1,h5_1,h6_1,h7_1,h18_1,h19_1,h23_1,eq_true hlt2,hw2,w1,w1z,wb1,w2,w2z,wm,g3,va,vb,eq_true vc,vd,wm',qx,r1];refine W.mono (Q:=fun x' e h=> x'= .normal∧∃qu,h.ents[1]? =some (qu,some (fl l2))∧h.ents[2]? =some (2,some [V.sl 1 qu 0 l2.length 3])∧h.ents[E.length]? =some (c,some (z2.map enc))∧z2.length=6∧e.length=116∧e.at 1=V.iptr [V.int .i64 a0.Complex.Prime,V.isl (a0.Complex.Dims.map enc),V.isl (a0.Complex.Maps.map enc),V.isl (a0.Levels.map enc)]∧e.at 4=V.ptr 2 2 0∧e.at 5=V.fn 372 [] [V.ptr 2 2 0]∧e.at 6=V.int .i64 n∧e.at 7=V.sl E.length c 0 6 1∧e.at 18=V.int .i64 (a0.Levels.length:Int)∧e.at 19=V.int .i64 n∧e.at 23=V.int .i64 b∧e.at 8=V.int .i64 b) ?_ ?_
    rotate_left
    ·rintro _ e ⟨E4,c4⟩ ⟨rfl,qu4,q1,q2,q3,q4,hl_2,h1_2,h4_2,h5_2,h6_2,h7_2,h18_2,h19_2,h23_2,h8_2⟩
     simp only at q1 q2 q3;obtain⟨⟨E5,c5⟩,r2,qu5,p1,p2,p3,p4⟩:=d372 n b (-1) last l2 gl5 E4 c4 q2 q1 (by decide);simp only at p1 p2 p3 p4;have hE4:E.length < E4.length:=(List.getElem?_eq_some_iff.1 q3).1;simp only[↓reduceIte,Nat.reduceAdd,Nat.reduceMul,Nat.reduceSub,Nat.reduceLT,Nat.reduceLeDiff,Nat.reduceEqDiff,Nat.reducePow,Int.reducePow,Int.reduceLE,Int.reduceLT,Int.reduceEq,Int.reduceToNat,reduceCtorEq,R0,hl_2,h1_2,h4_2,h5_2,h6_2,h7_2,h18_2,h19_2,h23_2,h8_2,w5,wb1,w6,wla,qx,r2,hw2];refine ai rfl ⟨qu5,p2,p1,(p4 _ hE4 (by omega) (by omega)).trans q3,q4,?_⟩;simp only[↓reduceIte,Nat.reduceAdd,Nat.reduceMul,Nat.reduceSub,Nat.reduceLT,Nat.reduceLeDiff,Nat.reduceEqDiff,Nat.reducePow,Int.reducePow,Int.reduceLE,Int.reduceLT,Int.reduceEq,Int.reduceToNat,reduceCtorEq,R0,hl_2,h1_2,h4_2,h5_2,h6_2,h7_2,h18_2,h19_2,h23_2,h8_2,hw2]
    show W A (.block 4 (.loop true b367_3)) _ _ _;rw[qh];refine zy gl4 _ rfl (fun s e h=>∃qu,h.ents[1]? =some (qu,some (fl s.1.1))∧h.ents[2]? =some (2,some [V.sl 1 qu 0 s.1.1.length 3])∧h.ents[E.length]? =some (c,some (List.map enc s.1.2))∧s.1.2.length=6∧e.length=116∧e.at 1=V.iptr [V.int .i64 a0.Complex.Prime,V.isl (a0.Complex.Dims.map enc),V.isl (a0.Complex.Maps.map enc),V.isl (a0.Levels.map enc)]∧e.at 4=V.ptr 2 2 0∧e.at 5=V.fn 372 [] [V.ptr 2 2 0]∧e.at 6=V.int .i64 n∧e.at 7=V.sl E.length c 0 6 1∧e.at 18=V.int .i64 (a0.Levels.length:Int)∧e.at 19=V.int .i64 n∧e.at 23=V.int .i64 b∧e.at 8=V.int .i64 b∧e.at 9=V.int .i64 s.2) ?_ ?_
    ·refine⟨qu3,k2,k1,(k4 _ hE3 (by omega) (by omega)).trans g3,hz,?_⟩
     simp only[↓reduceIte,Nat.reduceAdd,Nat.reduceMul,Nat.reduceSub,Nat.reduceLT,Nat.reduceLeDiff,Nat.reduceEqDiff,Nat.reducePow,Int.reducePow,Int.reduceLE,Int.reduceLT,Int.reduceEq,Int.reduceToNat,reduceCtorEq,R0,hl_1,h1_1,h4_1,h5_1,h6_1,h7_1,h18_1,h19_1,h23_1]
    ·clear r1 k1 k2 k3 k4 g1 g2 g3 hz hl_1 h1_1 h4_1 h5_1 h6_1 h7_1 h18_1 h19_1 h23_1 w1 w1z w2 w2z wm vb va vd w5 w6 wla gl4
     rintro⟨⟨s,z⟩,d⟩ e ⟨E1,c1⟩ ⟨qu,g1,g2,g3,hz,hl_1,h1_1,h4_1,h5_1,h6_1,h7_1,h18_1,h19_1,h23_1,h8_1,h9_1⟩ oo ho;simp only at g1 g2 g3 hz h9_1;unfold F367_3_S at ho;simp only at ho;by_cases c2:d≤5
     ·rw[if_pos c2]at ho
      obtain⟨d1,gd1,ho⟩:=bS ho;have wd1:=qm gd1;obtain⟨t1,gt1,ho⟩:=bS ho;have u1:ans A 259 [(eF a0),V.int .i64 n,V.int .i64 b,V.int .i64 d1]=some (V.int .i64 t1):=s259 a0 n b d1 gt1;obtain⟨t2,gt2,ho⟩:=bS ho;have u2:ans A 259 [(eF a0),V.int .i64 n,V.int .i64 b,V.int .i64 d]=some (V.int .i64 t2):=s259 a0 n b d gt2;obtain⟨m1,gm1,ho⟩:=bS ho;have um1:=qm gm1;obtain⟨t3,gt3,ho⟩:=bS ho;have u3:ans A 259 [(eF a0),V.int .i64 n,V.int .i64 b1,V.int .i64 d1]=some (V.int .i64 t3):=s259 a0 n b1 d1 gt3;obtain⟨m2,gm2,ho⟩:=bS ho;have um2:=qm gm2;obtain⟨t4,gt4,ho⟩:=bS ho;have u4:ans A 259 [(eF a0),V.int .i64 n,V.int .i64 b1,V.int .i64 d]=some (V.int .i64 t4):=s259 a0 n b1 d gt4;obtain⟨many,gma,ho⟩:=bS ho;have uma:=qm gma;obtain⟨l,gl,ho⟩:=bS ho;obtain⟨x,gx,ho⟩:=bS ho;obtain⟨va,vb⟩:=qf gx;have vc:=za gx;rw[hz]at vc;have vd:qR none (List.drop d.toNat (z.map enc))=some (V.int .i64 x):=qw (by rw[List.getElem?_map,vb]; rfl);obtain⟨y,gy,ho⟩:=bS ho;have wy:=qm gy;obtain⟨z',gz,ho⟩:=bS ho;obtain⟨s1,s2,s3,s4,s5⟩:=setI_w gz;have s5':List.take d.toNat (z.map enc)++[V.int .i64 y]++List.drop (d.toNat+1) (z.map enc)=List.map enc z':=s5;obtain⟨d',gd,ho⟩:=bS ho;have wd:=qm gd;have hE:=wA ho; subst hE;have hE3:E.length < E1.length:=(List.getElem?_eq_some_iff.1 g3).1;obtain⟨⟨E3,c3⟩,r1,qu3,k1,k2,k3,k4⟩:=d372 n b d many s gl E1 c1 g2 g1 (by decide);simp only at k1 k2 k3 k4;have n3:E3[E.length]? =some (c,some (z.map enc)):=(k4 _ hE3 (by omega) (by omega)).trans g3;have hE5:E.length < E3.length:=(List.getElem?_eq_some_iff.1 n3).1;simp only[↓reduceIte,Nat.reduceAdd,Nat.reduceMul,Nat.reduceSub,Nat.reduceLT,Nat.reduceLeDiff,Nat.reduceEqDiff,Nat.reducePow,Int.reducePow,Int.reduceLE,Int.reduceLT,Int.reduceEq,Int.reduceToNat,reduceCtorEq,R0,b367_3,hl_1,h1_1,h4_1,h5_1,h6_1,h7_1,h18_1,h19_1,h23_1,h8_1,h9_1,eq_true c2,u1,u2,u3,u4,um1,um2,uma,wd1,wb1,qx,r1,n3,va,vb,eq_true vc,vd,wy,s1,s2,s3,s5',wd];refine ai rfl ⟨qu3,(qI (by omega)).trans k2,(qI (by omega)).trans k1,qy hE5,by rw[s4]; exact hz,?_⟩;simp only[↓reduceIte,Nat.reduceAdd,Nat.reduceMul,Nat.reduceSub,Nat.reduceLT,Nat.reduceLeDiff,Nat.reduceEqDiff,Nat.reducePow,Int.reducePow,Int.reduceLE,Int.reduceLT,Int.reduceEq,Int.reduceToNat,reduceCtorEq,R0,hl_1,h1_1,h4_1,h5_1,h6_1,h7_1,h18_1,h19_1,h23_1,h8_1,h9_1,wd]
     ·rw[if_neg c2]at ho
      have hE:=wA ho; subst hE;simp only[↓reduceIte,Nat.reduceAdd,Nat.reduceMul,Nat.reduceSub,Nat.reduceLT,Nat.reduceLeDiff,Nat.reduceEqDiff,Nat.reducePow,Int.reducePow,Int.reduceLE,Int.reduceLT,Int.reduceEq,Int.reduceToNat,reduceCtorEq,R0,b367_3,hl_1,h1_1,h4_1,h5_1,h6_1,h7_1,h18_1,h19_1,h23_1,h8_1,h9_1,eq_false c2];intro ht; cases ht;simp only[↓reduceIte,Nat.reduceAdd,Nat.reduceMul,Nat.reduceSub,Nat.reduceLT,Nat.reduceLeDiff,Nat.reduceEqDiff,Nat.reducePow,Int.reducePow,Int.reduceLE,Int.reduceLT,Int.reduceEq,Int.reduceToNat,reduceCtorEq,RR,RB];refine⟨qu,g1,g2,g3,hz,?_⟩;simp only[↓reduceIte,Nat.reduceAdd,Nat.reduceMul,Nat.reduceSub,Nat.reduceLT,Nat.reduceLeDiff,Nat.reduceEqDiff,Nat.reducePow,Int.reducePow,Int.reduceLE,Int.reduceLT,Int.reduceEq,Int.reduceToNat,reduceCtorEq,R0,hl_1,h1_1,h4_1,h5_1,h6_1,h7_1,h18_1,h19_1,h23_1,h8_1,h9_1]
   ·clear g1 g2 hl_1 h1_1 h4_1 h5_1 h18_1 h19_1
    rintro b ⟨s,z⟩ e ⟨E1,c1⟩ ⟨qu,g1,g2,g3,hz,hl_1,h1_1,h4_1,h5_1,h6_1,h7_1,h18_1,h19_1,h23_1⟩ hge t1 ho;simp only at g1 g2 g3 hz;unfold F367_2_D at ho;have hE:=wA ho; subst hE;simp only[↓reduceIte,Nat.reduceAdd,Nat.reduceMul,Nat.reduceSub,Nat.reduceLT,Nat.reduceLeDiff,Nat.reduceEqDiff,Nat.reducePow,Int.reducePow,Int.reduceLE,Int.reduceLT,Int.reduceEq,Int.reduceToNat,reduceCtorEq,R0,b367_2,hl_1,h1_1,h4_1,h5_1,h6_1,h7_1,h18_1,h19_1,h23_1,eq_false hge];intro ht; cases ht;exact⟨qu,g1,g2⟩
  ·clear hl_0 h0_0 wt wz
   rintro n s e ⟨E,c⟩ ⟨qu,g1,g2,hl_1,h1_1,h4_1,h5_1,h18_1,h19_1⟩ hge t1 ho;simp only at g1 g2;unfold F367_1_D at ho;have hE:=wA ho; subst hE;simp only[↓reduceIte,Nat.reduceAdd,Nat.reduceMul,Nat.reduceSub,Nat.reduceLT,Nat.reduceLeDiff,Nat.reduceEqDiff,Nat.reducePow,Int.reducePow,Int.reduceLE,Int.reduceLT,Int.reduceEq,Int.reduceToNat,reduceCtorEq,R0,b367_1,hl_1,h1_1,h4_1,h5_1,h18_1,h19_1,eq_false hge];intro ht; subst ht;exact⟨qu,g1,g2⟩
theorem x367(a0:GFiltered){r:T2 (List GBar) Int}(hF:F367 a0=some r):tans A 367 [3] [(eF a0)]=some (V.tup [enc r.a,V.int .i64 r.b]):=by
 obtain⟨_,h',h1,vs,K,rfl,h2⟩:=d367 a0 hF;exact tans_tup (fits_pair rfl (by decide)) h1 h2
theorem s367(a0:GFiltered){r:T2 (List GBar) Int}(hF:F367 a0=some r):ans A 367 [(eF a0)]=some (EncR.enc r):=by
 obtain⟨_,h',h1,vs,K,rfl,h2⟩:=d367 a0 hF;exact ans_tup (ss:=[3]) (fits_pair rfl (by decide)) h1 h2
def F375(a0:GBar)(a1:GBar):Option Bool:=
 if a0.Degree=a1.Degree then
  if a0.Birth=a1.Birth then
   if a0.Death=a1.Death then
    some true
   else
    some false
  else
   some false
 else
  some false
theorem s375(a0:GBar)(a1:GBar){r:Bool}(hF:F375 a0 a1=some r):ans A 375 [V.agg [V.int .i64 a0.Degree,V.int .i64 a0.Birth,V.int .i64 a0.Death],V.agg [V.int .i64 a1.Degree,V.int .i64 a1.Birth,V.int .i64 a1.Death]]=some (enc r):=by
 refine qp (f:=p375) rfl rfl rfl fun e hl he=>?_;have h0_0:e.at 0=V.agg [V.int .i64 a0.Degree,V.int .i64 a0.Birth,V.int .i64 a0.Death]:=he 0 _ rfl;have h1_0:e.at 1=V.agg [V.int .i64 a1.Degree,V.int .i64 a1.Birth,V.int .i64 a1.Death]:=he 1 _ rfl;have hl_0:e.length=20:=hl;clear he hl;have h_0:=ai hl_0 (ai h0_0 h1_0);show W A b375 e ⟨[],0⟩ _;unfold F375 at hF;by_cases c1:a0.Degree=a1.Degree
 ·rw[if_pos c1]at hF
  by_cases c2:a0.Birth=a1.Birth
  ·rw[if_pos c2]at hF
   by_cases c3:a0.Death=a1.Death
   ·rw[if_pos c3]at hF
    cases hF;simp only[simprocAttr,R0,b375, *];exact qd (by simp only[simprocAttr,R0,qb,p375,Rs.ev,qa, *])
   ·rw[if_neg c3]at hF
    cases hF;simp only[simprocAttr,R0,b375, *];exact qd (by simp only[simprocAttr,R0,qb,p375,Rs.ev,qa, *])
  ·rw[if_neg c2]at hF
   cases hF;simp only[simprocAttr,R0,b375, *];exact qd (by simp only[simprocAttr,R0,qb,p375,Rs.ev,qa, *])
 ·rw[if_neg c1]at hF
  cases hF;simp only[simprocAttr,R0,b375, *];exact qd (by simp only[simprocAttr,R0,qb,p375,Rs.ev,qa, *])
def F368_1_B(a0:List GBar)(a1:List GBar)(v5_1:Int)(s:Unit):Option ((Unit)⊕((Unit)⊕Bool)):=
 (getI a0 v5_1).bind fun x5=>
(getI a1 v5_1).bind fun x7=>
(F375 x5 x7).bind fun x9=>
if x9=true then
 some (.inl ())
else
 some (.inr (.inr false))
def F368_1_D(a0:List GBar)(a1:List GBar)(v5_1:Int)(s:Unit):Option ((Unit)⊕Bool):=
 some (.inl ())
def F368(a0:List GBar)(a1:List GBar):Option Bool:=
 if(a0.length:Int)=(a1.length:Int)then
  (forR 0 (a0.length:Int) (F368_1_B a0 a1) (F368_1_D a0 a1) ()).bind fun t11=> match t11 with
   | .inl _=>
    some true
   | .inr r12=> some r12
 else
  some false
def I368_1(a0:List GBar)(a1:List GBar)(v5_1:Int)(s:Unit)(e:Env)(h:Heap):Prop:=
 ∃k3:Nat,h=⟨[],k3⟩∧e.length=27∧e.at 0=V.isl (a0.map enc)∧e.at 1=V.isl (a1.map enc)∧e.at 5=V.int .i64 v5_1
def P368_1(a0:List GBar)(a1:List GBar)(t:(Unit)⊕Bool)(x:Ex)(e:Env)(h:Heap):Prop:=
 match t with
 | .inl _=> x= .normal∧∃k3:Nat,h=⟨[],k3⟩∧e.length=27
 | .inr r=> x= .ret∧Fin p368 (enc r) .ret e h
theorem l368_1(a0:List GBar)(a1:List GBar){lo:Int}{s:Unit}{t:(Unit)⊕Bool}(hF:forR lo (a0.length:Int) (F368_1_B a0 a1) (F368_1_D a0 a1) s=some t){e:Env}{h:Heap}(hI:I368_1 a0 a1 lo s e h):W A c368_1 e h (P368_1 a0 a1 t):=by
 show W A (.block 0 (.loop false b368_1)) e h _;rw[qh];refine qv hF 0 (by obtain⟨_,rfl,_⟩:=hI; rfl) (I368_1 a0 a1) hI ?_ ?_
 ·rintro v5_1 _ e h ⟨k3,rfl,h_2⟩ hlt hw o ho
  unfold F368_1_B at ho;obtain⟨x5,gx5,ho⟩:=bS ho;obtain⟨w6a,w6b⟩:=qf gx5;obtain⟨x7,gx7,ho⟩:=bS ho;obtain⟨w8a,w8b⟩:=qf gx7;obtain⟨x9,gx9,ho⟩:=bS ho;have w10:=s375 x5 x7 gx9;cases x9 with
  |true=>
   rw[if_pos rfl]at ho;cases ho;simp only[simprocAttr,R0,b368_1, *];refine ai rfl (ei _ (ai rfl ?_));simp only[simprocAttr,R0, *]
  |false=>
   rw[if_neg wE]at ho;cases ho;simp only[simprocAttr,R0,b368_1, *];intro ht;(first|subst ht|cases t);simp only[simprocAttr,RR,RB];exact ai rfl (qd (by simp only[simprocAttr,R0,qb,p368,Rs.ev,qa, *]))
 ·rintro v5_1 _ e h ⟨k3,rfl,h_2⟩ hge t1 ho
  unfold F368_1_D at ho;cases ho;simp only[simprocAttr,R0,b368_1, *];intro ht;(first|subst ht|cases t);refine ai rfl (ei _ (ai rfl ?_));simp only[simprocAttr,R0, *]
theorem s368(a0:List GBar)(a1:List GBar){r:Bool}(hF:F368 a0 a1=some r):ans A 368 [V.isl (a0.map enc),V.isl (a1.map enc)]=some (enc r):=by
 refine qp (f:=p368) rfl rfl rfl fun e hl he=>?_;have h0_0:e.at 0=V.isl (a0.map enc):=he 0 _ rfl;have h1_0:e.at 1=V.isl (a1.map enc):=he 1 _ rfl;have hl_0:e.length=27:=hl;clear he hl;have h_0:=ai hl_0 (ai h0_0 h1_0);show W A b368 e ⟨[],0⟩ _;unfold F368 at hF;by_cases c1:(a0.length:Int)=(a1.length:Int)
 ·rw[if_pos c1]at hF
  obtain⟨t11,gt11,hF⟩:=bS hF;rcases t11 with _|r12
  ·dsimp only at hF
   simp only[simprocAttr,R0,b368, *];refine W.mono (l368_1 a0 a1 gt11 (ei _ (ai rfl ?_))) ?_
   ·simp only[simprocAttr,R0, *]
   rintro _ e _ ⟨rfl,k3,rfl,hl_4⟩;cases hF;simp only[simprocAttr,R0, *];exact qd (by simp only[simprocAttr,R0,qb,p368,Rs.ev,qa, *])
  ·dsimp only at hF
   cases hF;simp only[simprocAttr,R0,b368, *];refine W.mono (l368_1 a0 a1 gt11 (ei _ (ai rfl ?_))) ?_
   ·simp only[simprocAttr,R0, *]
   rintro _ e h ⟨rfl,hq⟩;simp only[simprocAttr,RR,RB];exact hq
 ·rw[if_neg c1]at hF
  cases hF;simp only[simprocAttr,R0,b368, *];exact qd (by simp only[simprocAttr,R0,qb,p368,Rs.ev,qa, *])
def F369_1_B(i:Int)(s:List GBar×Int):Option ((List GBar×Int)⊕(List GBar×Int)):=
 (getI s.1 i).bind fun b=>(chk (s.2+1)).bind fun k1=>(chk (k1+1)).bind fun k2=>(chk (k2+1)).bind fun k3=> some (.inl (s.1.set i.toNat ⟨s.2,k1,k2⟩,k3))
def F369_1_D(i:Int)(s:List GBar×Int):Option (List GBar×Int):=some s
def FM369(a0:List GBar)(a1:Int):Option (List GBar×Int):=forR 0 (a0.length:Int) F369_1_B F369_1_D (a0,a1)
theorem dm369{a0:List GBar}{a1:Int}{r:List GBar×Int}(hF:FM369 a0 a1=some r)(h:Heap){v:V}{K:Ks}(hr:Deep.rep h v a0 K):∃h',res A 369 [v,V.int .i64 a1] h=some (V.int .i64 r.2,h')∧Deep.rep h' v r.1 K∧(∀k,k < h.ents.length→¬K k→h'.ents[k]? =h.ents[k]?)∧h.ents.length≤h'.ents.length:=by
 suffices∃h',res A 369 [v,V.int .i64 a1] h=some (V.int .i64 r.2,h')∧Deep.rep h' v r.1 K∧(∀k,¬K k→h'.ents[k]? =h.ents[k]?)∧h'.ents.length=h.ents.length by
  obtain⟨h',w,q1,q2,q3⟩:=this;exact⟨h',w,q1,fun k _ nk=> q2 k nk,by omega⟩
 refine res_ex (f:=p369) rfl rfl rfl fun e hl he=>?_;have h0_0:e.at 0=v:=he 0 _ rfl;have h1_0:e.at 1=V.int .i64 a1:=he 1 _ rfl;have hl_0:e.length=34:=hl;clear he hl;show W A b369 e h _;unfold FM369 at hF;obtain⟨E,c⟩:=h;simp only[simprocAttr, -Int.reduceNatCast',R0,b369,hl_0,h0_0,h1_0];show W A (.block 0 (.loop true b369_1)) _ _ _;rw[qh];refine qv hF _ rfl (fun i s e h=> Deep.rep h v s.1 K∧(∀k,¬K k→h.ents[k]? =E[k]?)∧h.ents.length=E.length∧s.1.length=a0.length∧e.length=34∧e.at 0=v∧e.at 1=V.int .i64 s.2∧e.at 5=V.int .i64 i) ?_ ?_ ?_
 ·refine⟨hr,fun _ _=> rfl,rfl,rfl,?_⟩
  simp only[simprocAttr, -Int.reduceNatCast',R0,hl_0,h0_0,h1_0]
 ·clear hl_0 h0_0 h1_0
  rintro i ⟨s,k⟩ e ⟨E3,c3⟩ ⟨g1,g2,g3,hs,hl_1,h0_1,h1_1,h5_1⟩ hlt hw o' ho;simp only at hs h1_1 g1 g2 g3;unfold F369_1_B at ho;simp only at ho;obtain⟨b,gb,ho⟩:=bS ho;obtain⟨ba,bb⟩:=qf gb;have bc:=za gb;obtain⟨k1,gk1,ho⟩:=bS ho;have w1:=qm gk1;obtain⟨k2,gk2,ho⟩:=bS ho;have w2:=qm gk2;obtain⟨k3,gk3,ho⟩:=bS ho;have w3:=qm gk3;have hE:=wA ho; subst hE;have hi:i.toNat < s.length:=by omega
  rcases tri_un g1 with⟨_,rfl,_⟩|⟨q,u,rfl,d1,d2⟩
  ·exact absurd hi (by simp)
  simp only at d1;have hk:q < E3.length:=(List.getElem?_eq_some_iff.1 d1).1;have n1:∀x,(E3.set q x)[q]? =some x:=fun x=> qy hk;have t0:=fl_put (α:=GBar) (a:=b) (a':=⟨k,b.Birth,b.Death⟩) (j:=0) (v:=V.int .i64 k) (l:=s) (by decide) rfl bb;have t1:=fl_put (α:=GBar) (a:=⟨k,b.Birth,b.Death⟩) (a':=⟨k,k1,b.Death⟩) (j:=1) (v:=V.int .i64 k1) (l:=s.set i.toNat ⟨k,b.Birth,b.Death⟩) (i:=i.toNat) (by decide) rfl (List.getElem?_set_self hi);have t2:=fl_put (α:=GBar) (a:=⟨k,k1,b.Death⟩) (a':=⟨k,k1,k2⟩) (j:=2) (v:=V.int .i64 k2) (l:=(s.set i.toNat ⟨k,b.Birth,b.Death⟩).set i.toNat ⟨k,k1,b.Death⟩) (i:=i.toNat) (by decide) rfl (List.getElem?_set_self (by rw[vA]; exact hi));simp only[List.set_set,yQ]at t0 t1 t2;have f0:Int.toNat i*3+1≤s.length*3:=by omega
  have f1:Int.toNat i*3+1+1≤s.length*3:=by omega
  have f2:Int.toNat i*3+2+1≤s.length*3:=by omega
  rw[←hs]at hlt;simp only[simprocAttr, -Int.reduceNatCast',R0,b369_1,hl_1,h0_1,h1_1,h5_1,eq_true hlt,hw,ba,d1,n1,fl_len,vA,eq_true f0,eq_true f1,eq_true f2,t0,t1,t2,w1,w2,w3,List.set_set];refine ai rfl ⟨?_,fun j nj=>(qI (fun e=> nj ((d2 j).2 e))).trans (g2 j nj),by rw[←g3]; simp,by simp[hs],?_⟩
  ·have:=tri_row (h:=⟨E3.set q (u,some (fl (s.set i.toNat ⟨k,k1,k2⟩))),c3⟩) (K:=K) (qy hk) d2
   rwa[vA]at this
  ·simp only[simprocAttr, -Int.reduceNatCast',R0,hl_1,h0_1,h1_1,h5_1,hw,w1,w2,w3]
 ·clear hl_0 h0_0 h1_0
  rintro i ⟨s,k⟩ e ⟨E3,c3⟩ ⟨g1,g2,g3,hs,hl_1,h0_1,h1_1,h5_1⟩ hge t1 ho;unfold F369_1_D at ho;have hE:=wA ho; subst hE;simp only at hs h1_1 g1 g2 g3;have hlen:=tri_len g1;rw[←hs]at hge;simp only[simprocAttr, -Int.reduceNatCast',R0,b369_1,hl_1,h0_1,h1_1,h5_1,hlen,eq_false hge];intro ht; subst ht;exact⟨fun _=> trivial,by simp only[simprocAttr, -Int.reduceNatCast',R0,qb,p369,Rs.ev,hl_1,h0_1,h1_1],g1,g2,g3⟩
def F370_1_B(a0:List GBar)(v5_1:Int)(v1_1:Int):Option ((Int)⊕((Int)⊕Int)):=
 (getI a0 v5_1).bind fun x4=>
if x4.Degree=v1_1 then
 (chk (v1_1+1)).bind fun x7=>
 if x4.Birth=x7 then
  (chk (x7+1)).bind fun x9=>
  if x4.Death=x9 then
   (chk (x9+1)).bind fun x11=>
   some (.inl x11)
  else
   some (.inr (.inr (-1)))
 else
  some (.inr (.inr (-1)))
else
 some (.inr (.inr (-1)))
def F370_1_D(a0:List GBar)(v5_1:Int)(v1_1:Int):Option ((Int)⊕Int):=
 some (.inl v1_1)
def F370(a0:List GBar)(a1:Int):Option Int:=
 (forR 0 (a0.length:Int) (F370_1_B a0) (F370_1_D a0) a1).bind fun t12=> match t12 with
  | .inl zv1_1=>
   some zv1_1
  | .inr r13=> some r13
def I370_1(a0:List GBar)(v5_1:Int)(v1_1:Int)(e:Env)(h:Heap):Prop:=
 ∃k2:Nat,h=⟨[],k2⟩∧e.length=40∧e.at 0=V.isl (a0.map enc)∧e.at 1=V.int .i64 v1_1∧e.at 5=V.int .i64 v5_1
def P370_1(a0:List GBar)(t:(Int)⊕Int)(x:Ex)(e:Env)(h:Heap):Prop:=
 match t with
 | .inl zv1_1=> x= .normal∧∃k2:Nat,h=⟨[],k2⟩∧e.length=40∧e.at 1=V.int .i64 zv1_1
 | .inr r=> x= .ret∧Fin p370 (enc r) .ret e h
theorem l370_1(a0:List GBar){lo:Int}{s:Int}{t:(Int)⊕Int}(hF:forR lo (a0.length:Int) (F370_1_B a0) (F370_1_D a0) s=some t){e:Env}{h:Heap}(hI:I370_1 a0 lo s e h):W A c370_1 e h (P370_1 a0 t):=by
 show W A (.block 0 (.loop false b370_1)) e h _;rw[qh];refine qv hF 0 (by obtain⟨_,rfl,_⟩:=hI; rfl) (I370_1 a0) hI ?_ ?_
 ·rintro v5_1 v1_1 e h ⟨k2,rfl,h_1⟩ hlt hw o ho
  unfold F370_1_B at ho;obtain⟨x4,gx4,ho⟩:=bS ho;obtain⟨w5a,w5b⟩:=qf gx4;by_cases c6:x4.Degree=v1_1
  ·rw[if_pos c6]at ho
   obtain⟨x7,gx7,ho⟩:=bS ho;have wx7:=qm gx7;by_cases c8:x4.Birth=x7
   ·rw[if_pos c8]at ho
    obtain⟨x9,gx9,ho⟩:=bS ho;have wx9:=qm gx9;by_cases c10:x4.Death=x9
    ·rw[if_pos c10]at ho
     obtain⟨x11,gx11,ho⟩:=bS ho;have wx11:=qm gx11;cases ho;simp only[simprocAttr,R0,b370_1, *];refine ai rfl (ei _ (ai rfl ?_));simp only[simprocAttr,R0, *]
    ·rw[if_neg c10]at ho
     cases ho;simp only[simprocAttr,R0,b370_1, *];intro ht;(first|subst ht|cases t);simp only[simprocAttr,RR,RB];exact ai rfl (qd (by simp only[simprocAttr,R0,qb,p370,Rs.ev,qa, *]))
   ·rw[if_neg c8]at ho
    cases ho;simp only[simprocAttr,R0,b370_1, *];intro ht;(first|subst ht|cases t);simp only[simprocAttr,RR,RB];exact ai rfl (qd (by simp only[simprocAttr,R0,qb,p370,Rs.ev,qa, *]))
  ·rw[if_neg c6]at ho
   cases ho;simp only[simprocAttr,R0,b370_1, *];intro ht;(first|subst ht|cases t);simp only[simprocAttr,RR,RB];exact ai rfl (qd (by simp only[simprocAttr,R0,qb,p370,Rs.ev,qa, *]))
 ·rintro v5_1 v1_1 e h ⟨k2,rfl,h_1⟩ hge t1 ho
  unfold F370_1_D at ho;cases ho;simp only[simprocAttr,R0,b370_1, *];intro ht;(first|subst ht|cases t);refine ai rfl (ei _ (ai rfl ?_));simp only[simprocAttr,R0, *]
theorem s370(a0:List GBar)(a1:Int){r:Int}(hF:F370 a0 a1=some r):ans A 370 [V.isl (a0.map enc),V.int .i64 a1]=some (enc r):=by
 refine qp (f:=p370) rfl rfl rfl fun e hl he=>?_;have h0_0:e.at 0=V.isl (a0.map enc):=he 0 _ rfl;have h1_0:e.at 1=V.int .i64 a1:=he 1 _ rfl;have hl_0:e.length=40:=hl;clear he hl;have h_0:=ai hl_0 (ai h0_0 h1_0);show W A b370 e ⟨[],0⟩ _;unfold F370 at hF;obtain⟨t12,gt12,hF⟩:=bS hF;rcases t12 with zv1_1|r13
 ·dsimp only at hF
  simp only[simprocAttr,R0,b370, *];refine W.mono (l370_1 a0 gt12 (ei _ (ai rfl ?_))) ?_
  ·simp only[simprocAttr,R0, *]
  rintro _ e _ ⟨rfl,k2,rfl,h_3⟩;cases hF;simp only[simprocAttr,R0, *];exact qd (by simp only[simprocAttr,R0,qb,p370,Rs.ev,qa, *])
 ·dsimp only at hF
  cases hF;simp only[simprocAttr,R0,b370, *];refine W.mono (l370_1 a0 gt12 (ei _ (ai rfl ?_))) ?_
  ·simp only[simprocAttr,R0, *]
  rintro _ e h ⟨rfl,hq⟩;simp only[simprocAttr,RR,RB];exact hq
def L388(a0:GFiltered):Prop:=
 (∃l0,F37 a0 1048576=some l0∧l0 < 0)∨
 (∃ (l0:Int) (s0:GFiltered) (w:List GBar) (cd:Int) (m0:GFiltered×Int) (mg:List GBar×Int),F37 a0 1048576=some l0∧¬l0 < 0∧F40 a0=some s0∧F366 s0=some ⟨w,cd⟩∧F367 s0=some ⟨w,cd⟩∧F368 w w=some true∧F25 s0 s0=some true∧FM26 s0 1=some m0∧¬m0.2 < 0∧FM369 w 1=some mg∧F370 mg.1 1=some mg.2∧¬mg.2 < 0)
theorem s388(a0:GFiltered)(hF:L388 a0):ans A 388 [(eF a0)]=some (V.bool true):=by
 refine qp (f:=p388) rfl rfl rfl fun e hl he=>?_;have h0_0:e.at 0=(eF a0):=he 0 _ rfl;have hl_0:e.length=96:=hl;clear he hl;show W A b388 e ⟨[],0⟩ _;rcases hF with⟨l0,g0,c0⟩|⟨l0,s0,w,cd,m0,mg,g0,c0,t0,gs,gi,ge,q0,k0,ck,gm,gh,cg⟩
 ·have z0:=s37 a0 _ g0
  simp only[simprocAttr,R0,b388,z0, *];exact qd (by simp only[simprocAttr,R0,qb,p388,Rs.ev,qa,z0, *])
 ·have z0:=s37 a0 _ g0
  have u0:ans A 40 [(eF a0)]=some ((eF s0)):=s40 a0 t0;have x0:tans A 40 [1,1,1] [(eF a0)]=some ((eF s0)):=x40 a0 t0;have us:ans A 366 [(eF s0)]=some (V.tup [V.isl (w.map enc),V.int .i64 cd]):=s366 s0 gs;have ui:ans A 367 [(eF s0)]=some (V.tup [V.isl (w.map enc),V.int .i64 cd]):=s367 s0 gi;have xi:tans A 367 [3] [(eF s0)]=some (V.tup [V.isl (w.map enc),V.int .i64 cd]):=x367 s0 gi;have ue:ans A 368 [V.isl (w.map enc),V.isl (w.map enc)]=some (V.bool true):=s368 w w ge;have y0:ans A 25 [(eF s0),(eF s0)]=some (V.bool true):=s25 s0 s0 q0;have bw:bare 16 [3] (V.tup [V.isl (w.map enc),V.int .i64 cd])=true:=bare_tup (l:=[⟨w⟩,⟨cd⟩]) (fits_pair rfl (by decide));obtain⟨v0,⟨E_1,c_2⟩,K_3,t_5,r_4,b_6,le_7,o_8⟩:=thawD (α:=GFiltered) (by decide) s0 ⟨[(0,none)],1⟩;obtain⟨d0_1,d0_2,d0_3,rfl, -⟩:=sh_GFiltered r_4;simp only[le1,vI,vH,wP,Nat.reduceAdd]at b_6 le_7 o_8;have t_5':thaw 16 [1,1,1] ((eF s0)) ⟨[(0,none)],1⟩=some (V.agg [V.int .i64 s0.Complex.Prime,d0_1,d0_2,d0_3],⟨E_1,c_2⟩):=t_5;have f_9:(E_1++[(c_2,some [V.int .i64 s0.Complex.Prime,d0_1,d0_2,d0_3])])[E_1.length]? =some (c_2,some [V.int .i64 s0.Complex.Prime,d0_1,d0_2,d0_3]):=qH _ _;have r_10:=Deep.frame (h':=⟨E_1++[(c_2,some [V.int .i64 s0.Complex.Prime,d0_1,d0_2,d0_3])],c_2+1⟩) r_4 fun k q=>(List.getElem?_append_left (Deep.bd r_4 q):(E_1++[(c_2,some [V.int .i64 s0.Complex.Prime,d0_1,d0_2,d0_3])])[k]? =_);obtain⟨z_11_e0,z_11_1,z_11_2,z_11_3⟩:=fz_GFiltered r_10;obtain⟨vg,⟨E_12,c_13⟩,K_14,t_16,r_15,b_17,le_18,o_19⟩:=thawP (α:=List GBar) (s:=3) (ss:=[]) (by decide) w cd ⟨E_1++[(c_2,some [V.int .i64 s0.Complex.Prime,d0_1,d0_2,d0_3])],c_2+1⟩;obtain⟨oneg,oneg_t⟩:=tri_one r_15;simp only[le1,vI,vH,wP,Nat.reduceAdd]at b_17 le_18 o_19;have t_16':thaw 16 [3] (V.tup [V.isl (w.map enc),V.int .i64 cd]) ⟨E_1++[(c_2,some [V.int .i64 s0.Complex.Prime,d0_1,d0_2,d0_3])],c_2+1⟩=some (V.tup [vg,V.int .i64 cd],⟨E_12,c_13⟩):=t_16;have f_20:E_12[E_1.length]? =some (c_2,some [V.int .i64 s0.Complex.Prime,d0_1,d0_2,d0_3]):=(o_19 E_1.length (by have:=(List.getElem?_eq_some_iff.1 f_9).1;(try simp only[le1]at this); omega)).trans f_9;have r_21:=Deep.frame (h':=⟨E_12,c_13⟩) r_10 fun k q=> o_19 k (by have:=Deep.bd r_10 q;(try simp only[le1]at this); omega);have z_22:=Deep.fz r_15 14;have z_22':frz ⟨E_12,c_13⟩ 16 vg=some (V.isl (w.map enc)):=z_22;obtain⟨z_23_e0,z_23_1,z_23_2,z_23_3⟩:=fz_GFiltered r_21;obtain⟨⟨E_24,c_25⟩,w_26,r_27,o_29,le_28⟩:=dm26 k0 _ r_21
  try simp only[le1]at o_29 le_28
  have f_30:E_24[E_1.length]? =some (c_2,some [V.int .i64 s0.Complex.Prime,d0_1,d0_2,d0_3]):=(o_29 E_1.length (by have:=(List.getElem?_eq_some_iff.1 f_20).1;(try simp only[le1]at this); omega) (fun p=> by have h1:=b_6 _ p; omega)).trans f_20;have r_31:=Deep.frame (h':=⟨E_24,c_25⟩) r_15 fun k q=> o_29 k (by have:=Deep.bd r_15 q;(try simp only[le1]at this); omega) (fun p=> by have h1:=b_6 k p; have h2:=b_17 k q; omega);have z_32:=Deep.fz r_31 14;have z_32':frz ⟨E_24,c_25⟩ 16 vg=some (V.isl (w.map enc)):=z_32;obtain⟨⟨E_33,c_34⟩,w_35,r_36,o_38,le_37⟩:=dm369 gm _ r_31
  try simp only[le1]at o_38 le_37
  have f_39:E_33[E_1.length]? =some (c_2,some [V.int .i64 s0.Complex.Prime,d0_1,d0_2,d0_3]):=(o_38 E_1.length (by have:=(List.getElem?_eq_some_iff.1 f_30).1;(try simp only[le1]at this); omega) (fun p=> by have h1:=b_17 _ p; omega)).trans f_30;have r_40:=Deep.frame (h':=⟨E_33,c_34⟩) r_27 fun k q=> o_38 k (by have:=Deep.bd r_27 q;(try simp only[le1]at this); omega) (fun p=> by have h1:=b_17 k p; have h2:=b_6 k q; omega);have z_41:=Deep.fz r_36 14;have z_41':frz ⟨E_33,c_34⟩ 16 vg=some (V.isl (List.map enc mg.1)):=z_41;have uh:ans A 370 [V.isl (List.map enc mg.1),V.int .i64 1]=some (V.int .i64 mg.2):=s370 mg.1 1 gh;simp only[simprocAttr,R0,b388,qL,qx,qH,set_last,le1,z0,u0,x0,us,ui,xi,ue,y0,bw,t_5',f_9,z_11_1,z_11_2,z_11_3,oneg,oneg_t,t_16',f_20,z_22',z_23_1,z_23_2,z_23_3,f_30,z_32',eq_false ck,f_39,z_41',uh,eq_false cg, *];exact qd (by simp only[simprocAttr,R0,qb,p388,Rs.ev,qa, *])
end
end Rv
