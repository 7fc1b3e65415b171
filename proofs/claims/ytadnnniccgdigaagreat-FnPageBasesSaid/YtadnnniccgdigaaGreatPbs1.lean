/- What the abstract code answers: typed functions, part 2. -/
import Derived.Test.YtadnnniccgdigaaGreatPbs0
namespace Rv
open Enc (enc)
set_option linter.unusedVariables false
set_option linter.unusedSimpArgs false
set_option maxRecDepth 100000
noncomputable section
def F136_1_B(a0:Int)(a1:List Int)(a2:List Int)(a3:Int)(v10_1:Int)(o0_1:(List Int)):Option (((List Int))⊕((List Int))):=
 (getI a1 v10_1).bind fun x5=>
(getI a2 v10_1).bind fun x7=>
(chk (a3*x7)).bind fun x9=>
(chk (x5 - x9)).bind fun x10=>
(F127 a0 x10).bind fun x11=>
(app 8 o0_1 [x11]).bind fun l14=>
some (.inl l14)
def F136_1_D(a0:Int)(a1:List Int)(a2:List Int)(a3:Int)(v10_1:Int)(o0_1:(List Int)):Option ((List Int)):=
 some o0_1
def F136(a0:Int)(a1:List Int)(a2:List Int)(a3:Int):Option (List Int):=
 (forR 0 (a1.length:Int) (F136_1_B a0 a1 a2 a3) (F136_1_D a0 a1 a2 a3) ([]:(List Int))).bind fun zo0_1=>
 some zo0_1
def I136_1(a0:Int)(a1:List Int)(a2:List Int)(a3:Int)(v10_1:Int)(o0_1:(List Int))(e:Env)(h:Heap):Prop:=
 ∃u2 k3:Nat,h=⟨[(u2,some (o0_1.map enc))],k3⟩∧e.length=35∧e.at 0=V.int .i64 a0∧e.at 1=V.isl (a1.map enc)∧e.at 2=V.isl (a2.map enc)∧e.at 3=V.int .i64 a3∧e.at 9=V.sl 0 u2 0 o0_1.length 1∧e.at 10=V.int .i64 v10_1
def P136_1(a0:Int)(a1:List Int)(a2:List Int)(a3:Int)(zo0_1:(List Int))(x:Ex)(e:Env)(h:Heap):Prop:=
 x= .normal∧∃u2 k3:Nat,h=⟨[(u2,some (zo0_1.map enc))],k3⟩∧e.length=35∧e.at 9=V.sl 0 u2 0 zo0_1.length 1
theorem l136_1(a0:Int)(a1:List Int)(a2:List Int)(a3:Int){lo:Int}{s:(List Int)}{t:(List Int)}(hF:forR lo (a1.length:Int) (F136_1_B a0 a1 a2 a3) (F136_1_D a0 a1 a2 a3) s=some t){e:Env}{h:Heap}(hI:I136_1 a0 a1 a2 a3 lo s e h):W A c136_1 e h (P136_1 a0 a1 a2 a3 t):=by
 show W A (.block 0 (.loop false b136_1)) e h _;rw[qr];refine qD hF 1 (by obtain⟨_,_,rfl,_⟩:=hI; rfl) (I136_1 a0 a1 a2 a3) hI ?_ ?_
 ·rintro v10_1 o0_1 e h ⟨u2,k3,rfl,h_1⟩ hlt hw o ho
  unfold F136_1_B at ho;obtain⟨x5,gx5,ho⟩:=bS ho;obtain⟨w6a,w6b⟩:=qk gx5;obtain⟨x7,gx7,ho⟩:=bS ho;obtain⟨w8a,w8b⟩:=qk gx7;obtain⟨x9,gx9,ho⟩:=bS ho;have wx9:=qz gx9;obtain⟨x10,gx10,ho⟩:=bS ho;have wx10:=qz gx10;obtain⟨x11,gx11,ho⟩:=bS ho;have w12:=s127 a0 x10 gx11;obtain⟨l14,gl14,ho⟩:=bS ho;have w13:=fun a b c d e=> qA (α:=Int) (n:=o0_1.length) (m:=1) (ds:=[V.int .i64 x11]) gl14 (by first|rfl|simp) (by first|rfl|simp) rfl a b c d e;have w13l:=qM gl14;cases ho;simp only[simprocAttr,R0,b136_1, *];refine ai rfl (ei _ (ei _ (ai rfl ?_)));simp only[simprocAttr,R0, *]
 ·rintro v10_1 o0_1 e h ⟨u2,k3,rfl,h_1⟩ hge t1 ho
  unfold F136_1_D at ho;cases ho;simp only[simprocAttr,R0,b136_1, *];intro ht; subst ht;refine ai rfl (ei _ (ei _ (ai rfl ?_)));simp only[simprocAttr,R0, *]
theorem t136(a0:Int)(a1:List Int)(a2:List Int)(a3:Int){r:List Int}(hF:F136 a0 a1 a2 a3=some r):tans A 136 [1] [V.int .i64 a0,V.isl (a1.map enc),V.isl (a2.map enc),V.int .i64 a3]=some (enc r):=by
 refine tans_of (f:=p136) rfl rfl rfl fun e hl he=>?_;have h0_0:e.at 0=V.int .i64 a0:=he 0 _ rfl;have h1_0:e.at 1=V.isl (a1.map enc):=he 1 _ rfl;have h2_0:e.at 2=V.isl (a2.map enc):=he 2 _ rfl;have h3_0:e.at 3=V.int .i64 a3:=he 3 _ rfl;have hl_0:e.length=35:=hl;clear he hl;show W A b136 e ⟨[],0⟩ _;unfold F136 at hF;obtain⟨zo0_1,gt15,hF⟩:=bS hF;simp only[simprocAttr, -Int.reduceNatCast',R0,b136, *];refine W.mono (l136_1 a0 a1 a2 a3 gt15 (ei _ (ei _ (ai rfl ?_)))) ?_
 ·simp only[simprocAttr, -Int.reduceNatCast',R0, *]
 rintro _ e _ ⟨rfl,u2,k3,rfl,hl_4,h9_4⟩;have hE:=wA hF; subst hE;simp only[simprocAttr, -Int.reduceNatCast',R0, *];exact tfin_ret (by simp only[simprocAttr, -Int.reduceNatCast',R0,qg,p136,Rs.ev,qc,frzs (α:=Int) zo0_1,qO (α:=Int) zo0_1, *])
def F134_1_B(a0:Int)(a1:List (List Int))(v8_1:Int)(v7_1:(List Int)):Option (((List Int))⊕((List Int))):=
 (getI a1 v8_1).bind fun x6=>
(F81 x6).bind fun x8=>
(getI v7_1 x8).bind fun x10=>
(F136 a0 v7_1 x6 x10).bind fun x12=>
some (.inl x12)
def F134_1_D(a0:Int)(a1:List (List Int))(v8_1:Int)(v7_1:(List Int)):Option ((List Int)):=
 some v7_1
def F134(a0:Int)(a1:List (List Int))(a2:List Int):Option (List Int):=
 (F94 a2).bind fun x1=>
 (forR 0 (a1.length:Int) (F134_1_B a0 a1) (F134_1_D a0 a1) x1).bind fun zv7_1=>
 some zv7_1
theorem d134(a0:Int)(a1:List (List Int))(a2:List Int){r:List Int}(hF:F134 a0 a1 a2=some r):∃v h',res A 134 [V.int .i64 a0,V.isl (a1.map enc),V.isl (a2.map enc)] Heap.empty=some (v,h')∧∃K,Deep.rep h' v r K:=by
 refine jW (f:=p134) rfl rfl rfl fun e hl he=>?_;have h0_0:e.at 0=V.int .i64 a0:=he 0 _ rfl;have h1_0:e.at 1=V.isl (a1.map enc):=he 1 _ rfl;have h2_0:e.at 2=V.isl (a2.map enc):=he 2 _ rfl;have hl_0:e.length=33:=hl;clear he hl;show W A b134 e ⟨[],0⟩ _;unfold F134 at hF;obtain⟨o,go,hF⟩:=bS hF;have wo:tans A 94 [1] [V.isl (a2.map enc)]=some (V.isl (o.map enc)):=t94 a2 go;obtain⟨t,gt,hF⟩:=bS hF;cases hF;simp only[simprocAttr,R1,b134,qE,zb, *];show W A (.block 0 (.loop true b134_1)) _ _ _;rw[qr];refine qD gt _ rfl (fun i q e h=>∃k u,h.ents[k]? =some (u,some (q.map enc))∧e.length=33∧e.at 0=V.int .i64 a0∧e.at 1=V.isl (a1.map enc)∧e.at 7=V.sl k u 0 q.length 1∧e.at 8=V.int .i64 i) ?_ ?_ ?_
 ·refine⟨0,0,rfl,?_⟩
  simp only[simprocAttr,R1, *]
 ·clear hl_0 h0_0 h1_0 h2_0
  rintro i q e ⟨E,c⟩ ⟨k,u,g1,h_1⟩ hlt hw s' ho;unfold F134_1_B at ho;simp only at g1;obtain⟨x6,gx6,ho⟩:=bS ho;obtain⟨x6a,x6b⟩:=qk gx6;obtain⟨x8,gx8,ho⟩:=bS ho;have w8:=s81 x6 gx8;obtain⟨x10,gx10,ho⟩:=bS ho;obtain⟨x10a,x10b⟩:=qk gx10;have x10c:=za gx10;obtain⟨x12,gx12,ho⟩:=bS ho;have w12:tans A 136 [1] [V.int .i64 a0,V.isl (q.map enc),V.isl (x6.map enc),V.int .i64 x10]=some (V.isl (x12.map enc)):=t136 a0 q x6 x10 gx12;cases ho;have wfz:frz ⟨E,c⟩ 16 (V.sl k u 0 q.length 1)=some (V.isl (q.map enc)):=frz_row g1;have wbr:=bare_one (α:=Int) x12;have o10:zd none (List.drop x8.toNat (q.map enc))=some (V.int .i64 x10):=qC (by rw[List.getElem?_map,x10b]; rfl);simp only[simprocAttr,R1,b134_1,x6a,x6b,x10a,eq_true x10c,o10,qE,zb, *];refine ai rfl ⟨_,_,qF _ _,?_⟩;simp only[simprocAttr,R1, *]
 ·clear hl_0 h0_0 h1_0 h2_0
  rintro i q e ⟨E,c⟩ ⟨k,u,g1,h_1⟩ hge t1 ho;unfold F134_1_D at ho;cases ho;simp only at g1;simp only[simprocAttr,R1,b134_1, *];intro ht; subst ht;refine ai (fun _=> trivial) ⟨_,?_,fun x=> x=k,jq (l:=q) g1 fun x=> yE⟩;simp only[simprocAttr,R1,qg,p134,Rs.ev, *]
theorem t134(a0:Int)(a1:List (List Int))(a2:List Int){r:List Int}(hF:F134 a0 a1 a2=some r):tans A 134 [1] [V.int .i64 a0,V.isl (a1.map enc),V.isl (a2.map enc)]=some (enc r):=zK (α:=List Int) (by decide) (d134 a0 a1 a2 hF)
def F135_1_B(a0:Int)(a1:Int)(v5_1:Int)(s:Unit):Option ((Unit)⊕((Unit)⊕Int)):=
 (F127 a0 a1).bind fun x4=>
(chk (v5_1*x4)).bind fun x6=>
(remI x6 a0).bind fun x7=>
if x7=1 then
 some (.inr (.inr v5_1))
else
 some (.inl ())
def F135_1_D(a0:Int)(a1:Int)(v5_1:Int)(s:Unit):Option ((Unit)⊕Int):=
 some (.inl ())
def F135(a0:Int)(a1:Int):Option Int:=
 (forR 1 a0 (F135_1_B a0 a1) (F135_1_D a0 a1) ()).bind fun t10=> match t10 with
  | .inl _=>
   some 0
  | .inr r11=> some r11
def I135_1(a0:Int)(a1:Int)(v5_1:Int)(s:Unit)(e:Env)(h:Heap):Prop:=
 ∃k2:Nat,h=⟨[],k2⟩∧e.length=20∧e.at 0=V.int .i64 a0∧e.at 1=V.int .i64 a1∧e.at 5=V.int .i64 v5_1
def P135_1(a0:Int)(a1:Int)(t:(Unit)⊕Int)(x:Ex)(e:Env)(h:Heap):Prop:=
 match t with
 | .inl _=> x= .normal∧∃k2:Nat,h=⟨[],k2⟩∧e.length=20
 | .inr r=> x= .ret∧Fin p135 (enc r) .ret e h
theorem l135_1(a0:Int)(a1:Int){lo:Int}{s:Unit}{t:(Unit)⊕Int}(hF:forR lo a0 (F135_1_B a0 a1) (F135_1_D a0 a1) s=some t){e:Env}{h:Heap}(hI:I135_1 a0 a1 lo s e h):W A c135_1 e h (P135_1 a0 a1 t):=by
 show W A (.block 0 (.loop false b135_1)) e h _;rw[qr];refine qD hF 0 (by obtain⟨_,rfl,_⟩:=hI; rfl) (I135_1 a0 a1) hI ?_ ?_
 ·rintro v5_1 _ e h ⟨k2,rfl,h_1⟩ hlt hw o ho
  unfold F135_1_B at ho;obtain⟨x4,gx4,ho⟩:=bS ho;have w5:=s127 a0 a1 gx4;obtain⟨x6,gx6,ho⟩:=bS ho;have wx6:=qz gx6;obtain⟨x7,gx7,ho⟩:=bS ho;obtain⟨w8a,w8b⟩:=rem_w gx7;by_cases c9:x7=1
  ·rw[if_pos c9]at ho
   cases ho;simp only[simprocAttr,R0,b135_1, *];intro ht; subst ht;simp only[simprocAttr,RR,RB];exact ai rfl (qf (by simp only[simprocAttr,R0,qg,p135,Rs.ev,qc, *]))
  ·rw[if_neg c9]at ho
   cases ho;simp only[simprocAttr,R0,b135_1, *];refine ai rfl (ei _ (ai rfl ?_));simp only[simprocAttr,R0, *]
 ·rintro v5_1 _ e h ⟨k2,rfl,h_1⟩ hge t1 ho
  unfold F135_1_D at ho;cases ho;simp only[simprocAttr,R0,b135_1, *];intro ht; subst ht;refine ai rfl (ei _ (ai rfl ?_));simp only[simprocAttr,R0, *]
theorem s135(a0:Int)(a1:Int){r:Int}(hF:F135 a0 a1=some r):ans A 135 [V.int .i64 a0,V.int .i64 a1]=some (enc r):=by
 refine qw (f:=p135) rfl rfl rfl fun e hl he=>?_;have h0_0:e.at 0=V.int .i64 a0:=he 0 _ rfl;have h1_0:e.at 1=V.int .i64 a1:=he 1 _ rfl;have hl_0:e.length=20:=hl;clear he hl;have h_0:=ai hl_0 (ai h0_0 h1_0);show W A b135 e ⟨[],0⟩ _;unfold F135 at hF;obtain⟨t10,gt10,hF⟩:=bS hF;rcases t10 with _|r11
 ·dsimp only at hF
  simp only[simprocAttr,R0,b135, *];refine W.mono (l135_1 a0 a1 gt10 (ei _ (ai rfl ?_))) ?_
  ·simp only[simprocAttr,R0, *]
  rintro _ e _ ⟨rfl,k2,rfl,hl_3⟩;cases hF;simp only[simprocAttr,R0, *];exact qf (by simp only[simprocAttr,R0,qg,p135,Rs.ev,qc, *])
 ·dsimp only at hF
  cases hF;simp only[simprocAttr,R0,b135, *];refine W.mono (l135_1 a0 a1 gt10 (ei _ (ai rfl ?_))) ?_
  ·simp only[simprocAttr,R0, *]
  rintro _ e h ⟨rfl,hq⟩;simp only[simprocAttr,RR,RB];exact hq
def F131_2_B(p b:Int)(k:Int)(row:List Int):Option (List Int⊕List Int):=(getI row k).bind fun x=>(chk (x*b)).bind fun m=>(remI m p).bind fun z=>(setI row k z).bind fun r=> some (.inl r)
def F131_2_D(k:Int)(row:List Int):Option (List Int):=some row
def F131_3_C(out:List (List Int))(at_:Int)(k:Int)(put:Bool):Option Bool:=if put=true then some false else(getI out k).bind fun o=>(F81 o).bind fun ld=> some (decide (at_ < ld))
def F131_3_B(p:Int)(out:List (List Int))(own:List Int)(at_:Int)(k:Int)(s:List (List Int)×Bool):Option ((List (List Int)×Bool)⊕(List (List Int)×Bool)):=
 (F131_3_C out at_ k s.2).bind fun c=>(if c=true then(app 24 s.1 [own]).bind fun n=> some (n,true)else some s).bind fun s2=>
 (getI out k).bind fun o=>(getI o at_).bind fun y=>(F136 p o own y).bind fun q=>(app 24 s2.1 [q]).bind fun n=> some (.inl (n,s2.2))
def F131_3_D(k:Int)(s:List (List Int)×Bool):Option (List (List Int)×Bool):=some s
def F131_1_B(p:Int)(rows:List (List Int))(i:Int)(out:List (List Int)):Option (List (List Int)⊕List (List Int)):=
 (getI rows i).bind fun row=>(F134 p out row).bind fun own=>(F81 own).bind fun at_=> if at_ < 0 then some (.inl out)else
 (getI own at_).bind fun x=>(F135 p x).bind fun inv=>(forR 0 (own.length:Int) (F131_2_B p inv) F131_2_D own).bind fun own'=>
 (forR 0 (out.length:Int) (F131_3_B p out own' at_) F131_3_D ([],false)).bind fun s=> if s.2=true then some (.inl s.1)else(app 24 s.1 [own']).bind fun n=> some (.inl n)
def F131_1_D(i:Int)(out:List (List Int)):Option (List (List Int)):=some out
def F131(p:Int)(rows:List (List Int)):Option (List (List Int)):=forR 0 (rows.length:Int) (F131_1_B p rows) F131_1_D []
set_option maxHeartbeats 8000000 in
theorem d131(p:Int)(rows:List (List Int)){r:List (List Int)}(hF:F131 p rows=some r):∃v h',res A 131 [V.int .i64 p,V.isl (rows.map enc)] Heap.empty=some (v,h')∧
  ∃k u vs,v=V.sl k u 0 r.length 1∧h'.ents[k]? =some (u,some vs)∧Rws h'.ents (fun _=> True) vs r:=by
 refine jW (f:=p131) rfl rfl rfl fun e hl he=>?_;have h0_0:e.at 0=V.int .i64 p:=he 0 _ rfl;have h1_0:e.at 1=V.isl (rows.map enc):=he 1 _ rfl;have hl_0:e.length=102:=hl;clear he hl;show W A b131 e ⟨[],0⟩ _;unfold F131 at hF;simp only[simprocAttr, -Int.reduceNatCast',R1,b131,hl_0,h0_0,h1_0];show W A (.block 0 (.loop true b131_1)) _ _ _;rw[qr];refine qD hF _ rfl (fun i out e h=>∃ko uo vs,h.ents[ko]? =some (uo,some vs)∧Rws h.ents (fun _=> True) vs out∧e.length=102∧e.at 0=V.int .i64 p∧e.at 1=V.isl (rows.map enc)∧e.at 5=V.sl ko uo 0 out.length 1∧e.at 6=V.int .i64 i) ?_ ?_ ?_
 ·refine⟨0,0,[],rfl,.nil,?_⟩
  simp only[simprocAttr, -Int.reduceNatCast',R1,hl_0,h0_0,h1_0]
 ·clear hl_0 h0_0 h1_0
  rintro i out e ⟨E,c⟩ ⟨ko,uo,vs,g1,g2,hl_1,h0_1,h1_1,h5_1,h6_1⟩ hlt hw s' ho;unfold F131_1_B at ho;simp only at g1 g2;have hko:ko < E.length:=(List.getElem?_eq_some_iff.1 g1).1;obtain⟨row,gr,ho⟩:=bS ho;obtain⟨ra,rb⟩:=qk gr;obtain⟨own,gown,ho⟩:=bS ho;have wown:tans A 134 [1] [V.int .i64 p,V.isl (out.map enc),V.isl (row.map enc)]=some (V.isl (own.map enc)):=t134 p out row gown;obtain⟨at_,gat,ho⟩:=bS ho;have wat:ans A 81 [V.isl (own.map enc)]=some (V.int .i64 at_):=s81 own gat;have wfo:=g2.fz c g1;have wbr:=bare_one (α:=Int) own;have wfr:∀z:List Int,∀c',frz ⟨E++[(c,some (z.map enc))],c'⟩ 16 (V.sl E.length c 0 z.length 1)=some (V.isl (z.map enc)):=fun z c'=> frz_row (qF _ _);have wfr0:=wfr own;by_cases hat:at_ < 0
  ·rw[if_pos hat]at ho
   have hE:=wA ho; subst hE;simp only[simprocAttr, -Int.reduceNatCast',R1,b131_1,hl_1,h0_1,h1_1,h5_1,h6_1,eq_true hlt,hw,ra,rb,wfo,wown,wbr,qE,zb,wfr0,wat,eq_true hat];refine ai rfl ⟨ko,uo,vs,(List.getElem?_append_left hko).trans g1,g2.frame fun k hk _=>⟨List.getElem?_append_left hk,trivial⟩,?_⟩;simp only[simprocAttr, -Int.reduceNatCast',R1,hl_1,h0_1,h1_1,h5_1,h6_1,hw]
  ·rw[if_neg hat]at ho
   obtain⟨x,gx,ho⟩:=bS ho;obtain⟨xa,xb⟩:=qk gx;have xc:=za gx;obtain⟨inv,ginv,ho⟩:=bS ho;have winv:ans A 135 [V.int .i64 p,V.int .i64 x]=some (V.int .i64 inv):=s135 p x ginv;obtain⟨own',gown',ho⟩:=bS ho;obtain⟨s,gs,ho⟩:=bS ho;have ox:zd none (List.drop at_.toNat (own.map enc))=some (V.int .i64 x):=qC (by rw[List.getElem?_map,xb]; rfl);simp only[simprocAttr, -Int.reduceNatCast',R1,b131_1,hl_1,h0_1,h1_1,h5_1,h6_1,eq_true hlt,hw,ra,rb,wfo,wown,wbr,qE,zb,wfr0,wat,eq_false hat,xa,eq_true xc,qF,ox,winv];show W A (.block 2 (.loop true b131_2)) _ _ _;rw[qr];refine qD gown' _ rfl (fun k q e h=> q.length=own.length∧h=⟨E++[(c,some (q.map enc))],c+1⟩∧e.length=102∧e.at 0=V.int .i64 p∧e.at 1=V.isl (rows.map enc)∧e.at 5=V.sl ko uo 0 out.length 1∧e.at 6=V.int .i64 i∧e.at 7=V.sl E.length c 0 own.length 1∧e.at 8=V.int .i64 at_∧e.at 9=V.int .i64 inv∧e.at 10=V.int .i64 k) ?_ ?_ ?_
   ·refine⟨rfl,rfl,?_⟩
    simp only[simprocAttr, -Int.reduceNatCast',R1,hl_1,h0_1,h1_1,h5_1,h6_1]
   ·clear hl_1 h0_1 h1_1 h5_1 h6_1
    rintro k q e h ⟨hq,rfl,hl_1,h0_1,h1_1,h5_1,h6_1,h7_1,h8_1,h9_1,h10_1⟩ hlt2 hw2 s2 ho2;unfold F131_2_B at ho2;obtain⟨x3,gx3,ho2⟩:=bS ho2;obtain⟨x3a,x3b⟩:=qk gx3;obtain⟨m3,gm3,ho2⟩:=bS ho2;have wm3:=qz gm3;obtain⟨z3,gz3,ho2⟩:=bS ho2;obtain⟨wz30,wz3⟩:=rem_w gz3;obtain⟨q2,gq2,ho2⟩:=bS ho2;obtain⟨s31,s32,s33,s34,s35⟩:=jV gq2;have hE:=wA ho2; subst hE;have o3:zd none (List.drop k.toNat (q.map enc))=some (V.int .i64 x3):=qC (by rw[List.getElem?_map,x3b]; rfl);have hk3:k < (own.length:Int):=hlt2;have s35':List.take k.toNat (q.map enc)++[V.int .i64 z3]++List.drop (k.toNat+1) (q.map enc)=List.map enc q2:=s35;simp only[simprocAttr, -Int.reduceNatCast',R1,b131_2,hl_1,h0_1,h1_1,h5_1,h6_1,h7_1,h8_1,h9_1,h10_1,hw2,eq_true hlt2,qF,set_last,x3a,o3,wm3,wz30,wz3,s33,s35'];refine ai rfl ⟨by omega,rfl,?_⟩;simp only[simprocAttr, -Int.reduceNatCast',R1,hl_1,h0_1,h1_1,h5_1,h6_1,h7_1,h8_1,h9_1,h10_1,hw2]
   ·clear hl_1 h0_1 h1_1 h5_1 h6_1
    rintro k q e h ⟨hq,rfl,hl_1,h0_1,h1_1,h5_1,h6_1,h7_1,h8_1,h9_1,h10_1⟩ hge2 t2 ho2;unfold F131_2_D at ho2;have hE:=wA ho2; subst hE;simp only[simprocAttr, -Int.reduceNatCast',R1,b131_2,hl_1,h0_1,h1_1,h5_1,h6_1,h7_1,h8_1,h9_1,h10_1,eq_false hge2,le1];intro ht; subst ht;show W A (.block 4 (.loop true b131_3)) _ _ _;rw[qr];refine qD gs _ rfl (fun k s e h=>∃un vn,h.ents[E.length+1]? =some (un,some vn)∧Rws h.ents (fun k=> k≠E.length+1) vn s.1∧h.ents[E.length]? =some (c,some (q.map enc))∧(∀k,k < E.length→h.ents[k]? =E[k]?)∧e.length=102∧e.at 0=V.int .i64 p∧e.at 1=V.isl (rows.map enc)∧e.at 5=V.sl ko uo 0 out.length 1∧e.at 6=V.int .i64 i∧e.at 7=V.sl E.length c 0 q.length 1∧e.at 8=V.int .i64 at_∧e.at 11=V.sl (E.length+1) un 0 s.1.length 1∧e.at 12=V.bool s.2∧e.at 13=V.int .i64 k) ?_ ?_ ?_
    ·refine⟨c+1,[],ge2b ..,.nil,ge2a ..,fun k hk=> by rw[wR]; exact List.getElem?_append_left hk,?_⟩
     simp only[simprocAttr, -Int.reduceNatCast',R1,hl_1,h0_1,h1_1,h5_1,h6_1,h7_1,h8_1,h9_1,h10_1,hq]
    ·clear hl_1 h0_1 h1_1 h5_1 h6_1 h7_1 h8_1 h9_1 h10_1
     rintro k ⟨nx,put⟩ e ⟨E3,c3⟩ ⟨un,vn,f1,f2,f3,f4,hl_1,h0_1,h1_1,h5_1,h6_1,h7_1,h8_1,h11_1,h12_1,h13_1⟩ hlt3 hw3 s3 ho3;unfold F131_3_B at ho3;simp only at f1 f2 f3 f4 h11_1 h12_1 ho3;obtain⟨cnd,gcnd,ho3⟩:=bS ho3;obtain⟨st,gst,ho3⟩:=bS ho3;obtain⟨o,go,ho3⟩:=bS ho3;obtain⟨oa,ob⟩:=qk go;have oc:=za go;obtain⟨y,gy,ho3⟩:=bS ho3;obtain⟨ya,yb⟩:=qk gy;have yc:=za gy;obtain⟨qq,gqq,ho3⟩:=bS ho3;have wqq:tans A 136 [1] [V.int .i64 p,V.isl (o.map enc),V.isl (q.map enc),V.int .i64 y]=some (V.isl (qq.map enc)):=t136 p o q y gqq;have wbq:=bare_one (α:=Int) qq;obtain⟨nn,gnn,ho3⟩:=bS ho3;have hE:=wA ho3; subst hE;have hN1:E.length+1 < E3.length:=(List.getElem?_eq_some_iff.1 f1).1;have k1:E3[ko]? =some (uo,some vs):=(f4 ko hko).trans g1;obtain⟨v,v1,v2⟩:=g2.get ob;have ov:=qC v1;have oy:zd none (List.drop at_.toNat (o.map enc))=some (V.int .i64 y):=qC (by rw[List.getElem?_map,yb]; rfl);have v3:RRep E3 (fun k=> k < E.length) v o:=v2.frame fun k hk _=>⟨f4 k hk,hk⟩
     -- in any memory that keeps the rows
     have step:∀ (E4:List (Nat×Option (List V))) (c4 un4:Nat) (vn4:List V),E4[E.length+1]? =some (un4,some vn4)→Rws E4 (fun k=> k≠E.length+1) vn4 st.1→E4[E.length]? =some (c,some (q.map enc))→(∀k,k < E.length→E4[k]? =E[k]?)→
       E4[ko]? =some (uo,some vs)∧frz ⟨E4,c4⟩ 16 v=some (V.isl (o.map enc))∧frz ⟨E4,c4⟩ 16 (V.sl E.length c 0 q.length 1)=some (V.isl (q.map enc))∧
       qS 1 24 (.sl (E.length+1) un4 0 st.1.length 1) 1 [V.sl E4.length c4 0 qq.length 1] ⟨E4++[(c4,some (qq.map enc))]++[(c4+1,some [V.sl E4.length c4 0 qq.length 1])],c4+1+1⟩=some (.sl (E.length+1) (c4+1+1) 0 (st.1.length+1) 1,⟨(E4++[(c4,some (qq.map enc))]++[(c4+1,some [V.sl E4.length c4 0 qq.length 1])]).set (E.length+1) (c4+1+1,some (vn4++[V.sl E4.length c4 0 qq.length 1])),c4+1+1+1⟩)∧
       RRep E4 (fun k=> k < E.length) v o∧
       (((E4++[(c4,some (qq.map enc))]++[(c4+1,some [V.sl E4.length c4 0 qq.length 1])]).set (E.length+1) (c4+1+1,some (vn4++[V.sl E4.length c4 0 qq.length 1])))[E.length+1]? =some (c4+1+1,some (vn4++[V.sl E4.length c4 0 qq.length 1]))∧
       Rws ((E4++[(c4,some (qq.map enc))]++[(c4+1,some [V.sl E4.length c4 0 qq.length 1])]).set (E.length+1) (c4+1+1,some (vn4++[V.sl E4.length c4 0 qq.length 1]))) (fun k=> k≠E.length+1) (vn4++[V.sl E4.length c4 0 qq.length 1]) nn∧
       ((E4++[(c4,some (qq.map enc))]++[(c4+1,some [V.sl E4.length c4 0 qq.length 1])]).set (E.length+1) (c4+1+1,some (vn4++[V.sl E4.length c4 0 qq.length 1])))[E.length]? =some (c,some (q.map enc))∧
       (∀k,k < E.length→((E4++[(c4,some (qq.map enc))]++[(c4+1,some [V.sl E4.length c4 0 qq.length 1])]).set (E.length+1) (c4+1+1,some (vn4++[V.sl E4.length c4 0 qq.length 1])))[k]? =E[k]?)∧nn.length=st.1.length+1):=by
      intro E4 c4 un4 vn4 a1 a2 a3 a4;have hN4:E.length+1 < E4.length:=(List.getElem?_eq_some_iff.1 a1).1;obtain⟨p1,p2,rfl⟩:=app_w gnn;have pre:∀x y (k:Nat),k < E4.length→(E4++[x]++[y])[k]? =E4[k]?:=fun x y k hk=> by rw[wR]; exact List.getElem?_append_left hk
      refine⟨(a4 ko hko).trans g1,(v2.frame (B':=fun _=> True) fun k hk _=>⟨a4 k hk,trivial⟩).fz c4 10,frz_row a3,zq (E:=E4++[(c4,some (qq.map enc))]++[(c4+1,some [V.sl E4.length c4 0 qq.length 1])]) ((pre _ _ _ hN4).trans a1) a2.len (by simpa using p1) (by simpa using p2),v2.frame fun k hk _=>⟨a4 k hk,hk⟩,qp (by simp; omega),?_,?_,fun k hk=>?_,by simp⟩
      ·exact(a2.frame fun k hk hne=>⟨(qi hne).trans (pre _ _ k hk),hne⟩).snoc ⟨_,_,rfl,(qi (by omega)).trans (ge2a ..),by omega⟩
      ·exact(qi (by omega)).trans ((pre _ _ _ (by omega)).trans a3)
      ·exact(qi (by omega)).trans ((pre _ _ k (by omega)).trans (a4 k hk))
     have hoc:k < (out.length:Int):=oc;cases put with
     |true=>
      unfold F131_3_C at gcnd;rw[if_pos rfl]at gcnd;cases gcnd;rw[if_neg wE]at gst;cases gst;obtain⟨b1,b2,b3,b4,b5,b6,b7,b8,b9,b10⟩:=step E3 c3 un vn f1 f2 f3 f4;simp only at b4 b10;obtain⟨kv,uv,rfl,w2,w3⟩:=b5;simp only[simprocAttr, -Int.reduceNatCast',R1,b131_3,hl_1,h0_1,h1_1,h5_1,h6_1,h7_1,h8_1,h11_1,h12_1,h13_1,hw3,eq_true hlt3,oa,k1,ov,ya,eq_true yc,oy,w2,b2,b3,wqq,wbq,qE,zb,le1,qF,ge2a,ge2b,b4];refine ai rfl ⟨_,_,b6,b7,b8,b9,?_⟩;simp only[simprocAttr, -Int.reduceNatCast',R1,hl_1,h0_1,h1_1,h5_1,h6_1,h7_1,h8_1,h11_1,h12_1,h13_1,hw3,b10]
     |false=>
      unfold F131_3_C at gcnd;rw[if_neg wE,go,Option.bind_some]at gcnd;obtain⟨ld,gld,gcnd⟩:=bS gcnd;have wld:ans A 81 [V.isl (o.map enc)]=some (V.int .i64 ld):=s81 o gld;have hE:=wA gcnd; subst hE;have wfv:=(v2.frame (E':=E3) (B':=fun _=> True) fun k hk _=>⟨f4 k hk,trivial⟩).fz c3 10;by_cases hld:at_ < ld
      ·rw[if_pos (by simpa using hld)]at gst
       obtain⟨n1,gn1,gst⟩:=bS gst;obtain⟨p1,p2,rfl⟩:=app_w gn1;have hE:=wA gst; subst hE;have wap:qS 1 24 (.sl (E.length+1) un 0 nx.length 1) 1 [V.sl E.length c 0 q.length 1] ⟨E3++[(c3,some [V.sl E.length c 0 q.length 1])],c3+1⟩=_:=zq (E:=E3++[(c3,some [V.sl E.length c 0 q.length 1])]) (by rw[List.getElem?_append_left hN1]; exact f1) f2.len (by simpa using p1) (by simpa using p2);have r1:Rws ((E3++[(c3,some [V.sl E.length c 0 q.length 1])]).set (E.length+1) (c3+1,some (vn++[V.sl E.length c 0 q.length 1]))) (fun k=> k≠E.length+1) (vn++[V.sl E.length c 0 q.length 1]) (nx++[q]):=
        (f2.frame fun k hk hne=>⟨(qi hne).trans (List.getElem?_append_left hk),hne⟩).snoc ⟨_,_,rfl,(qi (by omega)).trans ((List.getElem?_append_left (by omega)).trans f3),by omega⟩
       have hln:(nx++[q]).length=nx.length+1:=by simp
       obtain⟨b1,b2,b3,b4,b5,b6,b7,b8,b9,b10⟩:=step ((E3++[(c3,some [V.sl E.length c 0 q.length 1])]).set (E.length+1) (c3+1,some (vn++[V.sl E.length c 0 q.length 1]))) (c3+1+1) (c3+1) (vn++[V.sl E.length c 0 q.length 1]) (qp (by simp; omega)) r1 ((qi (by omega)).trans ((List.getElem?_append_left (by omega)).trans f3)) (fun k hk=>(qi (by omega)).trans ((List.getElem?_append_left (by omega)).trans (f4 k hk)));have hlb:((E3++[(c3,some [V.sl E.length c 0 q.length 1])]).set (E.length+1) (c3+1,some (vn++[V.sl E.length c 0 q.length 1]))).length=E3.length+1:=by simp
       have hge:=fun y z=> ge2b ((E3++[(c3,some [V.sl E.length c 0 q.length 1])]).set (E.length+1) (c3+1,some (vn++[V.sl E.length c 0 q.length 1]))) y z;simp only[hlb]at hge;simp only[hln,hlb]at b4 b6 b7 b8 b9 b10;obtain⟨kv,uv,rfl,w2,w3⟩:=b5;simp only[simprocAttr, -Int.reduceNatCast',R1,b131_3,hl_1,h0_1,h1_1,h5_1,h6_1,h7_1,h8_1,h11_1,h12_1,h13_1,hw3,eq_true hlt3,oa,k1,ov,wfv,wld,eq_true hld,ya,eq_true yc,oy,w2,b1,b2,b3,wap,wqq,wbq,qE,zb,le1,hlb,hge,qF,ge2a,ge2b,b4];refine ai rfl ⟨_,_,b6,b7,b8,b9,?_⟩;simp only[simprocAttr, -Int.reduceNatCast',R1,hl_1,h0_1,h1_1,h5_1,h6_1,h7_1,h8_1,h11_1,h12_1,h13_1,hw3,b10]
      ·rw[if_neg (by simpa using hld)]at gst
       have hE:=wA gst; subst hE;obtain⟨b1,b2,b3,b4,b5,b6,b7,b8,b9,b10⟩:=step E3 c3 un vn f1 f2 f3 f4;simp only at b4 b10;obtain⟨kv,uv,rfl,w2,w3⟩:=b5;simp only[simprocAttr, -Int.reduceNatCast',R1,b131_3,hl_1,h0_1,h1_1,h5_1,h6_1,h7_1,h8_1,h11_1,h12_1,h13_1,hw3,eq_true hlt3,oa,k1,ov,wfv,wld,eq_false hld,ya,eq_true yc,oy,w2,b2,b3,wqq,wbq,qE,zb,le1,qF,ge2a,ge2b,b4];refine ai rfl ⟨_,_,b6,b7,b8,b9,?_⟩;simp only[simprocAttr, -Int.reduceNatCast',R1,hl_1,h0_1,h1_1,h5_1,h6_1,h7_1,h8_1,h11_1,h12_1,h13_1,hw3,b10]
    ·clear hl_1 h0_1 h1_1 h5_1 h6_1 h7_1 h8_1 h9_1 h10_1
     rintro k ⟨nx,put⟩ e ⟨E3,c3⟩ ⟨un,vn,f1,f2,f3,f4,hl_1,h0_1,h1_1,h5_1,h6_1,h7_1,h8_1,h11_1,h12_1,h13_1⟩ hge3 t3 ho3;unfold F131_3_D at ho3;have hE:=wA ho3; subst hE;simp only at f1 f2 f3 f4 h11_1 h12_1;have hN1:E.length+1 < E3.length:=(List.getElem?_eq_some_iff.1 f1).1;cases put with
     |true=>
      simp only[simprocAttr, -Int.reduceNatCast',R1,b131_3,hl_1,h0_1,h1_1,h5_1,h6_1,h7_1,h8_1,h11_1,h12_1,h13_1,eq_false hge3,hw];intro ht; subst ht;simp only[if_true]at ho;have hE:=wA ho; subst hE;refine ai rfl ⟨E.length+1,un,vn,f1,f2.frame fun k hk _=>⟨rfl,trivial⟩,?_⟩;simp only[simprocAttr, -Int.reduceNatCast',R1,hl_1,h0_1,h1_1,h5_1,h6_1,h7_1,h8_1,h11_1,h12_1,h13_1]
     |false=>
      simp only[simprocAttr, -Int.reduceNatCast',R1,b131_3,hl_1,h0_1,h1_1,h5_1,h6_1,h7_1,h8_1,h11_1,h12_1,h13_1,eq_false hge3,hw,le1,qF];intro ht; subst ht;rw[if_neg wE]at ho;obtain⟨n1,gn1,ho⟩:=bS ho;obtain⟨p1,p2,rfl⟩:=app_w gn1;have hE:=wA ho; subst hE;have wap:qS 1 24 (.sl (E.length+1) un 0 nx.length 1) 1 [V.sl E.length c 0 q.length 1] ⟨E3++[(c3,some [V.sl E.length c 0 q.length 1])],c3+1⟩=_:=zq (E:=E3++[(c3,some [V.sl E.length c 0 q.length 1])]) (by rw[List.getElem?_append_left hN1]; exact f1) f2.len (by simpa using p1) (by simpa using p2);have r1:Rws ((E3++[(c3,some [V.sl E.length c 0 q.length 1])]).set (E.length+1) (c3+1,some (vn++[V.sl E.length c 0 q.length 1]))) (fun k=> k≠E.length+1) (vn++[V.sl E.length c 0 q.length 1]) (nx++[q]):=
       (f2.frame fun k hk hne=>⟨(qi hne).trans (List.getElem?_append_left hk),hne⟩).snoc ⟨_,_,rfl,(qi (by omega)).trans ((List.getElem?_append_left (by omega)).trans f3),by omega⟩
      simp only[simprocAttr, -Int.reduceNatCast',R1,b131_3,hl_1,h0_1,h1_1,h5_1,h6_1,h7_1,h8_1,h11_1,h12_1,h13_1,eq_false hge3,hw,le1,qF,wap];refine ai rfl ⟨E.length+1,c3+1,_,qp (by simp; omega),r1.frame fun k hk _=>⟨rfl,trivial⟩,?_⟩;simp only[simprocAttr, -Int.reduceNatCast',R1,hl_1,h0_1,h1_1,h5_1,h6_1,h7_1,h8_1,h11_1,h12_1,h13_1,wP]
 ·clear hl_0 h0_0 h1_0
  rintro i out e ⟨E,c⟩ ⟨ko,uo,vs,g1,g2,hl_1,h0_1,h1_1,h5_1,h6_1⟩ hge t1 ho;unfold F131_1_D at ho;have hE:=wA ho; subst hE;simp only at g1 g2;simp only[simprocAttr, -Int.reduceNatCast',R1,b131_1,hl_1,h0_1,h1_1,h5_1,h6_1,eq_false hge];intro ht; subst ht;refine ai (fun _=> trivial) ⟨_,?_,ko,uo,vs,rfl,g1,g2⟩;simp only[simprocAttr, -Int.reduceNatCast',R1,qg,p131,Rs.ev,hl_1,h5_1]
theorem s131(p:Int)(rows:List (List Int)){r:List (List Int)}(hF:F131 p rows=some r):ans A 131 [V.int .i64 p,V.isl (rows.map enc)]=some (enc r):=by
 obtain⟨_,h',h1,k,u,vs,rfl,h2,h3⟩:=d131 p rows hF;have:=h3.fz h'.clk h2;unfold ans;rw[h1];exact this
def F122_1_B(a0:Int)(a1:Int)(a2:List (List Int))(v9_1:Int)(s:(List (List Int))×Int):Option (((List (List Int))×Int)⊕((List (List Int))×Int)):=
 match s with
 |(o0_1,v8_1)=>
  (mkL 8 a1 0).bind fun l5=>
  (getI l5 v9_1).bind fun x7=>
  (setI l5 v9_1 1).bind fun l9=>
  (getI a2 v9_1).bind fun x11=>
  (F94 x11).bind fun x13=>
  (app 8 x13 l9).bind fun l16=>
  (app 24 o0_1 [l16]).bind fun l18=>
  some (.inl (l18,(x11.length:Int)))
def F122_1_D(a0:Int)(a1:Int)(a2:List (List Int))(v9_1:Int)(s:(List (List Int))×Int):Option ((List (List Int))×Int):=
 match s with
 |(o0_1,v8_1)=>
  some (o0_1,v8_1)
def xe(zv8_1:Int)(x20:List (List Int))(v13_2:Int)(o1_2:(List (List Int))):Option (((List (List Int)))⊕((List (List Int)))):=
 (getI x20 v13_2).bind fun x26=>
(F81 x26).bind fun x28=>
if zv8_1≤x28 then
 (slI x26 zv8_1 (x26.length:Int)).bind fun l31=>
 (F94 l31).bind fun x33=>
 (app 24 o1_2 [x33]).bind fun l36=>
 some (.inl l36)
else
 some (.inl o1_2)
def xN(zv8_1:Int)(x20:List (List Int))(v13_2:Int)(o1_2:(List (List Int))):Option ((List (List Int))):=
 some o1_2
def F122(a0:Int)(a1:Int)(a2:List (List Int)):Option (List (List Int)):=
 (forR 0 a1 (F122_1_B a0 a1 a2) (F122_1_D a0 a1 a2) ([],0)).bind fun t19=> match t19 with
  |(zo0_1,zv8_1)=>
   (F131 a0 zo0_1).bind fun x20=>
   (forR 0 (x20.length:Int) (xe zv8_1 x20) (xN zv8_1 x20) ([]:(List (List Int)))).bind fun zo1_2=>
   some zo1_2
def I122_1(a0:Int)(a1:Int)(a2:List (List Int))(v9_1:Int)(s:(List (List Int))×Int)(e:Env)(h:Heap):Prop:=
 match s with
 |(o0_1,v8_1)=>
  ∃u2 k3:Nat,h=⟨[(u2,some (o0_1.map enc))],k3⟩∧e.length=68∧e.at 0=V.int .i64 a0∧e.at 1=V.int .i64 a1∧e.at 2=V.isl (a2.map enc)∧e.at 7=V.sl 0 u2 0 o0_1.length 1∧e.at 8=V.int .i64 v8_1∧e.at 9=V.int .i64 v9_1
def P122_1(a0:Int)(a1:Int)(a2:List (List Int))(t:(List (List Int))×Int)(x:Ex)(e:Env)(h:Heap):Prop:=
 match t with
 |(zo0_1,zv8_1)=>
  x= .normal∧∃u2 k3:Nat,h=⟨[(u2,some (zo0_1.map enc))],k3⟩∧e.length=68∧e.at 0=V.int .i64 a0∧e.at 7=V.sl 0 u2 0 zo0_1.length 1∧e.at 8=V.int .i64 zv8_1
theorem l122_1(a0:Int)(a1:Int)(a2:List (List Int)){lo:Int}{s:(List (List Int))×Int}{t:(List (List Int))×Int}(hF:forR lo a1 (F122_1_B a0 a1 a2) (F122_1_D a0 a1 a2) s=some t){e:Env}{h:Heap}(hI:I122_1 a0 a1 a2 lo s e h):W A c122_1 e h (P122_1 a0 a1 a2 t):=by
 show W A (.block 0 (.loop false b122_1)) e h _;rw[qr];refine qD hF 1 (by rcases s with⟨_,_⟩; obtain⟨_,_,rfl,_⟩:=hI; rfl) (I122_1 a0 a1 a2) hI ?_ ?_
 ·rintro v9_1 ⟨o0_1,v8_1⟩ e h ⟨u2,k3,rfl,h_1⟩ hlt hw o ho
  unfold F122_1_B at ho;dsimp only at ho;obtain⟨l5,gl5,ho⟩:=bS ho;obtain⟨w6a,w6b,w6c,w6d,w6e⟩:=mkL_w gl5;replace w6e:(List.replicate (Int.toNat a1) [V.int .i64 0]).flatten=List.map enc l5:=w6e;obtain⟨x7,gx7,ho⟩:=bS ho;obtain⟨w8a,w8b⟩:=qk gx7;have w8c:=za gx7;replace w8c:v9_1 < (((Int.toNat a1):Nat):Int):=by first|exact w8c|(simp only[w6d]at w8c ⊢; exact w8c)
  have w8d:List.drop (Int.toNat v9_1) (l5.map enc)=(V.int .i64 x7)::List.drop ((Int.toNat v9_1)+1) (l5.map enc):=jx w8b;obtain⟨l9,gl9,ho⟩:=bS ho;obtain⟨w10a,w10b,w10c,w10d,w10e⟩:=jV gl9;replace w10e:List.take (Int.toNat v9_1) (l5.map enc)++[V.int .i64 1]++List.drop (Int.toNat v9_1+1) (l5.map enc)=List.map enc l9:=w10e;obtain⟨x11,gx11,ho⟩:=bS ho;obtain⟨w12a,w12b⟩:=qk gx11;obtain⟨x13,gx13,ho⟩:=bS ho;have w14:tans A 94 [1] [V.isl (x11.map enc)]=some (V.isl (x13.map enc)):=t94 x11 gx13;have w14t:=zb (α:=Int) x13;obtain⟨l16,gl16,ho⟩:=bS ho;have w15:=fun a b c d e=> qA (α:=Int) (n:=x13.length) (m:=(Int.toNat a1)) (ds:=List.map enc l9) gl16 (by first|rfl|simp only[w6d,w10d]) (by first|rfl|simp only[w6d,w10d]) rfl a b c d e;have w15l:=qM gl16;obtain⟨l18,gl18,ho⟩:=bS ho;have w17:=fun a b c d e=> qA (α:=List Int) (n:=o0_1.length) (m:=1) (ds:=[V.isl (l16.map enc)]) gl18 (by first|rfl|simp only[w6d,w10d]) (by first|rfl|simp only[w6d,w10d]) rfl a b c d e;have w17l:=qM gl18;cases ho;simp only[simprocAttr, -Int.reduceNatCast',R0,b122_1,h_1,eq_true hlt,hw,w6a,w6b,w6c,w6e,w8a,w8b,w8c,w8d,w10a,w10b,w10c,w10e,w12a,w12b,w14,w14t,take_len (α:=Int) (l:=l9) (n:=(Int.toNat a1)) (by first|rfl|simp only[w6d,w10d]),eq_true (le_of_len (l:=l9) (n:=(Int.toNat a1)) (by first|rfl|simp only[w6d,w10d])),w15,qO (α:=Int) l16,w17];refine ai rfl (ei _ (ei _ (ai rfl ?_)));simp only[simprocAttr, -Int.reduceNatCast',R0,h_1,eq_true hlt,hw,w6a,w6b,w6c,w6e,w8a,w8b,w8c,w8d,w10a,w10b,w10c,w10e,w12a,w12b,w14,w14t,take_len (α:=Int) (l:=l9) (n:=(Int.toNat a1)) (by first|rfl|simp only[w6d,w10d]),eq_true (le_of_len (l:=l9) (n:=(Int.toNat a1)) (by first|rfl|simp only[w6d,w10d])),w15,qO (α:=Int) l16,w17,w6d,w10d]
 ·rintro v9_1 ⟨o0_1,v8_1⟩ e h ⟨u2,k3,rfl,h_1⟩ hge t1 ho
  unfold F122_1_D at ho;dsimp only at ho;cases ho;simp only[simprocAttr, -Int.reduceNatCast',R0,b122_1,h_1,eq_false hge];intro ht; subst ht;refine ai rfl (ei _ (ei _ (ai rfl ?_)));simp only[simprocAttr, -Int.reduceNatCast',R0,h_1,eq_false hge]
theorem d122(a0:Int)(a1:Int)(a2:List (List Int)){r:List (List Int)}(hF:F122 a0 a1 a2=some r):∃v h',res A 122 [V.int .i64 a0,V.int .i64 a1,V.isl (a2.map enc)] Heap.empty=some (v,h')∧∃K,Deep.rep h' v r K:=by
 refine jW (f:=p122) rfl rfl rfl fun e hl he=>?_;have h0_0:e.at 0=V.int .i64 a0:=he 0 _ rfl;have h1_0:e.at 1=V.int .i64 a1:=he 1 _ rfl;have h2_0:e.at 2=V.isl (a2.map enc):=he 2 _ rfl;have hl_0:e.length=68:=hl;clear he hl;show W A b122 e ⟨[],0⟩ _;unfold F122 at hF;obtain⟨⟨zo0_1,zv8_1⟩,gt19,hF⟩:=bS hF;dsimp only at hF;simp only[simprocAttr, -Int.reduceNatCast',R0,b122, *];refine W.mono (l122_1 a0 a1 a2 gt19 (ei _ (ei _ (ai rfl ?_)))) ?_
 ·simp only[simprocAttr, -Int.reduceNatCast',R0, *]
 rintro _ e _ ⟨rfl,u2,k3,rfl,hl_4,h0_4,h7_4,h8_4⟩;obtain⟨x20,gx20,hF⟩:=bS hF;have w21:=s131 a0 zo0_1 gx20;obtain⟨zo1_2,gt37,hF⟩:=bS hF;have hE:=wA hF; subst hE;simp only[simprocAttr, -Int.reduceNatCast',R0,qO (α:=List Int) zo0_1, *];show W A (.block 2 (.loop true b122_2)) _ _ _;rw[qr];refine qD gt37 _ rfl (fun i s e h=>∃v,∃K:Ks,Deep.rep h v s K∧e.length=68∧e.at 8=V.int .i64 zv8_1∧e.at 11=V.isl (x20.map enc)∧e.at 12=v∧e.at 13=V.int .i64 i) ?_ ?_ ?_
 ·refine⟨V.sl 1 k3 0 0 1,fun k=> k=1∨False,rep_at (α:=List Int) (l:=[]) (K:=fun _=> False) (h:=⟨[(0,none),(k3,some [])],k3+1⟩) rfl (fun _ x=> x) (fun x=> x),?_⟩
  simp only[simprocAttr, -Int.reduceNatCast',R0, *]
 ·clear hl_4 h0_4 h7_4 h8_4 hl_0 h0_0 h1_0 h2_0 gt19
  rintro i s e ⟨E,c⟩ ⟨v,K,g1,hl_1,h8_1,h11_1,h12_1,h13_1⟩ hlt hw oo ho;unfold xe at ho;obtain⟨x26,gx26,ho⟩:=bS ho;obtain⟨w27a,w27b⟩:=qk gx26;obtain⟨x28,gx28,ho⟩:=bS ho;have w29:=s81 x26 gx28;by_cases c30:zv8_1≤x28
  ·rw[if_pos c30]at ho
   obtain⟨l31,gl31,ho⟩:=bS ho;have w32:jU 1 (V.isl (x26.map enc)) (some (V.int .i64 zv8_1)) none=some (V.isl (l31.map enc)):=sliceV_w (α:=Int) One.one gl31 (.inr rfl) (.inl ⟨rfl,rfl⟩);obtain⟨x33,gx33,ho⟩:=bS ho;have w34:tans A 94 [1] [V.isl (l31.map enc)]=some (V.isl (x33.map enc)):=t94 l31 gx33;obtain⟨l36,gl36,ho⟩:=bS ho;have hE:=wA ho; subst hE;have pre2:∀ (x y:Nat×Option (List V)) k,k < E.length→(E++[x]++[y])[k]? =E[k]?:=fun x y k q=> by rw[wR]; exact List.getElem?_append_left q
   obtain⟨v',E',c',K',p1,p2,p3,p4,p5⟩:=xw (E:=E++[(c,some (x33.map enc))]++[(c+1,some [V.sl E.length c 0 x33.length 1])]) (c:=c+1+1) (Deep.frame g1 fun k q=> pre2 _ _ k (Deep.bd g1 q)) (jq (l:=x33) (ge2a ..) fun k=> yE) (fun k q e=> by have:=Deep.bd g1 q; simp only at this; omega) gl36;simp only[simprocAttr, -Int.reduceNatCast',R0,b122_2,qE,zb,qF,le1,ge2a,ge2b,p1, *];refine ai rfl ⟨v',K',p2,?_⟩;simp only[simprocAttr, -Int.reduceNatCast',R0, *]
  ·rw[if_neg c30]at ho
   have hE:=wA ho; subst hE;simp only[simprocAttr, -Int.reduceNatCast',R0,b122_2, *];refine ai rfl ⟨v,K,g1,?_⟩;simp only[simprocAttr, -Int.reduceNatCast',R0, *]
 ·clear hl_4 h0_4 h7_4 h8_4 hl_0 h0_0 h1_0 h2_0 gt19
  rintro i s e ⟨E,c⟩ ⟨v,K,g1,hl_1,h8_1,h11_1,h12_1,h13_1⟩ hge t1 ho;unfold xN at ho;have hE:=wA ho; subst hE;simp only[simprocAttr, -Int.reduceNatCast',R0,b122_2, *];intro ht; subst ht;refine ai (fun _=> trivial) ⟨v,?_,K,g1⟩;simp only[simprocAttr, -Int.reduceNatCast',R0,qg,p122,Rs.ev, *]
theorem x122(a0:Int)(a1:Int)(a2:List (List Int)){r:List (List Int)}(hF:F122 a0 a1 a2=some r):tans A 122 [1,1] [V.int .i64 a0,V.int .i64 a1,V.isl (a2.map enc)]=some (enc r):=zK (α:=List (List Int)) (by decide) (d122 a0 a1 a2 hF)
theorem s122(a0:Int)(a1:Int)(a2:List (List Int)){r:List (List Int)}(hF:F122 a0 a1 a2=some r):ans A 122 [V.int .i64 a0,V.int .i64 a1,V.isl (a2.map enc)]=some (enc r):=xI (α:=List (List Int)) (by decide) (d122 a0 a1 a2 hF)
def F310_1_S(a0:qd)(a1:Int)(a2:Int)(s:(List Int)×Int):Option (((List Int)×Int)⊕((List Int))):=
 match s with
 |(o1_1,v8_1)=>
  (F99 a0.Complex a1).bind fun x5=>
  if v8_1 < x5 then
   (F77 a0 a1 v8_1).bind fun x8=>
   if x8≤a2 then
    (app 8 o1_1 [v8_1]).bind fun l12=>
    (chk (v8_1+1)).bind fun x13=>
    some (.inl (l12,x13))
   else
    (chk (v8_1+1)).bind fun x14=>
    some (.inl (o1_1,x14))
  else
   some (.inr o1_1)
def F310(a0:qd)(a1:Int)(a2:Int):Option (List Int):=
 (qV (F310_1_S a0 a1 a2) ([],0)).bind fun zo1_1=>
 some zo1_1
def I310_1(a0:qd)(a1:Int)(a2:Int)(s:(List Int)×Int)(e:Env)(h:Heap):Prop:=
 match s with
 |(o1_1,v8_1)=>
  ∃u2 k3:Nat,h=⟨[(0,none),(u2,some (o1_1.map enc))],k3⟩∧e.length=29∧e.at 1=V.int .i64 a1∧e.at 2=V.int .i64 a2∧e.at 3=V.iptr [V.int .i64 a0.Complex.Prime,V.isl (a0.Complex.Dims.map enc),V.isl (a0.Complex.Maps.map enc),V.isl (a0.Levels.map enc)]∧e.at 7=V.sl 1 u2 0 o1_1.length 1∧e.at 8=V.int .i64 v8_1
def P310_1(a0:qd)(a1:Int)(a2:Int)(zo1_1:(List Int))(x:Ex)(e:Env)(h:Heap):Prop:=
 x= .normal∧∃u2 k3:Nat,h=⟨[(0,none),(u2,some (zo1_1.map enc))],k3⟩∧e.length=29∧e.at 7=V.sl 1 u2 0 zo1_1.length 1
theorem l310_1(a0:qd)(a1:Int)(a2:Int){s:(List Int)×Int}{t:(List Int)}(hF:qV (F310_1_S a0 a1 a2) s=some t){e:Env}{h:Heap}(hI:I310_1 a0 a1 a2 s e h):W A c310_1 e h (P310_1 a0 a1 a2 t):=by
 show W A (.block 0 (.loop false b310_1)) e h _;rw[qr];refine jh hF 2 (by rcases s with⟨_,_⟩; obtain⟨_,_,rfl,_⟩:=hI; rfl) (I310_1 a0 a1 a2) hI ?_
 ·rintro⟨o1_1,v8_1⟩ e h ⟨u2,k3,rfl,h_1⟩ o ho
  unfold F310_1_S at ho;dsimp only at ho;obtain⟨x5,gx5,ho⟩:=bS ho;have w6:=s99 a0.Complex a1 gx5;by_cases c7:v8_1 < x5
  ·rw[if_pos c7]at ho
   obtain⟨x8,gx8,ho⟩:=bS ho;have w9:=s77 a0 a1 v8_1 gx8;by_cases c10:x8≤a2
   ·rw[if_pos c10]at ho
    obtain⟨l12,gl12,ho⟩:=bS ho;have w11:=fun a b c d e=> qA (α:=Int) (n:=o1_1.length) (m:=1) (ds:=[V.int .i64 v8_1]) gl12 (by first|rfl|simp) (by first|rfl|simp) rfl a b c d e;have w11l:=qM gl12;obtain⟨x13,gx13,ho⟩:=bS ho;have wx13:=qz gx13;cases ho;simp only[simprocAttr,R0,b310_1, *];refine ai rfl (ei _ (ei _ (ai rfl ?_)));simp only[simprocAttr,R0, *]
   ·rw[if_neg c10]at ho
    obtain⟨x14,gx14,ho⟩:=bS ho;have wx14:=qz gx14;cases ho;simp only[simprocAttr,R0,b310_1, *];refine ai rfl (ei _ (ei _ (ai rfl ?_)));simp only[simprocAttr,R0, *]
  ·rw[if_neg c7]at ho
   cases ho;simp only[simprocAttr,R0,b310_1, *];intro ht; subst ht;simp only[simprocAttr,RR,RB];refine ai rfl (ei _ (ei _ (ai rfl ?_)));simp only[simprocAttr,R0, *]
theorem s310(a0:qd)(a1:Int)(a2:Int){r:List Int}(hF:F310 a0 a1 a2=some r):ans A 310 [(eF a0),V.int .i64 a1,V.int .i64 a2]=some (enc r):=by
 refine qw (f:=p310) rfl rfl rfl fun e hl he=>?_;have h0_0:e.at 0=(eF a0):=he 0 _ rfl;have h1_0:e.at 1=V.int .i64 a1:=he 1 _ rfl;have h2_0:e.at 2=V.int .i64 a2:=he 2 _ rfl;have hl_0:e.length=29:=hl;clear he hl;show W A b310 e ⟨[],0⟩ _;unfold F310 at hF;obtain⟨zo1_1,gt15,hF⟩:=bS hF;simp only[simprocAttr, -Int.reduceNatCast',R0,b310, *];refine W.mono (l310_1 a0 a1 a2 gt15 (ei _ (ei _ (ai rfl ?_)))) ?_
 ·simp only[simprocAttr, -Int.reduceNatCast',R0, *]
 rintro _ e _ ⟨rfl,u2,k3,rfl,hl_4,h7_4⟩;have hE:=wA hF; subst hE;simp only[simprocAttr, -Int.reduceNatCast',R0, *];exact qf (by simp only[simprocAttr, -Int.reduceNatCast',R0,qg,p310,Rs.ev,qc,frzs (α:=Int) zo1_1,qO (α:=Int) zo1_1, *])
def F311_2_B(a0:List (List Int))(a1:List Int)(a2:Int)(o0_1:List (List Int))(v8_1:Int)(v10_2:Int)(o1_2:(List Int)):Option (((List Int))⊕((List Int))):=
 (getI a1 v10_2).bind fun x11=>
(getI a0 v8_1).bind fun x13=>
(getI x13 v10_2).bind fun x15=>
(getI o1_2 x11).bind fun x17=>
(setI o1_2 x11 x15).bind fun l19=>
some (.inl l19)
def F311_2_D(a0:List (List Int))(a1:List Int)(a2:Int)(o0_1:List (List Int))(v8_1:Int)(v10_2:Int)(o1_2:(List Int)):Option ((List Int)):=
 some o1_2
def F311_1_B(a0:List (List Int))(a1:List Int)(a2:Int)(v8_1:Int)(o0_1:(List (List Int))):Option (((List (List Int)))⊕((List (List Int)))):=
 (mkL 8 a2 0).bind fun l5=>
(forR 0 (a1.length:Int) (F311_2_B a0 a1 a2 o0_1 v8_1) (F311_2_D a0 a1 a2 o0_1 v8_1) l5).bind fun zo1_2=>
(app 24 o0_1 [zo1_2]).bind fun l23=>
some (.inl l23)
def F311_1_D(a0:List (List Int))(a1:List Int)(a2:Int)(v8_1:Int)(o0_1:(List (List Int))):Option ((List (List Int))):=
 some o0_1
def F311(a0:List (List Int))(a1:List Int)(a2:Int):Option (List (List Int)):=
 (forR 0 (a0.length:Int) (F311_1_B a0 a1 a2) (F311_1_D a0 a1 a2) ([]:(List (List Int)))).bind fun zo0_1=>
 some zo0_1
def I311_2(a0:List (List Int))(a1:List Int)(a2:Int)(o0_1:List (List Int))(v8_1:Int)(u2:Nat)(v10_2:Int)(o1_2:(List Int))(e:Env)(h:Heap):Prop:=
 ∃u8 k9:Nat,h=⟨[(u2,some (o0_1.map enc)),(u8,some (o1_2.map enc))],k9⟩∧e.length=44∧e.at 0=V.isl (a0.map enc)∧e.at 1=V.isl (a1.map enc)∧e.at 2=V.int .i64 a2∧e.at 7=V.sl 0 u2 0 o0_1.length 1∧e.at 8=V.int .i64 v8_1∧e.at 9=V.sl 1 u8 0 o1_2.length 1∧e.at 10=V.int .i64 v10_2
def P311_2(a0:List (List Int))(a1:List Int)(a2:Int)(o0_1:List (List Int))(v8_1:Int)(u2:Nat)(zo1_2:(List Int))(x:Ex)(e:Env)(h:Heap):Prop:=
 x= .normal∧∃u8 k9:Nat,h=⟨[(u2,some (o0_1.map enc)),(u8,some (zo1_2.map enc))],k9⟩∧e.length=44∧e.at 0=V.isl (a0.map enc)∧e.at 1=V.isl (a1.map enc)∧e.at 2=V.int .i64 a2∧e.at 7=V.sl 0 u2 0 o0_1.length 1∧e.at 8=V.int .i64 v8_1∧e.at 9=V.sl 1 u8 0 zo1_2.length 1
theorem l311_2(a0:List (List Int))(a1:List Int)(a2:Int)(o0_1:List (List Int))(v8_1:Int)(u2:Nat){lo:Int}{s:(List Int)}{t:(List Int)}(hF:forR lo (a1.length:Int) (F311_2_B a0 a1 a2 o0_1 v8_1) (F311_2_D a0 a1 a2 o0_1 v8_1) s=some t){e:Env}{h:Heap}(hI:I311_2 a0 a1 a2 o0_1 v8_1 u2 lo s e h):W A c311_2 e h (P311_2 a0 a1 a2 o0_1 v8_1 u2 t):=by
 show W A (.block 2 (.loop false b311_2)) e h _;rw[qr];refine qD hF 2 (by obtain⟨_,_,rfl,_⟩:=hI; rfl) (I311_2 a0 a1 a2 o0_1 v8_1 u2) hI ?_ ?_
 ·rintro v10_2 o1_2 e h ⟨u8,k9,rfl,h_7⟩ hlt hw o ho
  unfold F311_2_B at ho;obtain⟨x11,gx11,ho⟩:=bS ho;obtain⟨w12a,w12b⟩:=qk gx11;obtain⟨x13,gx13,ho⟩:=bS ho;obtain⟨w14a,w14b⟩:=qk gx13;obtain⟨x15,gx15,ho⟩:=bS ho;obtain⟨w16a,w16b⟩:=qk gx15;obtain⟨x17,gx17,ho⟩:=bS ho;obtain⟨w18a,w18b⟩:=qk gx17;have w18c:=za gx17;have w18d:List.drop (Int.toNat x11) (o1_2.map enc)=(V.int .i64 x17)::List.drop ((Int.toNat x11)+1) (o1_2.map enc):=jx w18b;obtain⟨l19,gl19,ho⟩:=bS ho;obtain⟨w20a,w20b,w20c,w20d,w20e⟩:=jV gl19;replace w20e:List.take (Int.toNat x11) (o1_2.map enc)++[V.int .i64 x15]++List.drop (Int.toNat x11+1) (o1_2.map enc)=List.map enc l19:=w20e;cases ho;simp only[simprocAttr,R0,b311_2, *];refine ai rfl (ei _ (ei _ (ai rfl ?_)));simp only[simprocAttr,R0, *]
 ·rintro v10_2 o1_2 e h ⟨u8,k9,rfl,h_7⟩ hge t1 ho
  unfold F311_2_D at ho;cases ho;simp only[simprocAttr,R0,b311_2, *];intro ht; subst ht;refine ai rfl (ei _ (ei _ (ai rfl ?_)));simp only[simprocAttr,R0, *]
def I311_1(a0:List (List Int))(a1:List Int)(a2:Int)(v8_1:Int)(o0_1:(List (List Int)))(e:Env)(h:Heap):Prop:=
 ∃u2 k3:Nat,h=⟨[(u2,some (o0_1.map enc))],k3⟩∧e.length=44∧e.at 0=V.isl (a0.map enc)∧e.at 1=V.isl (a1.map enc)∧e.at 2=V.int .i64 a2∧e.at 7=V.sl 0 u2 0 o0_1.length 1∧e.at 8=V.int .i64 v8_1
def P311_1(a0:List (List Int))(a1:List Int)(a2:Int)(zo0_1:(List (List Int)))(x:Ex)(e:Env)(h:Heap):Prop:=
 x= .normal∧∃u2 k3:Nat,h=⟨[(u2,some (zo0_1.map enc))],k3⟩∧e.length=44∧e.at 7=V.sl 0 u2 0 zo0_1.length 1
theorem l311_1(a0:List (List Int))(a1:List Int)(a2:Int){lo:Int}{s:(List (List Int))}{t:(List (List Int))}(hF:forR lo (a0.length:Int) (F311_1_B a0 a1 a2) (F311_1_D a0 a1 a2) s=some t){e:Env}{h:Heap}(hI:I311_1 a0 a1 a2 lo s e h):W A c311_1 e h (P311_1 a0 a1 a2 t):=by
 show W A (.block 0 (.loop false b311_1)) e h _;rw[qr];refine qD hF 1 (by obtain⟨_,_,rfl,_⟩:=hI; rfl) (I311_1 a0 a1 a2) hI ?_ ?_
 ·rintro v8_1 o0_1 e h ⟨u2,k3,rfl,h_1⟩ hlt hw o ho
  unfold F311_1_B at ho;obtain⟨l5,gl5,ho⟩:=bS ho;obtain⟨w6a,w6b,w6c,w6d,w6e⟩:=mkL_w gl5;replace w6e:(List.replicate (Int.toNat a2) [V.int .i64 0]).flatten=List.map enc l5:=w6e;obtain⟨zo1_2,gt21,ho⟩:=bS ho;simp only[simprocAttr, -Int.reduceNatCast',R0,b311_1, *];refine W.mono (l311_2 a0 a1 a2 o0_1 v8_1 u2 gt21 (ei _ (ei _ (ai rfl ?_)))) ?_
  ·simp only[simprocAttr, -Int.reduceNatCast',R0, *]
  rintro _ e _ ⟨rfl,u8,k9,rfl,h_10⟩;obtain⟨l23,gl23,ho⟩:=bS ho;have w22:=fun a b c d e=> qA (α:=List Int) (n:=o0_1.length) (m:=1) (ds:=[V.isl (zo1_2.map enc)]) gl23 (by first|rfl|simp) (by first|rfl|simp) rfl a b c d e;have w22l:=qM gl23;cases ho;simp only[simprocAttr, -Int.reduceNatCast',R0,qO (α:=Int) zo1_2, *];refine ai rfl (ei _ (ei _ (ai rfl ?_)));simp only[simprocAttr, -Int.reduceNatCast',R0,qO (α:=Int) zo1_2, *]
 ·rintro v8_1 o0_1 e h ⟨u2,k3,rfl,h_1⟩ hge t1 ho
  unfold F311_1_D at ho;cases ho;simp only[simprocAttr, -Int.reduceNatCast',R0,b311_1, *];intro ht; subst ht;refine ai rfl (ei _ (ei _ (ai rfl ?_)));simp only[simprocAttr, -Int.reduceNatCast',R0, *]
theorem s311(a0:List (List Int))(a1:List Int)(a2:Int){r:List (List Int)}(hF:F311 a0 a1 a2=some r):ans A 311 [V.isl (a0.map enc),V.isl (a1.map enc),V.int .i64 a2]=some (enc r):=by
 refine qw (f:=p311) rfl rfl rfl fun e hl he=>?_;have h0_0:e.at 0=V.isl (a0.map enc):=he 0 _ rfl;have h1_0:e.at 1=V.isl (a1.map enc):=he 1 _ rfl;have h2_0:e.at 2=V.int .i64 a2:=he 2 _ rfl;have hl_0:e.length=44:=hl;clear he hl;show W A b311 e ⟨[],0⟩ _;unfold F311 at hF;obtain⟨zo0_1,gt24,hF⟩:=bS hF;simp only[simprocAttr, -Int.reduceNatCast',R0,b311, *];refine W.mono (l311_1 a0 a1 a2 gt24 (ei _ (ei _ (ai rfl ?_)))) ?_
 ·simp only[simprocAttr, -Int.reduceNatCast',R0, *]
 rintro _ e _ ⟨rfl,u2,k3,rfl,hl_4,h7_4⟩;have hE:=wA hF; subst hE;simp only[simprocAttr, -Int.reduceNatCast',R0, *];exact qf (by simp only[simprocAttr, -Int.reduceNatCast',R0,qg,p311,Rs.ev,qc,frzs (α:=List Int) zo0_1,qO (α:=List Int) zo0_1, *])
def F280_2_S(a0:qd)(a1:Int)(a2:Int)(a3:Int)(x1:Int)(x3:List Int)(x5:List (List Int))(o1_1:List (List Int))(v14_1:Int)(s:(List Int)×Int):Option (((List Int)×Int)⊕((List Int))):=
 match s with
 |(o2_2,v16_2)=>
  if 0 < a2 then
   (chk (a2 - 1)).bind fun x16=>
   (F99 a0.Complex x16).bind fun x17=>
   if v16_2 < x17 then
    (F77 a0 x16 v16_2).bind fun x20=>
    (chk (a3 - a1)).bind fun x22=>
    if x22 < x20 then
     (getI x3 v14_1).bind fun x24=>
     (getI x5 x24).bind fun x26=>
     (getI x26 v16_2).bind fun x28=>
     (app 8 o2_2 [x28]).bind fun l31=>
     (chk (v16_2+1)).bind fun x32=>
     some (.inl (l31,x32))
    else
     (chk (v16_2+1)).bind fun x33=>
     some (.inl (o2_2,x33))
   else
    some (.inr o2_2)
  else
   some (.inr o2_2)
def F280_1_B(a0:qd)(a1:Int)(a2:Int)(a3:Int)(x1:Int)(x3:List Int)(x5:List (List Int))(v14_1:Int)(o1_1:(List (List Int))):Option (((List (List Int)))⊕((List (List Int)))):=
 (qV (F280_2_S a0 a1 a2 a3 x1 x3 x5 o1_1 v14_1) ([],0)).bind fun zo2_2=>
(app 24 o1_1 [zo2_2]).bind fun l36=>
some (.inl l36)
def F280_1_D(a0:qd)(a1:Int)(a2:Int)(a3:Int)(x1:Int)(x3:List Int)(x5:List (List Int))(v14_1:Int)(o1_1:(List (List Int))):Option ((List (List Int))):=
 some o1_1
def F280(a0:qd)(a1:Int)(a2:Int)(a3:Int):Option (List (List Int)):=
 (F99 a0.Complex a2).bind fun x1=>
 (F310 a0 a2 a3).bind fun x3=>
 (F76 a0.Complex a2).bind fun x5=>
 (forR 0 (x3.length:Int) (F280_1_B a0 a1 a2 a3 x1 x3 x5) (F280_1_D a0 a1 a2 a3 x1 x3 x5) ([]:(List (List Int)))).bind fun zo1_1=>
 (F122 a0.Complex.Prime (x3.length:Int) zo1_1).bind fun x38=>
 (F311 x38 x3 x1).bind fun x40=>
 (F131 a0.Complex.Prime x40).bind fun x42=>
 some x42
def I280_2(a0:qd)(a1:Int)(a2:Int)(a3:Int)(x1:Int)(x3:List Int)(x5:List (List Int))(o1_1:List (List Int))(v14_1:Int)(u8:Nat)(s:(List Int)×Int)(e:Env)(h:Heap):Prop:=
 match s with
 |(o2_2,v16_2)=>
  ∃u12 k13:Nat,h=⟨[(0,none),(u8,some (o1_1.map enc)),(u12,some (o2_2.map enc))],k13⟩∧e.length=89∧e.at 1=V.int .i64 a1∧e.at 2=V.int .i64 a2∧e.at 3=V.int .i64 a3∧e.at 4=V.iptr [V.int .i64 a0.Complex.Prime,V.isl (a0.Complex.Dims.map enc),V.isl (a0.Complex.Maps.map enc),V.isl (a0.Levels.map enc)]∧e.at 9=V.int .i64 a0.Complex.Prime∧e.at 10=V.int .i64 x1∧e.at 11=V.isl (x3.map enc)∧e.at 12=V.isl (x5.map enc)∧e.at 13=V.sl 1 u8 0 o1_1.length 1∧e.at 14=V.int .i64 v14_1∧e.at 15=V.sl 2 u12 0 o2_2.length 1∧e.at 16=V.int .i64 v16_2
def P280_2(a0:qd)(a1:Int)(a2:Int)(a3:Int)(x1:Int)(x3:List Int)(x5:List (List Int))(o1_1:List (List Int))(v14_1:Int)(u8:Nat)(zo2_2:(List Int))(x:Ex)(e:Env)(h:Heap):Prop:=
 x= .normal∧∃u12 k13:Nat,h=⟨[(0,none),(u8,some (o1_1.map enc)),(u12,some (zo2_2.map enc))],k13⟩∧e.length=89∧e.at 1=V.int .i64 a1∧e.at 2=V.int .i64 a2∧e.at 3=V.int .i64 a3∧e.at 4=V.iptr [V.int .i64 a0.Complex.Prime,V.isl (a0.Complex.Dims.map enc),V.isl (a0.Complex.Maps.map enc),V.isl (a0.Levels.map enc)]∧e.at 9=V.int .i64 a0.Complex.Prime∧e.at 10=V.int .i64 x1∧e.at 11=V.isl (x3.map enc)∧e.at 12=V.isl (x5.map enc)∧e.at 13=V.sl 1 u8 0 o1_1.length 1∧e.at 14=V.int .i64 v14_1∧e.at 15=V.sl 2 u12 0 zo2_2.length 1
theorem l280_2(a0:qd)(a1:Int)(a2:Int)(a3:Int)(x1:Int)(x3:List Int)(x5:List (List Int))(o1_1:List (List Int))(v14_1:Int)(u8:Nat){s:(List Int)×Int}{t:(List Int)}(hF:qV (F280_2_S a0 a1 a2 a3 x1 x3 x5 o1_1 v14_1) s=some t){e:Env}{h:Heap}(hI:I280_2 a0 a1 a2 a3 x1 x3 x5 o1_1 v14_1 u8 s e h):W A c280_2 e h (P280_2 a0 a1 a2 a3 x1 x3 x5 o1_1 v14_1 u8 t):=by
 show W A (.block 2 (.loop false b280_2)) e h _;rw[qr];refine jh hF 3 (by rcases s with⟨_,_⟩; obtain⟨_,_,rfl,_⟩:=hI; rfl) (I280_2 a0 a1 a2 a3 x1 x3 x5 o1_1 v14_1 u8) hI ?_
 ·rintro⟨o2_2,v16_2⟩ e h ⟨u12,k13,rfl,h_11⟩ o ho
  unfold F280_2_S at ho;dsimp only at ho;by_cases c15:0 < a2
  ·rw[if_pos c15]at ho
   obtain⟨x16,gx16,ho⟩:=bS ho;have wx16:=qz gx16;obtain⟨x17,gx17,ho⟩:=bS ho;have w18:=s99 a0.Complex x16 gx17;by_cases c19:v16_2 < x17
   ·rw[if_pos c19]at ho
    obtain⟨x20,gx20,ho⟩:=bS ho;have w21:=s77 a0 x16 v16_2 gx20;obtain⟨x22,gx22,ho⟩:=bS ho;have wx22:=qz gx22;by_cases c23:x22 < x20
    ·rw[if_pos c23]at ho
     obtain⟨x24,gx24,ho⟩:=bS ho;obtain⟨w25a,w25b⟩:=qk gx24;obtain⟨x26,gx26,ho⟩:=bS ho;obtain⟨w27a,w27b⟩:=qk gx26;obtain⟨x28,gx28,ho⟩:=bS ho;obtain⟨w29a,w29b⟩:=qk gx28;obtain⟨l31,gl31,ho⟩:=bS ho;have w30:=fun a b c d e=> qA (α:=Int) (n:=o2_2.length) (m:=1) (ds:=[V.int .i64 x28]) gl31 (by first|rfl|simp) (by first|rfl|simp) rfl a b c d e;have w30l:=qM gl31;obtain⟨x32,gx32,ho⟩:=bS ho;have wx32:=qz gx32;cases ho;simp only[simprocAttr,R0,b280_2, *];refine ai rfl (ei _ (ei _ (ai rfl ?_)));simp only[simprocAttr,R0, *]
    ·rw[if_neg c23]at ho
     obtain⟨x33,gx33,ho⟩:=bS ho;have wx33:=qz gx33;cases ho;simp only[simprocAttr,R0,b280_2, *];refine ai rfl (ei _ (ei _ (ai rfl ?_)));simp only[simprocAttr,R0, *]
   ·rw[if_neg c19]at ho
    cases ho;simp only[simprocAttr,R0,b280_2, *];intro ht; subst ht;simp only[simprocAttr,RR,RB];refine ai rfl (ei _ (ei _ (ai rfl ?_)));simp only[simprocAttr,R0, *]
  ·rw[if_neg c15]at ho
   cases ho;simp only[simprocAttr,R0,b280_2, *];intro ht; subst ht;simp only[simprocAttr,RR,RB];refine ai rfl (ei _ (ei _ (ai rfl ?_)));simp only[simprocAttr,R0, *]
def I280_1(a0:qd)(a1:Int)(a2:Int)(a3:Int)(x1:Int)(x3:List Int)(x5:List (List Int))(v14_1:Int)(o1_1:(List (List Int)))(e:Env)(h:Heap):Prop:=
 ∃u8 k9:Nat,h=⟨[(0,none),(u8,some (o1_1.map enc))],k9⟩∧e.length=89∧e.at 1=V.int .i64 a1∧e.at 2=V.int .i64 a2∧e.at 3=V.int .i64 a3∧e.at 4=V.iptr [V.int .i64 a0.Complex.Prime,V.isl (a0.Complex.Dims.map enc),V.isl (a0.Complex.Maps.map enc),V.isl (a0.Levels.map enc)]∧e.at 9=V.int .i64 a0.Complex.Prime∧e.at 10=V.int .i64 x1∧e.at 11=V.isl (x3.map enc)∧e.at 12=V.isl (x5.map enc)∧e.at 13=V.sl 1 u8 0 o1_1.length 1∧e.at 14=V.int .i64 v14_1
def P280_1(a0:qd)(a1:Int)(a2:Int)(a3:Int)(x1:Int)(x3:List Int)(x5:List (List Int))(zo1_1:(List (List Int)))(x:Ex)(e:Env)(h:Heap):Prop:=
 x= .normal∧∃u8 k9:Nat,h=⟨[(0,none),(u8,some (zo1_1.map enc))],k9⟩∧e.length=89∧e.at 9=V.int .i64 a0.Complex.Prime∧e.at 10=V.int .i64 x1∧e.at 11=V.isl (x3.map enc)∧e.at 13=V.sl 1 u8 0 zo1_1.length 1
theorem l280_1(a0:qd)(a1:Int)(a2:Int)(a3:Int)(x1:Int)(x3:List Int)(x5:List (List Int)){lo:Int}{s:(List (List Int))}{t:(List (List Int))}(hF:forR lo (x3.length:Int) (F280_1_B a0 a1 a2 a3 x1 x3 x5) (F280_1_D a0 a1 a2 a3 x1 x3 x5) s=some t){e:Env}{h:Heap}(hI:I280_1 a0 a1 a2 a3 x1 x3 x5 lo s e h):W A c280_1 e h (P280_1 a0 a1 a2 a3 x1 x3 x5 t):=by
 show W A (.block 0 (.loop false b280_1)) e h _;rw[qr];refine qD hF 2 (by obtain⟨_,_,rfl,_⟩:=hI; rfl) (I280_1 a0 a1 a2 a3 x1 x3 x5) hI ?_ ?_
 ·rintro v14_1 o1_1 e h ⟨u8,k9,rfl,h_7⟩ hlt hw o ho
  unfold F280_1_B at ho;obtain⟨zo2_2,gt34,ho⟩:=bS ho;simp only[simprocAttr,R0,b280_1, *];refine W.mono (l280_2 a0 a1 a2 a3 x1 x3 x5 o1_1 v14_1 u8 gt34 (ei _ (ei _ (ai rfl ?_)))) ?_
  ·simp only[simprocAttr,R0, *]
  rintro _ e _ ⟨rfl,u12,k13,rfl,h_14⟩;obtain⟨l36,gl36,ho⟩:=bS ho;have w35:=fun a b c d e=> qA (α:=List Int) (n:=o1_1.length) (m:=1) (ds:=[V.isl (zo2_2.map enc)]) gl36 (by first|rfl|simp) (by first|rfl|simp) rfl a b c d e;have w35l:=qM gl36;cases ho;simp only[simprocAttr,R0,qO (α:=Int) zo2_2, *];refine ai rfl (ei _ (ei _ (ai rfl ?_)));simp only[simprocAttr,R0,qO (α:=Int) zo2_2, *]
 ·rintro v14_1 o1_1 e h ⟨u8,k9,rfl,h_7⟩ hge t1 ho
  unfold F280_1_D at ho;cases ho;simp only[simprocAttr,R0,b280_1, *];intro ht; subst ht;refine ai rfl (ei _ (ei _ (ai rfl ?_)));simp only[simprocAttr,R0, *]
theorem s280(a0:qd)(a1:Int)(a2:Int)(a3:Int){r:List (List Int)}(hF:F280 a0 a1 a2 a3=some r):ans A 280 [(eF a0),V.int .i64 a1,V.int .i64 a2,V.int .i64 a3]=some (enc r):=by
 refine qw (f:=p280) rfl rfl rfl fun e hl he=>?_;have h0_0:e.at 0=(eF a0):=he 0 _ rfl;have h1_0:e.at 1=V.int .i64 a1:=he 1 _ rfl;have h2_0:e.at 2=V.int .i64 a2:=he 2 _ rfl;have h3_0:e.at 3=V.int .i64 a3:=he 3 _ rfl;have hl_0:e.length=89:=hl;clear he hl;show W A b280 e ⟨[],0⟩ _;unfold F280 at hF;obtain⟨x1,gx1,hF⟩:=bS hF;have w2:=s99 a0.Complex a2 gx1;obtain⟨x3,gx3,hF⟩:=bS hF;have w4:=s310 a0 a2 a3 gx3;obtain⟨x5,gx5,hF⟩:=bS hF;have w6:=s76 a0.Complex a2 gx5;obtain⟨zo1_1,gt37,hF⟩:=bS hF;simp only[simprocAttr,R0,b280, *];refine W.mono (l280_1 a0 a1 a2 a3 x1 x3 x5 gt37 (ei _ (ei _ (ai rfl ?_)))) ?_
 ·simp only[simprocAttr,R0, *]
 rintro _ e _ ⟨rfl,u8,k9,rfl,h_10⟩;obtain⟨x38,gx38,hF⟩:=bS hF;have w39:=s122 a0.Complex.Prime (x3.length:Int) zo1_1 gx38;obtain⟨x40,gx40,hF⟩:=bS hF;have w41:=s311 x38 x3 x1 gx40;obtain⟨x42,gx42,hF⟩:=bS hF;have w43:=s131 a0.Complex.Prime x40 gx42;cases hF;simp only[simprocAttr,R0,qO (α:=List Int) zo1_1, *];exact qf (by simp only[simprocAttr,R0,qg,p280,Rs.ev,qc,qO (α:=List Int) zo1_1, *])
def F281_1_B(a0:qd)(a1:Int)(a2:List (List Int))(v8_1:Int)(o1_1:(List (List Int))):Option (((List (List Int)))⊕((List (List Int)))):=
 (F76 a0.Complex a1).bind fun x5=>
(getI a2 v8_1).bind fun x7=>
(chk (a1 - 1)).bind fun x9=>
(F99 a0.Complex x9).bind fun x10=>
(F80 a0.Complex.Prime x5 x7 x10).bind fun x12=>
(app 24 o1_1 [x12]).bind fun l15=>
some (.inl l15)
def F281_1_D(a0:qd)(a1:Int)(a2:List (List Int))(v8_1:Int)(o1_1:(List (List Int))):Option ((List (List Int))):=
 some o1_1
def F281(a0:qd)(a1:Int)(a2:List (List Int)):Option (List (List Int)):=
 (forR 0 (a2.length:Int) (F281_1_B a0 a1 a2) (F281_1_D a0 a1 a2) ([]:(List (List Int)))).bind fun zo1_1=>
 some zo1_1
def I281_1(a0:qd)(a1:Int)(a2:List (List Int))(v8_1:Int)(o1_1:(List (List Int)))(e:Env)(h:Heap):Prop:=
 ∃u2 k3:Nat,h=⟨[(0,none),(u2,some (o1_1.map enc))],k3⟩∧e.length=37∧e.at 1=V.int .i64 a1∧e.at 2=V.isl (a2.map enc)∧e.at 3=V.iptr [V.int .i64 a0.Complex.Prime,V.isl (a0.Complex.Dims.map enc),V.isl (a0.Complex.Maps.map enc),V.isl (a0.Levels.map enc)]∧e.at 7=V.sl 1 u2 0 o1_1.length 1∧e.at 8=V.int .i64 v8_1
def P281_1(a0:qd)(a1:Int)(a2:List (List Int))(zo1_1:(List (List Int)))(x:Ex)(e:Env)(h:Heap):Prop:=
 x= .normal∧∃u2 k3:Nat,h=⟨[(0,none),(u2,some (zo1_1.map enc))],k3⟩∧e.length=37∧e.at 7=V.sl 1 u2 0 zo1_1.length 1
theorem l281_1(a0:qd)(a1:Int)(a2:List (List Int)){lo:Int}{s:(List (List Int))}{t:(List (List Int))}(hF:forR lo (a2.length:Int) (F281_1_B a0 a1 a2) (F281_1_D a0 a1 a2) s=some t){e:Env}{h:Heap}(hI:I281_1 a0 a1 a2 lo s e h):W A c281_1 e h (P281_1 a0 a1 a2 t):=by
 show W A (.block 0 (.loop false b281_1)) e h _;rw[qr];refine qD hF 2 (by obtain⟨_,_,rfl,_⟩:=hI; rfl) (I281_1 a0 a1 a2) hI ?_ ?_
 ·rintro v8_1 o1_1 e h ⟨u2,k3,rfl,h_1⟩ hlt hw o ho
  unfold F281_1_B at ho;obtain⟨x5,gx5,ho⟩:=bS ho;have w6:=s76 a0.Complex a1 gx5;obtain⟨x7,gx7,ho⟩:=bS ho;obtain⟨w8a,w8b⟩:=qk gx7;obtain⟨x9,gx9,ho⟩:=bS ho;have wx9:=qz gx9;obtain⟨x10,gx10,ho⟩:=bS ho;have w11:=s99 a0.Complex x9 gx10;obtain⟨x12,gx12,ho⟩:=bS ho;have w13:=s80 a0.Complex.Prime x5 x7 x10 gx12;obtain⟨l15,gl15,ho⟩:=bS ho;have w14:=fun a b c d e=> qA (α:=List Int) (n:=o1_1.length) (m:=1) (ds:=[V.isl (x12.map enc)]) gl15 (by first|rfl|simp) (by first|rfl|simp) rfl a b c d e;have w14l:=qM gl15;cases ho;simp only[simprocAttr,R0,b281_1, *];refine ai rfl (ei _ (ei _ (ai rfl ?_)));simp only[simprocAttr,R0, *]
 ·rintro v8_1 o1_1 e h ⟨u2,k3,rfl,h_1⟩ hge t1 ho
  unfold F281_1_D at ho;cases ho;simp only[simprocAttr,R0,b281_1, *];intro ht; subst ht;refine ai rfl (ei _ (ei _ (ai rfl ?_)));simp only[simprocAttr,R0, *]
theorem s281(a0:qd)(a1:Int)(a2:List (List Int)){r:List (List Int)}(hF:F281 a0 a1 a2=some r):ans A 281 [(eF a0),V.int .i64 a1,V.isl (a2.map enc)]=some (enc r):=by
 refine qw (f:=p281) rfl rfl rfl fun e hl he=>?_;have h0_0:e.at 0=(eF a0):=he 0 _ rfl;have h1_0:e.at 1=V.int .i64 a1:=he 1 _ rfl;have h2_0:e.at 2=V.isl (a2.map enc):=he 2 _ rfl;have hl_0:e.length=37:=hl;clear he hl;show W A b281 e ⟨[],0⟩ _;unfold F281 at hF;obtain⟨zo1_1,gt16,hF⟩:=bS hF;simp only[simprocAttr, -Int.reduceNatCast',R0,b281, *];refine W.mono (l281_1 a0 a1 a2 gt16 (ei _ (ei _ (ai rfl ?_)))) ?_
 ·simp only[simprocAttr, -Int.reduceNatCast',R0, *]
 rintro _ e _ ⟨rfl,u2,k3,rfl,hl_4,h7_4⟩;have hE:=wA hF; subst hE;simp only[simprocAttr, -Int.reduceNatCast',R0, *];exact qf (by simp only[simprocAttr, -Int.reduceNatCast',R0,qg,p281,Rs.ev,qc,frzs (α:=List Int) zo1_1,qO (α:=List Int) zo1_1, *])
def F279(a0:qd)(a1:Int)(a2:Int)(a3:Int):Option (List (List Int)):=
 (chk (a1 - 1)).bind fun x1=>
 (chk (a3 - 1)).bind fun x2=>
 (F280 a0 x1 a2 x2).bind fun x3=>
 (app 24 ([]:List (List Int)) x3).bind fun l6=>
 (chk (a2+1)).bind fun x7=>
 if x7 < (a0.Levels.length:Int)then
  (chk (a3+a1)).bind fun x9=>
  (chk (x9 - 1)).bind fun x10=>
  (F280 a0 x1 x7 x10).bind fun x11=>
  (F281 a0 x7 x11).bind fun x13=>
  (app 24 l6 x13).bind fun l16=>
  (F131 a0.Complex.Prime l16).bind fun x17=>
  some x17
 else
  (F131 a0.Complex.Prime l6).bind fun x19=>
  some x19
theorem s279(a0:qd)(a1:Int)(a2:Int)(a3:Int){r:List (List Int)}(hF:F279 a0 a1 a2 a3=some r):ans A 279 [(eF a0),V.int .i64 a1,V.int .i64 a2,V.int .i64 a3]=some (enc r):=by
 refine qw (f:=p279) rfl rfl rfl fun e hl he=>?_;have h0_0:e.at 0=(eF a0):=he 0 _ rfl;have h1_0:e.at 1=V.int .i64 a1:=he 1 _ rfl;have h2_0:e.at 2=V.int .i64 a2:=he 2 _ rfl;have h3_0:e.at 3=V.int .i64 a3:=he 3 _ rfl;have hl_0:e.length=46:=hl;clear he hl;have h_0:=ai hl_0 (ai h0_0 (ai h1_0 (ai h2_0 h3_0)));show W A b279 e ⟨[],0⟩ _;unfold F279 at hF;obtain⟨x1,gx1,hF⟩:=bS hF;have wx1:=qz gx1;obtain⟨x2,gx2,hF⟩:=bS hF;have wx2:=qz gx2;obtain⟨x3,gx3,hF⟩:=bS hF;have w4:ans A 280 [(eF a0),V.int .i64 x1,V.int .i64 a2,V.int .i64 x2]=some (V.isl (x3.map enc)):=s280 a0 x1 a2 x2 gx3;obtain⟨l6,gl6,hF⟩:=bS hF;have w5:=fun a b c d e=> qA (α:=List Int) (n:=0) (m:=x3.length) (ds:=List.map enc x3) gl6 (by first|rfl|simp) (by first|rfl|simp) rfl a b c d e;have w5l:=qM gl6;obtain⟨x7,gx7,hF⟩:=bS hF;have wx7:=qz gx7;by_cases c8:x7 < (a0.Levels.length:Int)
 ·rw[if_pos c8]at hF
  obtain⟨x9,gx9,hF⟩:=bS hF;have wx9:=qz gx9;obtain⟨x10,gx10,hF⟩:=bS hF;have wx10:=qz gx10;obtain⟨x11,gx11,hF⟩:=bS hF;have w12:ans A 280 [(eF a0),V.int .i64 x1,V.int .i64 x7,V.int .i64 x10]=some (V.isl (x11.map enc)):=s280 a0 x1 x7 x10 gx11;obtain⟨x13,gx13,hF⟩:=bS hF;have w14:ans A 281 [(eF a0),V.int .i64 x7,V.isl (x11.map enc)]=some (V.isl (x13.map enc)):=s281 a0 x7 x11 gx13;obtain⟨l16,gl16,hF⟩:=bS hF;have w15:=fun a b c d e=> qA (α:=List Int) (n:=l6.length) (m:=x13.length) (ds:=List.map enc x13) gl16 (by first|rfl|simp) (by first|rfl|simp) rfl a b c d e;have w15l:=qM gl16;obtain⟨x17,gx17,hF⟩:=bS hF;have w18:ans A 131 [V.int .i64 a0.Complex.Prime,V.isl (l16.map enc)]=some (V.isl (x17.map enc)):=s131 a0.Complex.Prime l16 gx17;cases hF;simp only[simprocAttr,R0,b279,h_0,wx1,wx2,w4,w5,wx7,eq_true c8,wx9,wx10,w12,w14,w15,qO (α:=List Int) l16,w18];exact qf (by simp only[simprocAttr,R0,qg,p279,Rs.ev,qc,h_0,wx1,wx2,w4,w5,wx7,eq_true c8,wx9,wx10,w12,w14,w15,qO (α:=List Int) l16,w18])
 ·rw[if_neg c8]at hF
  obtain⟨x19,gx19,hF⟩:=bS hF;have w20:ans A 131 [V.int .i64 a0.Complex.Prime,V.isl (l6.map enc)]=some (V.isl (x19.map enc)):=s131 a0.Complex.Prime l6 gx19;cases hF;simp only[simprocAttr,R0,b279,h_0,wx1,wx2,w4,w5,wx7,eq_false c8,qO (α:=List Int) l6,w20];exact qf (by simp only[simprocAttr,R0,qg,p279,Rs.ev,qc,h_0,wx1,wx2,w4,w5,wx7,eq_false c8,qO (α:=List Int) l6,w20])
def xL(a0:Int)(a2:List (List Int))(v8_1:Int)(x11:Int)(s:(List Int)×Int):Option (((List Int)×Int)⊕((List Int))):=
 match s with
 |(o0_2,v10_2)=>
  if v10_2 < ((o0_2.length:Nat):Int)then
   (getI o0_2 v10_2).bind fun x19=>
   (getI a2 v8_1).bind fun x21=>
   (getI x21 v10_2).bind fun x23=>
   (chk (x11*x23)).bind fun x25=>
   (chk (x19 - x25)).bind fun x26=>
   (F127 a0 x26).bind fun x27=>
   (setI o0_2 v10_2 x27).bind fun l29=>
   (chk (v10_2+1)).bind fun x31=>
   some (.inl (l29,x31))
  else
   some (.inr o0_2)
def F330_1_B(a0:Int)(a2:List (List Int))(v8_1:Int)(o0_1:(List Int)):Option (((List Int))⊕((List Int))):=
 (getI a2 v8_1).bind fun x7=>
(F81 x7).bind fun x9=>
(getI o0_1 x9).bind fun x11=>
if x11=0 then
 some (.inl o0_1)
else
 (qV (xL a0 a2 v8_1 x11) (o0_1,0)).bind fun zo0_2=>
 some (.inl zo0_2)
def F330_1_D(a0:Int)(a2:List (List Int))(v8_1:Int)(o0_1:(List Int)):Option ((List Int)):=
 some o0_1
def F330(a0:Int)(a1:List Int)(a2:List (List Int)):Option (List Int):=
 (F94 a1).bind fun x1=>
 (forR 0 (a2.length:Int) (F330_1_B a0 a2) (F330_1_D a0 a2) x1).bind fun zo0_1=>
 some zo0_1
def I330_2(a0:Int)(a2:List (List Int))(v8_1:Int)(x11:Int)(s:(List Int)×Int)(e:Env)(h:Heap):Prop:=
 match s with
 |(o0_2,v10_2)=>
  ∃u15 k16:Nat,h=⟨[(u15,some (o0_2.map enc))],k16⟩∧e.length=55∧e.at 0=V.int .i64 a0∧e.at 2=V.isl (a2.map enc)∧e.at 7=V.sl 0 u15 0 o0_2.length 1∧e.at 8=V.int .i64 v8_1∧e.at 9=V.int .i64 x11∧e.at 10=V.int .i64 v10_2
def P330_2(a0:Int)(a2:List (List Int))(v8_1:Int)(x11:Int)(zo0_2:(List Int))(x:Ex)(e:Env)(h:Heap):Prop:=
 x= .normal∧∃u15 k16:Nat,h=⟨[(u15,some (zo0_2.map enc))],k16⟩∧e.length=55∧e.at 0=V.int .i64 a0∧e.at 2=V.isl (a2.map enc)∧e.at 7=V.sl 0 u15 0 zo0_2.length 1∧e.at 8=V.int .i64 v8_1
theorem l330_2(a0:Int)(a2:List (List Int))(v8_1:Int)(x11:Int){s:(List Int)×Int}{t:(List Int)}(hF:qV (xL a0 a2 v8_1 x11) s=some t){e:Env}{h:Heap}(hI:I330_2 a0 a2 v8_1 x11 s e h):W A c330_2 e h (P330_2 a0 a2 v8_1 x11 t):=by
 show W A (.block 2 (.loop false b330_2)) e h _;rw[qr];refine jh hF 1 (by rcases s with⟨_,_⟩; obtain⟨_,_,rfl,_⟩:=hI; rfl) (I330_2 a0 a2 v8_1 x11) hI ?_
 ·rintro⟨o0_2,v10_2⟩ e h ⟨u15,k16,rfl,h_14⟩ o ho
  unfold xL at ho;dsimp only at ho;by_cases c18:v10_2 < ((o0_2.length:Nat):Int)
  ·rw[if_pos c18]at ho
   obtain⟨x19,gx19,ho⟩:=bS ho;obtain⟨w20a,w20b⟩:=qk gx19;have w20c:=za gx19;have w20d:List.drop (Int.toNat v10_2) (o0_2.map enc)=(V.int .i64 x19)::List.drop ((Int.toNat v10_2)+1) (o0_2.map enc):=jx w20b;obtain⟨x21,gx21,ho⟩:=bS ho;obtain⟨w22a,w22b⟩:=qk gx21;obtain⟨x23,gx23,ho⟩:=bS ho;obtain⟨w24a,w24b⟩:=qk gx23;obtain⟨x25,gx25,ho⟩:=bS ho;have wx25:=qz gx25;obtain⟨x26,gx26,ho⟩:=bS ho;have wx26:=qz gx26;obtain⟨x27,gx27,ho⟩:=bS ho;have w28:=s127 a0 x26 gx27;obtain⟨l29,gl29,ho⟩:=bS ho;obtain⟨w30a,w30b,w30c,w30d,w30e⟩:=jV gl29;replace w30e:List.take (Int.toNat v10_2) (o0_2.map enc)++[V.int .i64 x27]++List.drop (Int.toNat v10_2+1) (o0_2.map enc)=List.map enc l29:=w30e;obtain⟨x31,gx31,ho⟩:=bS ho;have wx31:=qz gx31;cases ho;simp only[simprocAttr,R0,b330_2, *];refine ai rfl (ei _ (ei _ (ai rfl ?_)));simp only[simprocAttr,R0, *]
  ·rw[if_neg c18]at ho
   cases ho;simp only[simprocAttr,R0,b330_2, *];intro ht; subst ht;simp only[simprocAttr,RR,RB];refine ai rfl (ei _ (ei _ (ai rfl ?_)));simp only[simprocAttr,R0, *]
def I330_1(a0:Int)(a2:List (List Int))(v8_1:Int)(o0_1:(List Int))(e:Env)(h:Heap):Prop:=
 ∃u4 k5:Nat,h=⟨[(u4,some (o0_1.map enc))],k5⟩∧e.length=55∧e.at 0=V.int .i64 a0∧e.at 2=V.isl (a2.map enc)∧e.at 7=V.sl 0 u4 0 o0_1.length 1∧e.at 8=V.int .i64 v8_1
def P330_1(a0:Int)(a2:List (List Int))(zo0_1:(List Int))(x:Ex)(e:Env)(h:Heap):Prop:=
 x= .normal∧∃u4 k5:Nat,h=⟨[(u4,some (zo0_1.map enc))],k5⟩∧e.length=55∧e.at 7=V.sl 0 u4 0 zo0_1.length 1
theorem l330_1(a0:Int)(a2:List (List Int)){lo:Int}{s:(List Int)}{t:(List Int)}(hF:forR lo (a2.length:Int) (F330_1_B a0 a2) (F330_1_D a0 a2) s=some t){e:Env}{h:Heap}(hI:I330_1 a0 a2 lo s e h):W A c330_1 e h (P330_1 a0 a2 t):=by
 show W A (.block 0 (.loop false b330_1)) e h _;rw[qr];refine qD hF 1 (by obtain⟨_,_,rfl,_⟩:=hI; rfl) (I330_1 a0 a2) hI ?_ ?_
 ·rintro v8_1 o0_1 e h ⟨u4,k5,rfl,h_3⟩ hlt hw o ho
  unfold F330_1_B at ho;obtain⟨x7,gx7,ho⟩:=bS ho;obtain⟨w8a,w8b⟩:=qk gx7;obtain⟨x9,gx9,ho⟩:=bS ho;have w10:=s81 x7 gx9;obtain⟨x11,gx11,ho⟩:=bS ho;obtain⟨w12a,w12b⟩:=qk gx11;have w12c:=za gx11;have w12d:List.drop (Int.toNat x9) (o0_1.map enc)=(V.int .i64 x11)::List.drop ((Int.toNat x9)+1) (o0_1.map enc):=jx w12b;by_cases c13:x11=0
  ·rw[if_pos c13]at ho
   cases ho;simp only[simprocAttr,R0,b330_1, *];refine ai rfl (ei _ (ei _ (ai rfl ?_)));simp only[simprocAttr,R0, *]
  ·rw[if_neg c13]at ho
   obtain⟨zo0_2,gt32,ho⟩:=bS ho;simp only[simprocAttr,R0,b330_1, *];refine W.mono (l330_2 a0 a2 v8_1 x11 gt32 (ei _ (ei _ (ai rfl ?_)))) ?_
   ·simp only[simprocAttr,R0, *]
   rintro _ e _ ⟨rfl,u15,k16,rfl,h_17⟩;cases ho;simp only[simprocAttr,R0, *];refine ai rfl (ei _ (ei _ (ai rfl ?_)));simp only[simprocAttr,R0, *]
 ·rintro v8_1 o0_1 e h ⟨u4,k5,rfl,h_3⟩ hge t1 ho
  unfold F330_1_D at ho;cases ho;simp only[simprocAttr,R0,b330_1, *];intro ht; subst ht;refine ai rfl (ei _ (ei _ (ai rfl ?_)));simp only[simprocAttr,R0, *]
theorem s330(a0:Int)(a1:List Int)(a2:List (List Int)){r:List Int}(hF:F330 a0 a1 a2=some r):ans A 330 [V.int .i64 a0,V.isl (a1.map enc),V.isl (a2.map enc)]=some (enc r):=by
 refine qw (f:=p330) rfl rfl rfl fun e hl he=>?_;have h0_0:e.at 0=V.int .i64 a0:=he 0 _ rfl;have h1_0:e.at 1=V.isl (a1.map enc):=he 1 _ rfl;have h2_0:e.at 2=V.isl (a2.map enc):=he 2 _ rfl;have hl_0:e.length=55:=hl;clear he hl;show W A b330 e ⟨[],0⟩ _;unfold F330 at hF;obtain⟨x1,gx1,hF⟩:=bS hF;have w2:tans A 94 [1] [V.isl (a1.map enc)]=some (V.isl (x1.map enc)):=t94 a1 gx1;have w2t:=zb (α:=Int) x1;obtain⟨zo0_1,gt33,hF⟩:=bS hF;simp only[simprocAttr, -Int.reduceNatCast',R0,b330, *];refine W.mono (l330_1 a0 a2 gt33 (ei _ (ei _ (ai rfl ?_)))) ?_
 ·simp only[simprocAttr, -Int.reduceNatCast',R0, *]
 rintro _ e _ ⟨rfl,u4,k5,rfl,hl_6,h7_6⟩;have hE:=wA hF; subst hE;simp only[simprocAttr, -Int.reduceNatCast',R0, *];exact qf (by simp only[simprocAttr, -Int.reduceNatCast',R0,qg,p330,Rs.ev,qc,frzs (α:=Int) zo0_1,qO (α:=Int) zo0_1, *])
def F329_1_B(a0:qd)(x1:List (List Int))(x3:List (List Int))(v12_1:Int)(o1_1:(List (List Int))):Option (((List (List Int)))⊕((List (List Int)))):=
 (getI x1 v12_1).bind fun x9=>
(F330 a0.Complex.Prime x9 x3).bind fun x11=>
(app 24 o1_1 [x11]).bind fun l14=>
some (.inl l14)
def F329_1_D(a0:qd)(x1:List (List Int))(x3:List (List Int))(v12_1:Int)(o1_1:(List (List Int))):Option ((List (List Int))):=
 some o1_1
def F329(a0:qd)(a1:Int)(a2:Int)(a3:Int):Option (List (List Int)):=
 (F280 a0 a1 a2 a3).bind fun x1=>
 (F279 a0 a1 a2 a3).bind fun x3=>
 (forR 0 (x1.length:Int) (F329_1_B a0 x1 x3) (F329_1_D a0 x1 x3) ([]:(List (List Int)))).bind fun zo1_1=>
 (F131 a0.Complex.Prime zo1_1).bind fun x16=>
 some x16
def I329_1(a0:qd)(x1:List (List Int))(x3:List (List Int))(v12_1:Int)(o1_1:(List (List Int)))(e:Env)(h:Heap):Prop:=
 ∃u6 k7:Nat,h=⟨[(0,none),(u6,some (o1_1.map enc))],k7⟩∧e.length=47∧e.at 4=V.iptr [V.int .i64 a0.Complex.Prime,V.isl (a0.Complex.Dims.map enc),V.isl (a0.Complex.Maps.map enc),V.isl (a0.Levels.map enc)]∧e.at 9=V.isl (x1.map enc)∧e.at 10=V.isl (x3.map enc)∧e.at 11=V.sl 1 u6 0 o1_1.length 1∧e.at 12=V.int .i64 v12_1
def P329_1(a0:qd)(x1:List (List Int))(x3:List (List Int))(zo1_1:(List (List Int)))(x:Ex)(e:Env)(h:Heap):Prop:=
 x= .normal∧∃u6 k7:Nat,h=⟨[(0,none),(u6,some (zo1_1.map enc))],k7⟩∧e.length=47∧e.at 4=V.iptr [V.int .i64 a0.Complex.Prime,V.isl (a0.Complex.Dims.map enc),V.isl (a0.Complex.Maps.map enc),V.isl (a0.Levels.map enc)]∧e.at 11=V.sl 1 u6 0 zo1_1.length 1
theorem l329_1(a0:qd)(x1:List (List Int))(x3:List (List Int)){lo:Int}{s:(List (List Int))}{t:(List (List Int))}(hF:forR lo (x1.length:Int) (F329_1_B a0 x1 x3) (F329_1_D a0 x1 x3) s=some t){e:Env}{h:Heap}(hI:I329_1 a0 x1 x3 lo s e h):W A c329_1 e h (P329_1 a0 x1 x3 t):=by
 show W A (.block 0 (.loop false b329_1)) e h _;rw[qr];refine qD hF 2 (by obtain⟨_,_,rfl,_⟩:=hI; rfl) (I329_1 a0 x1 x3) hI ?_ ?_
 ·rintro v12_1 o1_1 e h ⟨u6,k7,rfl,h_5⟩ hlt hw o ho
  unfold F329_1_B at ho;obtain⟨x9,gx9,ho⟩:=bS ho;obtain⟨w10a,w10b⟩:=qk gx9;obtain⟨x11,gx11,ho⟩:=bS ho;have w12:=s330 a0.Complex.Prime x9 x3 gx11;obtain⟨l14,gl14,ho⟩:=bS ho;have w13:=fun a b c d e=> qA (α:=List Int) (n:=o1_1.length) (m:=1) (ds:=[V.isl (x11.map enc)]) gl14 (by first|rfl|simp) (by first|rfl|simp) rfl a b c d e;have w13l:=qM gl14;cases ho;simp only[simprocAttr,R0,b329_1, *];refine ai rfl (ei _ (ei _ (ai rfl ?_)));simp only[simprocAttr,R0, *]
 ·rintro v12_1 o1_1 e h ⟨u6,k7,rfl,h_5⟩ hge t1 ho
  unfold F329_1_D at ho;cases ho;simp only[simprocAttr,R0,b329_1, *];intro ht; subst ht;refine ai rfl (ei _ (ei _ (ai rfl ?_)));simp only[simprocAttr,R0, *]
theorem s329(a0:qd)(a1:Int)(a2:Int)(a3:Int){r:List (List Int)}(hF:F329 a0 a1 a2 a3=some r):ans A 329 [(eF a0),V.int .i64 a1,V.int .i64 a2,V.int .i64 a3]=some (enc r):=by
 refine qw (f:=p329) rfl rfl rfl fun e hl he=>?_;have h0_0:e.at 0=(eF a0):=he 0 _ rfl;have h1_0:e.at 1=V.int .i64 a1:=he 1 _ rfl;have h2_0:e.at 2=V.int .i64 a2:=he 2 _ rfl;have h3_0:e.at 3=V.int .i64 a3:=he 3 _ rfl;have hl_0:e.length=47:=hl;clear he hl;show W A b329 e ⟨[],0⟩ _;unfold F329 at hF;obtain⟨x1,gx1,hF⟩:=bS hF;have w2:=s280 a0 a1 a2 a3 gx1;obtain⟨x3,gx3,hF⟩:=bS hF;have w4:=s279 a0 a1 a2 a3 gx3;obtain⟨zo1_1,gt15,hF⟩:=bS hF;simp only[simprocAttr,R0,b329, *];refine W.mono (l329_1 a0 x1 x3 gt15 (ei _ (ei _ (ai rfl ?_)))) ?_
 ·simp only[simprocAttr,R0, *]
 rintro _ e _ ⟨rfl,u6,k7,rfl,h_8⟩;obtain⟨x16,gx16,hF⟩:=bS hF;have w17:=s131 a0.Complex.Prime zo1_1 gx16;cases hF;simp only[simprocAttr,R0,qO (α:=List Int) zo1_1, *];exact qf (by simp only[simprocAttr,R0,qg,p329,Rs.ev,qc,qO (α:=List Int) zo1_1, *])
def F321(a0:qd)(a1:Int)(a2:Int)(a3:Int):Option (T2 (List (List Int)) Int):=
 (F247 a0 a1 a2 a3).bind fun x1=>
 if x1=0 then
  (F329 a0 a1 a2 a3).bind fun x4=>
  some ⟨x4,0⟩
 else
  some ⟨([]:List (List Int)),x1⟩
theorem s321(a0:qd)(a1:Int)(a2:Int)(a3:Int){r:T2 (List (List Int)) Int}(hF:F321 a0 a1 a2 a3=some r):ans A 321 [(eF a0),V.int .i64 a1,V.int .i64 a2,V.int .i64 a3]=some (EncR.enc r):=by
 refine qw (f:=p321) rfl rfl rfl fun e hl he=>?_;have h0_0:e.at 0=(eF a0):=he 0 _ rfl;have h1_0:e.at 1=V.int .i64 a1:=he 1 _ rfl;have h2_0:e.at 2=V.int .i64 a2:=he 2 _ rfl;have h3_0:e.at 3=V.int .i64 a3:=he 3 _ rfl;have hl_0:e.length=24:=hl;clear he hl;have h_0:=ai hl_0 (ai h0_0 (ai h1_0 (ai h2_0 h3_0)));show W A b321 e ⟨[],0⟩ _;unfold F321 at hF;obtain⟨x1,gx1,hF⟩:=bS hF;have w2:=s247 a0 a1 a2 a3 gx1;by_cases c3:x1=0
 ·rw[if_pos c3]at hF
  obtain⟨x4,gx4,hF⟩:=bS hF;have w5:=s329 a0 a1 a2 a3 gx4;cases hF;simp only[simprocAttr,R0,b321, *];exact qf (by simp only[simprocAttr,R0,qg,p321,Rs.ev,qc, *])
 ·rw[if_neg c3]at hF
  cases hF;simp only[simprocAttr,R0,b321, *];exact qf (by simp only[simprocAttr,R0,qg,p321,Rs.ev,qc, *])
def F322(a0:qd)(a1:Int)(a2:Int)(a3:Int):Option (T2 (List (List Int)) Int):=
 (F166 a0 a1 a2 a3).bind fun x1=>
 if x1=0 then
  (F187 a0 a1 a2 a3).bind fun x4=>
  some ⟨x4,0⟩
 else
  some ⟨([]:List (List Int)),x1⟩
theorem d322(a0:qd)(a1 a2 a3:Int){r:T2 (List (List Int)) Int}(hF:F322 a0 a1 a2 a3=some r):∃v h',res A 322 [(eF a0),V.int .i64 a1,V.int .i64 a2,V.int .i64 a3] Heap.empty=some (v,h')∧∃vs K,v=V.tup vs∧repF h' vs [⟨r.a⟩,⟨r.b⟩] K:=by
 refine jW (f:=p322) rfl rfl rfl fun e hl he=>?_;have h0_0:e.at 0=(eF a0):=he 0 _ rfl;have h1_0:e.at 1=V.int .i64 a1:=he 1 _ rfl;have h2_0:e.at 2=V.int .i64 a2:=he 2 _ rfl;have h3_0:e.at 3=V.int .i64 a3:=he 3 _ rfl;have hl_0:e.length=24:=hl;clear he hl;show W A b322 e ⟨[],0⟩ _;unfold F322 at hF;obtain⟨x1,gx1,hF⟩:=bS hF;have w2:=s166 a0 a1 a2 a3 gx1;by_cases c3:x1=0
 ·rw[if_pos c3]at hF
  obtain⟨x4,gx4,hF⟩:=bS hF;have w5:tans A 187 [1,1] [(eF a0),V.int .i64 a1,V.int .i64 a2,V.int .i64 a3]=some (V.isl (x4.map enc)):=x187 a0 a1 a2 a3 gx4;cases hF;obtain⟨v,⟨E1,c1⟩,K,t1,t2,t3,t4,t5⟩:=thawD (α:=List (List Int)) (by decide) x4 ⟨[(0,none)],1⟩;have t1':thaw 16 [1,1] (V.isl (x4.map enc)) ⟨[(0,none)],1⟩=some (v,⟨E1,c1⟩):=t1;simp only[simprocAttr,R0,b322,qE,t1', *];refine ai (fun _=> trivial) ⟨V.tup [v,V.int .i64 0],?_,_,_,rfl,pair_rep t2 _⟩;simp only[simprocAttr,R0,qg,p322,Rs.ev, *]
 ·rw[if_neg c3]at hF
  cases hF;simp only[simprocAttr,R0,b322, *];refine ai (fun _=> trivial) ⟨V.tup [V.nils,V.int .i64 x1],?_,_,_,rfl,pair_rep (α:=List (List Int)) (rep_nils _) _⟩;simp only[simprocAttr,R0,qg,p322,Rs.ev, *]
theorem s322(a0:qd)(a1 a2 a3:Int){r:T2 (List (List Int)) Int}(hF:F322 a0 a1 a2 a3=some r):ans A 322 [(eF a0),V.int .i64 a1,V.int .i64 a2,V.int .i64 a3]=some (EncR.enc r):=by
 obtain⟨_,h',h1,vs,K,rfl,h2⟩:=d322 a0 a1 a2 a3 hF;exact ans_tup (ss:=[1,1]) (fits_pair rfl (by decide)) h1 h2
def F323_1_B(x4:List (List Int))(v13_1:Int)(o1_1:(List (List Int))):Option (((List (List Int)))⊕((List (List Int)))):=
 (app 24 o1_1 ([([]:List Int)])).bind fun l12=>
some (.inl l12)
def F323_1_D(x4:List (List Int))(v13_1:Int)(o1_1:(List (List Int))):Option ((List (List Int))):=
 some o1_1
def F323_3_B(a0:qd)(x22:List (List Int))(x26:List (List Int))(x28:List (List Int))(o1_2:List (List Int))(v17_2:Int)(x36:List Int)(v20_3:Int)(o2_3:(List Int)):Option (((List Int))⊕((List Int))):=
 (getI x26 v20_3).bind fun x42=>
(F81 x42).bind fun x44=>
(getI x36 x44).bind fun x46=>
(app 8 o2_3 [x46]).bind fun l49=>
some (.inl l49)
def F323_3_D(a0:qd)(x22:List (List Int))(x26:List (List Int))(x28:List (List Int))(o1_2:List (List Int))(v17_2:Int)(x36:List Int)(v20_3:Int)(o2_3:(List Int)):Option ((List Int)):=
 some o2_3
def F323_2_B(a0:qd)(x22:List (List Int))(x26:List (List Int))(x28:List (List Int))(v17_2:Int)(o1_2:(List (List Int))):Option (((List (List Int)))⊕((List (List Int)))):=
 (getI x22 v17_2).bind fun x34=>
(F330 a0.Complex.Prime x34 x28).bind fun x36=>
(forR 0 (x26.length:Int) (F323_3_B a0 x22 x26 x28 o1_2 v17_2 x36) (F323_3_D a0 x22 x26 x28 o1_2 v17_2 x36) ([]:(List Int))).bind fun zo2_3=>
(app 24 o1_2 [zo2_3]).bind fun l52=>
some (.inl l52)
def F323_2_D(a0:qd)(x22:List (List Int))(x26:List (List Int))(x28:List (List Int))(v17_2:Int)(o1_2:(List (List Int))):Option ((List (List Int))):=
 some o1_2
def F323(a0:qd)(a1:Int)(a2:Int)(a3:Int):Option (T2 (List (List Int)) Int):=
 (F247 a0 a1 a2 a3).bind fun x1=>
 if x1=0 then
  (F329 a0 a1 a2 a3).bind fun x4=>
  if a2=0 then
   (forR 0 (x4.length:Int) (F323_1_B x4) (F323_1_D x4) ([]:(List (List Int)))).bind fun zo1_1=>
   some ⟨zo1_1,0⟩
  else
   if a3 < a1 then
    (forR 0 (x4.length:Int) (F323_1_B x4) (F323_1_D x4) ([]:(List (List Int)))).bind fun zo1_1=>
    some ⟨zo1_1,0⟩
   else
    (F281 a0 a2 x4).bind fun x22=>
    (chk (a2 - 1)).bind fun x24=>
    (chk (a3 - a1)).bind fun x25=>
    (F329 a0 a1 x24 x25).bind fun x26=>
    (F279 a0 a1 x24 x25).bind fun x28=>
    (forR 0 (x22.length:Int) (F323_2_B a0 x22 x26 x28) (F323_2_D a0 x22 x26 x28) ([]:(List (List Int)))).bind fun zo1_2=>
    some ⟨zo1_2,0⟩
 else
  some ⟨([]:List (List Int)),x1⟩
def I323_1(x4:List (List Int))(v13_1:Int)(o1_1:(List (List Int)))(e:Env)(h:Heap):Prop:=
 ∃u8 k9:Nat,h=⟨[(0,none),(u8,some (o1_1.map enc))],k9⟩∧e.length=111∧e.at 11=V.isl (x4.map enc)∧e.at 12=V.sl 1 u8 0 o1_1.length 1∧e.at 13=V.int .i64 v13_1
def P323_1(x4:List (List Int))(zo1_1:(List (List Int)))(x:Ex)(e:Env)(h:Heap):Prop:=
 x= .normal∧∃u8 k9:Nat,h=⟨[(0,none),(u8,some (zo1_1.map enc))],k9⟩∧e.length=111∧e.at 12=V.sl 1 u8 0 zo1_1.length 1
theorem l323_1(x4:List (List Int)){lo:Int}{s:(List (List Int))}{t:(List (List Int))}(hF:forR lo (x4.length:Int) (F323_1_B x4) (F323_1_D x4) s=some t){e:Env}{h:Heap}(hI:I323_1 x4 lo s e h):W A c323_1 e h (P323_1 x4 t):=by
 show W A (.block 0 (.loop false b323_1)) e h _;rw[qr];refine qD hF 2 (by obtain⟨_,_,rfl,_⟩:=hI; rfl) (I323_1 x4) hI ?_ ?_
 ·rintro v13_1 o1_1 e h ⟨u8,k9,rfl,h_7⟩ hlt hw o ho
  unfold F323_1_B at ho;obtain⟨l12,gl12,ho⟩:=bS ho;have w11:=fun a b c d e=> qA (α:=List Int) (n:=o1_1.length) (m:=1) (ds:=[V.isl []]) gl12 (by first|rfl|simp) (by first|rfl|simp) rfl a b c d e;have w11l:=qM gl12;cases ho;simp only[simprocAttr,R0,b323_1, *];refine ai rfl (ei _ (ei _ (ai rfl ?_)));simp only[simprocAttr,R0, *]
 ·rintro v13_1 o1_1 e h ⟨u8,k9,rfl,h_7⟩ hge t1 ho
  unfold F323_1_D at ho;cases ho;simp only[simprocAttr,R0,b323_1, *];intro ht; subst ht;refine ai rfl (ei _ (ei _ (ai rfl ?_)));simp only[simprocAttr,R0, *]
def I323_3(a0:qd)(x22:List (List Int))(x26:List (List Int))(x28:List (List Int))(o1_2:List (List Int))(v17_2:Int)(x36:List Int)(u31:Nat)(v20_3:Int)(o2_3:(List Int))(e:Env)(h:Heap):Prop:=
 ∃u39 k40:Nat,h=⟨[(0,none),(u31,some (o1_2.map enc)),(u39,some (o2_3.map enc))],k40⟩∧e.length=111∧e.at 4=V.iptr [V.int .i64 a0.Complex.Prime,V.isl (a0.Complex.Dims.map enc),V.isl (a0.Complex.Maps.map enc),V.isl (a0.Levels.map enc)]∧e.at 12=V.sl 1 u31 0 o1_2.length 1∧e.at 14=V.isl (x22.map enc)∧e.at 15=V.isl (x26.map enc)∧e.at 16=V.isl (x28.map enc)∧e.at 17=V.int .i64 v17_2∧e.at 18=V.isl (x36.map enc)∧e.at 19=V.sl 2 u39 0 o2_3.length 1∧e.at 20=V.int .i64 v20_3
def P323_3(a0:qd)(x22:List (List Int))(x26:List (List Int))(x28:List (List Int))(o1_2:List (List Int))(v17_2:Int)(x36:List Int)(u31:Nat)(zo2_3:(List Int))(x:Ex)(e:Env)(h:Heap):Prop:=
 x= .normal∧∃u39 k40:Nat,h=⟨[(0,none),(u31,some (o1_2.map enc)),(u39,some (zo2_3.map enc))],k40⟩∧e.length=111∧e.at 4=V.iptr [V.int .i64 a0.Complex.Prime,V.isl (a0.Complex.Dims.map enc),V.isl (a0.Complex.Maps.map enc),V.isl (a0.Levels.map enc)]∧e.at 12=V.sl 1 u31 0 o1_2.length 1∧e.at 14=V.isl (x22.map enc)∧e.at 15=V.isl (x26.map enc)∧e.at 16=V.isl (x28.map enc)∧e.at 17=V.int .i64 v17_2∧e.at 19=V.sl 2 u39 0 zo2_3.length 1
theorem l323_3(a0:qd)(x22:List (List Int))(x26:List (List Int))(x28:List (List Int))(o1_2:List (List Int))(v17_2:Int)(x36:List Int)(u31:Nat){lo:Int}{s:(List Int)}{t:(List Int)}(hF:forR lo (x26.length:Int) (F323_3_B a0 x22 x26 x28 o1_2 v17_2 x36) (F323_3_D a0 x22 x26 x28 o1_2 v17_2 x36) s=some t){e:Env}{h:Heap}(hI:I323_3 a0 x22 x26 x28 o1_2 v17_2 x36 u31 lo s e h):W A c323_3 e h (P323_3 a0 x22 x26 x28 o1_2 v17_2 x36 u31 t):=by
 show W A (.block 4 (.loop false b323_3)) e h _;rw[qr];refine qD hF 3 (by obtain⟨_,_,rfl,_⟩:=hI; rfl) (I323_3 a0 x22 x26 x28 o1_2 v17_2 x36 u31) hI ?_ ?_
 ·rintro v20_3 o2_3 e h ⟨u39,k40,rfl,h_38⟩ hlt hw o ho
  unfold F323_3_B at ho;obtain⟨x42,gx42,ho⟩:=bS ho;obtain⟨w43a,w43b⟩:=qk gx42;obtain⟨x44,gx44,ho⟩:=bS ho;have w45:=s81 x42 gx44;obtain⟨x46,gx46,ho⟩:=bS ho;obtain⟨w47a,w47b⟩:=qk gx46;obtain⟨l49,gl49,ho⟩:=bS ho;have w48:=fun a b c d e=> qA (α:=Int) (n:=o2_3.length) (m:=1) (ds:=[V.int .i64 x46]) gl49 (by first|rfl|simp) (by first|rfl|simp) rfl a b c d e;have w48l:=qM gl49;cases ho;simp only[simprocAttr,R0,b323_3, *];refine ai rfl (ei _ (ei _ (ai rfl ?_)));simp only[simprocAttr,R0, *]
 ·rintro v20_3 o2_3 e h ⟨u39,k40,rfl,h_38⟩ hge t1 ho
  unfold F323_3_D at ho;cases ho;simp only[simprocAttr,R0,b323_3, *];intro ht; subst ht;refine ai rfl (ei _ (ei _ (ai rfl ?_)));simp only[simprocAttr,R0, *]
def I323_2(a0:qd)(x22:List (List Int))(x26:List (List Int))(x28:List (List Int))(v17_2:Int)(o1_2:(List (List Int)))(e:Env)(h:Heap):Prop:=
 ∃u31 k32:Nat,h=⟨[(0,none),(u31,some (o1_2.map enc))],k32⟩∧e.length=111∧e.at 4=V.iptr [V.int .i64 a0.Complex.Prime,V.isl (a0.Complex.Dims.map enc),V.isl (a0.Complex.Maps.map enc),V.isl (a0.Levels.map enc)]∧e.at 12=V.sl 1 u31 0 o1_2.length 1∧e.at 14=V.isl (x22.map enc)∧e.at 15=V.isl (x26.map enc)∧e.at 16=V.isl (x28.map enc)∧e.at 17=V.int .i64 v17_2
def P323_2(a0:qd)(x22:List (List Int))(x26:List (List Int))(x28:List (List Int))(zo1_2:(List (List Int)))(x:Ex)(e:Env)(h:Heap):Prop:=
 x= .normal∧∃u31 k32:Nat,h=⟨[(0,none),(u31,some (zo1_2.map enc))],k32⟩∧e.length=111∧e.at 12=V.sl 1 u31 0 zo1_2.length 1
theorem l323_2(a0:qd)(x22:List (List Int))(x26:List (List Int))(x28:List (List Int)){lo:Int}{s:(List (List Int))}{t:(List (List Int))}(hF:forR lo (x22.length:Int) (F323_2_B a0 x22 x26 x28) (F323_2_D a0 x22 x26 x28) s=some t){e:Env}{h:Heap}(hI:I323_2 a0 x22 x26 x28 lo s e h):W A c323_2 e h (P323_2 a0 x22 x26 x28 t):=by
 show W A (.block 2 (.loop false b323_2)) e h _;rw[qr];refine qD hF 2 (by obtain⟨_,_,rfl,_⟩:=hI; rfl) (I323_2 a0 x22 x26 x28) hI ?_ ?_
 ·rintro v17_2 o1_2 e h ⟨u31,k32,rfl,h_30⟩ hlt hw o ho
  unfold F323_2_B at ho;obtain⟨x34,gx34,ho⟩:=bS ho;obtain⟨w35a,w35b⟩:=qk gx34;obtain⟨x36,gx36,ho⟩:=bS ho;have w37:=s330 a0.Complex.Prime x34 x28 gx36;obtain⟨zo2_3,gt50,ho⟩:=bS ho;simp only[simprocAttr,R0,b323_2, *];refine W.mono (l323_3 a0 x22 x26 x28 o1_2 v17_2 x36 u31 gt50 (ei _ (ei _ (ai rfl ?_)))) ?_
  ·simp only[simprocAttr,R0, *]
  rintro _ e _ ⟨rfl,u39,k40,rfl,h_41⟩;obtain⟨l52,gl52,ho⟩:=bS ho;have w51:=fun a b c d e=> qA (α:=List Int) (n:=o1_2.length) (m:=1) (ds:=[V.isl (zo2_3.map enc)]) gl52 (by first|rfl|simp) (by first|rfl|simp) rfl a b c d e;have w51l:=qM gl52;cases ho;simp only[simprocAttr,R0,qO (α:=Int) zo2_3, *];refine ai rfl (ei _ (ei _ (ai rfl ?_)));simp only[simprocAttr,R0,qO (α:=Int) zo2_3, *]
 ·rintro v17_2 o1_2 e h ⟨u31,k32,rfl,h_30⟩ hge t1 ho
  unfold F323_2_D at ho;cases ho;simp only[simprocAttr,R0,b323_2, *];intro ht; subst ht;refine ai rfl (ei _ (ei _ (ai rfl ?_)));simp only[simprocAttr,R0, *]
theorem s323(a0:qd)(a1:Int)(a2:Int)(a3:Int){r:T2 (List (List Int)) Int}(hF:F323 a0 a1 a2 a3=some r):ans A 323 [(eF a0),V.int .i64 a1,V.int .i64 a2,V.int .i64 a3]=some (EncR.enc r):=by
 refine qw (f:=p323) rfl rfl rfl fun e hl he=>?_;have h0_0:e.at 0=(eF a0):=he 0 _ rfl;have h1_0:e.at 1=V.int .i64 a1:=he 1 _ rfl;have h2_0:e.at 2=V.int .i64 a2:=he 2 _ rfl;have h3_0:e.at 3=V.int .i64 a3:=he 3 _ rfl;have hl_0:e.length=111:=hl;clear he hl;have h_0:=ai hl_0 (ai h0_0 (ai h1_0 (ai h2_0 h3_0)));show W A b323 e ⟨[],0⟩ _;unfold F323 at hF;obtain⟨x1,gx1,hF⟩:=bS hF;have w2:ans A 247 [(eF a0),V.int .i64 a1,V.int .i64 a2,V.int .i64 a3]=some (V.int .i64 x1):=s247 a0 a1 a2 a3 gx1;by_cases c3:x1=0
 ·rw[if_pos c3]at hF
  obtain⟨x4,gx4,hF⟩:=bS hF;have w5:ans A 329 [(eF a0),V.int .i64 a1,V.int .i64 a2,V.int .i64 a3]=some (V.isl (x4.map enc)):=s329 a0 a1 a2 a3 gx4;by_cases c6:a2=0
  ·rw[if_pos c6]at hF
   obtain⟨zo1_1,gt13,hF⟩:=bS hF;simp only[simprocAttr,R0,b323,h_0,w2,eq_true c3,w5,eq_true c6];refine W.mono (l323_1 x4 gt13 (ei _ (ei _ (ai rfl ?_)))) ?_
   ·simp only[simprocAttr,R0,h_0,w2,eq_true c3,w5,eq_true c6]
   rintro _ e _ ⟨rfl,u8,k9,rfl,h_10⟩;cases hF;simp only[simprocAttr,R0,h_10,eq_true c3,eq_true c6];exact qf (by simp only[simprocAttr,R0,qg,p323,Rs.ev,qc,h_10,eq_true c3,eq_true c6,frzs (α:=List Int) zo1_1,qO (α:=List Int) zo1_1])
  ·rw[if_neg c6]at hF
   by_cases c14:a3 < a1
   ·rw[if_pos c14]at hF
    obtain⟨zo1_1,gt21,hF⟩:=bS hF;simp only[simprocAttr,R0,b323,h_0,w2,eq_true c3,w5,eq_false c6,eq_true c14];refine W.mono (l323_1 x4 gt21 (ei _ (ei _ (ai rfl ?_)))) ?_
    ·simp only[simprocAttr,R0,h_0,w2,eq_true c3,w5,eq_false c6,eq_true c14]
    rintro _ e _ ⟨rfl,u16,k17,rfl,h_18⟩;cases hF;simp only[simprocAttr,R0,h_18,eq_true c3,eq_false c6,eq_true c14];exact qf (by simp only[simprocAttr,R0,qg,p323,Rs.ev,qc,h_18,eq_true c3,eq_false c6,eq_true c14,frzs (α:=List Int) zo1_1,qO (α:=List Int) zo1_1])
   ·rw[if_neg c14]at hF
    obtain⟨x22,gx22,hF⟩:=bS hF;have w23:ans A 281 [(eF a0),V.int .i64 a2,V.isl (x4.map enc)]=some (V.isl (x22.map enc)):=s281 a0 a2 x4 gx22;obtain⟨x24,gx24,hF⟩:=bS hF;have wx24:=qz gx24;obtain⟨x25,gx25,hF⟩:=bS hF;have wx25:=qz gx25;obtain⟨x26,gx26,hF⟩:=bS hF;have w27:ans A 329 [(eF a0),V.int .i64 a1,V.int .i64 x24,V.int .i64 x25]=some (V.isl (x26.map enc)):=s329 a0 a1 x24 x25 gx26;obtain⟨x28,gx28,hF⟩:=bS hF;have w29:ans A 279 [(eF a0),V.int .i64 a1,V.int .i64 x24,V.int .i64 x25]=some (V.isl (x28.map enc)):=s279 a0 a1 x24 x25 gx28;obtain⟨zo1_2,gt53,hF⟩:=bS hF;simp only[simprocAttr,R0,b323,h_0,w2,eq_true c3,w5,eq_false c6,eq_false c14,w23,wx24,wx25,w27,w29];refine W.mono (l323_2 a0 x22 x26 x28 gt53 (ei _ (ei _ (ai rfl ?_)))) ?_
    ·simp only[simprocAttr,R0,h_0,w2,eq_true c3,w5,eq_false c6,eq_false c14,w23,wx24,wx25,w27,w29]
    rintro _ e _ ⟨rfl,u31,k32,rfl,h_33⟩;cases hF;simp only[simprocAttr,R0,h_33,eq_true c3,eq_false c6,eq_false c14];exact qf (by simp only[simprocAttr,R0,qg,p323,Rs.ev,qc,h_33,eq_true c3,eq_false c6,eq_false c14,frzs (α:=List Int) zo1_2,qO (α:=List Int) zo1_2])
 ·rw[if_neg c3]at hF
  cases hF;simp only[simprocAttr,R0,b323,h_0,w2,eq_false c3];exact qf (by simp only[simprocAttr,R0,qg,p323,Rs.ev,qc,h_0,w2,eq_false c3])
def F324(a0:qd)(a1:Int)(a2:Int)(a3:Int):Option (T2 (List (List Int)) Int):=
 (F166 a0 a1 a2 a3).bind fun x1=>
 if x1=0 then
  (F170 a0 a1 a2 a3).bind fun x4=>
  some ⟨x4,0⟩
 else
  some ⟨([]:List (List Int)),x1⟩
theorem d324(a0:qd)(a1 a2 a3:Int){r:T2 (List (List Int)) Int}(hF:F324 a0 a1 a2 a3=some r):∃v h',res A 324 [(eF a0),V.int .i64 a1,V.int .i64 a2,V.int .i64 a3] Heap.empty=some (v,h')∧∃vs K,v=V.tup vs∧repF h' vs [⟨r.a⟩,⟨r.b⟩] K:=by
 refine jW (f:=p324) rfl rfl rfl fun e hl he=>?_;have h0_0:e.at 0=(eF a0):=he 0 _ rfl;have h1_0:e.at 1=V.int .i64 a1:=he 1 _ rfl;have h2_0:e.at 2=V.int .i64 a2:=he 2 _ rfl;have h3_0:e.at 3=V.int .i64 a3:=he 3 _ rfl;have hl_0:e.length=24:=hl;clear he hl;show W A b324 e ⟨[],0⟩ _;unfold F324 at hF;obtain⟨x1,gx1,hF⟩:=bS hF;have w2:=s166 a0 a1 a2 a3 gx1;by_cases c3:x1=0
 ·rw[if_pos c3]at hF
  obtain⟨x4,gx4,hF⟩:=bS hF;have w5:tans A 170 [1,1] [(eF a0),V.int .i64 a1,V.int .i64 a2,V.int .i64 a3]=some (V.isl (x4.map enc)):=x170 a0 a1 a2 a3 gx4;cases hF;obtain⟨v,⟨E1,c1⟩,K,t1,t2,t3,t4,t5⟩:=thawD (α:=List (List Int)) (by decide) x4 ⟨[(0,none)],1⟩;have t1':thaw 16 [1,1] (V.isl (x4.map enc)) ⟨[(0,none)],1⟩=some (v,⟨E1,c1⟩):=t1;simp only[simprocAttr,R0,b324,qE,t1', *];refine ai (fun _=> trivial) ⟨V.tup [v,V.int .i64 0],?_,_,_,rfl,pair_rep t2 _⟩;simp only[simprocAttr,R0,qg,p324,Rs.ev, *]
 ·rw[if_neg c3]at hF
  cases hF;simp only[simprocAttr,R0,b324, *];refine ai (fun _=> trivial) ⟨V.tup [V.nils,V.int .i64 x1],?_,_,_,rfl,pair_rep (α:=List (List Int)) (rep_nils _) _⟩;simp only[simprocAttr,R0,qg,p324,Rs.ev, *]
theorem s324(a0:qd)(a1 a2 a3:Int){r:T2 (List (List Int)) Int}(hF:F324 a0 a1 a2 a3=some r):ans A 324 [(eF a0),V.int .i64 a1,V.int .i64 a2,V.int .i64 a3]=some (EncR.enc r):=by
 obtain⟨_,h',h1,vs,K,rfl,h2⟩:=d324 a0 a1 a2 a3 hF;exact ans_tup (ss:=[1,1]) (fits_pair rfl (by decide)) h1 h2
def F405_S(code:List U8)(s:Int×Int):Option ((Int×Int)⊕Int):=
 if s.1 < (code.length:Int)then
  if s.1 < 4096 then(getI code s.1).bind fun b=>(chk (s.1+1)).bind fun j=> some (.inl (j,Go.IntKind.wrap .u64 (Go.IntKind.wrap .u64 (Go.IntKind.wrap .u64 (s.2*1099511628211)+Go.IntKind.wrap .u64 b.val)+89)))
  else some (.inr s.2)
 else some (.inr s.2)
noncomputable def F405(code:List U8):Option ql:=(qV (F405_S code) (0,Go.IntKind.wrap .u64 (12731+Go.IntKind.wrap .u64 (code.length:Int)))).bind fun h=> some ⟨code,0,h⟩
theorem d405(code:List U8){r:ql}(hF:F405 code=some r)(E:List (Nat×Option (List V)))(c:Nat):∃h',res A 405 [V.isl (code.map enc)] ⟨E,c⟩=some (V.ptr E.length c 0,h')∧h'=⟨E++[(c,some [V.isl (r.code.map enc),V.int .i64 r.at_,V.int .u64 r.hash])],c+1⟩:=by
 refine res_ex (f:=p405) rfl rfl rfl fun e hl he=>?_;have h0_0:e.at 0=V.isl (code.map enc):=he 0 _ rfl;have hl_0:e.length=38:=hl;clear he hl;show W A b405 e ⟨E,c⟩ _;unfold F405 at hF;obtain⟨hh,gh,hF⟩:=bS hF;have hE:=wA hF; subst hE;simp only[simprocAttr, -Int.reduceNatCast',R0,b405, *];refine W.mono (Q:=fun x' e h=> x'= .normal∧h=⟨E++[(c,some [V.isl (code.map enc),V.int .i64 0,V.int .u64 hh])],c+1⟩∧e.length=38∧e.at 3=V.ptr E.length c 0) ?_ ?_
 ·show W A (.block 0 (.loop true b405_1)) _ _ _
  rw[qr];refine jh gh _ rfl (fun s e h=> h=⟨E++[(c,some [V.isl (code.map enc),V.int .i64 0,V.int .u64 s.2])],c+1⟩∧e.length=38∧e.at 0=V.isl (code.map enc)∧e.at 3=V.ptr E.length c 0∧e.at 4=V.int .i64 s.1) ?_ ?_
  ·refine ai rfl ?_
   simp only[simprocAttr, -Int.reduceNatCast',R0, *]
  ·clear hl_0 h0_0
   rintro⟨i,q⟩ e h ⟨rfl,hl_1,h0_1,h3_1,h4_1⟩ o ho;simp only at h4_1;unfold F405_S at ho;simp only at ho;by_cases c1:i < (code.length:Int)
   ·rw[if_pos c1]at ho
    by_cases c2:i < 4096
    ·rw[if_pos c2]at ho
     obtain⟨b,gb,ho⟩:=bS ho;obtain⟨wb1,wb2⟩:=qk gb;obtain⟨j,gj,ho⟩:=bS ho;have wj:=qz gj;have hE:=wA ho; subst hE;simp only[simprocAttr, -Int.reduceNatCast',R0,b405_1,qF,set_last, *];refine ai rfl (ai rfl ?_);simp only[simprocAttr, -Int.reduceNatCast',R0, *]
    ·rw[if_neg c2]at ho
     have hE:=wA ho; subst hE;simp only[simprocAttr, -Int.reduceNatCast',R0,b405_1, *];intro ht; subst ht;simp only[simprocAttr, -Int.reduceNatCast',R0, *]
   ·rw[if_neg c1]at ho
    have hE:=wA ho; subst hE;simp only[simprocAttr, -Int.reduceNatCast',R0,b405_1, *];intro ht; subst ht;simp only[simprocAttr, -Int.reduceNatCast',R0, *]
 ·rintro _ e h ⟨rfl,rfl,hl_2,h3_2⟩
  simp only[simprocAttr, -Int.reduceNatCast',R0, *];refine ai (fun _=> trivial) ?_;simp only[simprocAttr, -Int.reduceNatCast',R0,qg,p405,Rs.ev, *]
def F416(src:ql)(a1:Int):Option (T2 Int ql):=
 if a1 < 1 then
  some ⟨0,src⟩
 else
  (chk (Go.IntKind.wrap .u64 (BitVec.ofInt (Go.IntKind.bits .u64) (Int.fdiv (Go.IntKind.wrap .u64 ((Go.IntKind.wrap .u64 (src.hash*6364136223846793005))+1442695040888963407)) (2^min 33 (Go.IntKind.bits .u64)))&&& BitVec.ofInt (Go.IntKind.bits .u64) 16777215).toNat)).bind fun x2=>
  if src.at_ < (src.code.length:Int)then
   (getI src.code src.at_).bind fun x4=>
   (chk x4.val).bind fun x6=>
   (chk (x2+x6)).bind fun x7=>
   (chk (src.at_+1)).bind fun x8=>
   (remI x7 a1).bind fun x9=>
   some ⟨x9,⟨src.code,x8,Go.IntKind.wrap .u64 ((Go.IntKind.wrap .u64 (src.hash*6364136223846793005))+1442695040888963407)⟩⟩
  else
   (remI x2 a1).bind fun x11=>
   some ⟨x11,⟨src.code,src.at_,Go.IntKind.wrap .u64 ((Go.IntKind.wrap .u64 (src.hash*6364136223846793005))+1442695040888963407)⟩⟩
theorem s416(src:ql)(a1:Int){r:T2 Int ql}(hF:F416 src a1=some r):xans A 416 [V.isl (src.code.map enc),V.int .i64 src.at_,V.int .u64 src.hash] [V.int .i64 a1]=some (V.int .i64 r.a,[V.isl (r.b.code.map enc),V.int .i64 r.b.at_,V.int .u64 r.b.hash]):=by
 refine jI (f:=p416) rfl rfl rfl fun e hl h0 he=>?_;have h0_0:e.at 0=V.ptr 0 0 0:=h0;have h1_0:e.at 1=V.int .i64 a1:=he 0 _ rfl;have hl_0:e.length=58:=hl;clear h0 he hl;show W A b416 e ⟨[(0,some [V.isl (src.code.map enc),V.int .i64 src.at_,V.int .u64 src.hash])],1⟩ _;unfold F416 at hF;by_cases c1:a1 < 1
 ·rw[if_pos c1]at hF
  cases hF;simp only[simprocAttr,R0,b416, *];exact qY (by simp only[simprocAttr,R0,qg,p416,Rs.ev,qc, *])
 ·rw[if_neg c1]at hF
  obtain⟨x2,gx2,hF⟩:=bS hF;have wx2:=qz gx2;by_cases c3:src.at_ < (src.code.length:Int)
  ·rw[if_pos c3]at hF
   obtain⟨x4,gx4,hF⟩:=bS hF;obtain⟨w5a,w5b⟩:=qk gx4;obtain⟨x6,gx6,hF⟩:=bS hF;have wx6:=qz gx6;obtain⟨x7,gx7,hF⟩:=bS hF;have wx7:=qz gx7;obtain⟨x8,gx8,hF⟩:=bS hF;have wx8:=qz gx8;obtain⟨x9,gx9,hF⟩:=bS hF;obtain⟨w10a,w10b⟩:=rem_w gx9;cases hF;simp only[simprocAttr,R0,b416,binV_shr33,binV_and64, *];exact qY (by simp only[simprocAttr,R0,qg,p416,Rs.ev,qc,binV_shr33,binV_and64, *])
  ·rw[if_neg c3]at hF
   obtain⟨x11,gx11,hF⟩:=bS hF;obtain⟨w12a,w12b⟩:=rem_w gx11;cases hF;simp only[simprocAttr,R0,b416,binV_shr33,binV_and64, *];exact qY (by simp only[simprocAttr,R0,qg,p416,Rs.ev,qc,binV_shr33,binV_and64, *])
def F412(src:ql)(a1:List Int):Option (T2 Int ql):=
 (F416 src (a1.length:Int)).bind fun x1=>
 (getI a1 x1.a).bind fun x3=>
 some ⟨x3,x1.b⟩
theorem s412(src:ql)(a1:List Int){r:T2 Int ql}(hF:F412 src a1=some r):xans A 412 [V.isl (src.code.map enc),V.int .i64 src.at_,V.int .u64 src.hash] [V.isl (a1.map enc)]=some (V.int .i64 r.a,[V.isl (r.b.code.map enc),V.int .i64 r.b.at_,V.int .u64 r.b.hash]):=by
 refine jI (f:=p412) rfl rfl rfl fun e hl h0 he=>?_;have h0_0:e.at 0=V.ptr 0 0 0:=h0;have h1_0:e.at 1=V.isl (a1.map enc):=he 0 _ rfl;have hl_0:e.length=12:=hl;clear h0 he hl;show W A b412 e ⟨[(0,some [V.isl (src.code.map enc),V.int .i64 src.at_,V.int .u64 src.hash])],1⟩ _;unfold F412 at hF;obtain⟨x1,gx1,hF⟩:=bS hF;have w2:xans A 416 [V.isl (src.code.map enc),V.int .i64 src.at_,V.int .u64 src.hash] [V.int .i64 (a1.length:Int)]=some (V.int .i64 x1.a,[V.isl (x1.b.code.map enc),V.int .i64 x1.b.at_,V.int .u64 x1.b.hash]):=s416 src (a1.length:Int) gx1;obtain⟨x3,gx3,hF⟩:=bS hF;obtain⟨w4a,w4b⟩:=qk gx3;cases hF;simp only[simprocAttr,R0,b412,qj, *];exact qY (by simp only[simprocAttr,R0,qg,p412,Rs.ev,qc,qj, *])
def F411(src:ql)(a1:Int):Option (T2 Int ql):=
 (F416 src 14).bind fun x1=>
 if x1.a=0 then
  (chk (a1+1)).bind fun x4=>
  (F412 x1.b [(-1),x4,1099511627776,(-4611686018427387904)]).bind fun x5=>
  some ⟨x5.a,x5.b⟩
 else
  (chk (a1+1)).bind fun x7=>
  (F416 x1.b x7).bind fun x8=>
  some ⟨x8.a,x8.b⟩
theorem s411(src:ql)(a1:Int){r:T2 Int ql}(hF:F411 src a1=some r):xans A 411 [V.isl (src.code.map enc),V.int .i64 src.at_,V.int .u64 src.hash] [V.int .i64 a1]=some (V.int .i64 r.a,[V.isl (r.b.code.map enc),V.int .i64 r.b.at_,V.int .u64 r.b.hash]):=by
 refine jI (f:=p411) rfl rfl rfl fun e hl h0 he=>?_;have h0_0:e.at 0=V.ptr 0 0 0:=h0;have h1_0:e.at 1=V.int .i64 a1:=he 0 _ rfl;have hl_0:e.length=17:=hl;clear h0 he hl;show W A b411 e ⟨[(0,some [V.isl (src.code.map enc),V.int .i64 src.at_,V.int .u64 src.hash])],1⟩ _;unfold F411 at hF;obtain⟨x1,gx1,hF⟩:=bS hF;have w2:xans A 416 [V.isl (src.code.map enc),V.int .i64 src.at_,V.int .u64 src.hash] [V.int .i64 14]=some (V.int .i64 x1.a,[V.isl (x1.b.code.map enc),V.int .i64 x1.b.at_,V.int .u64 x1.b.hash]):=s416 src 14 gx1;by_cases c3:x1.a=0
 ·rw[if_pos c3]at hF
  obtain⟨x4,gx4,hF⟩:=bS hF;have wx4:=qz gx4;obtain⟨x5,gx5,hF⟩:=bS hF;have w6:xans A 412 [V.isl (x1.b.code.map enc),V.int .i64 x1.b.at_,V.int .u64 x1.b.hash] [V.isl [V.int .i64 (-1),V.int .i64 x4,V.int .i64 1099511627776,V.int .i64 (-4611686018427387904)]]=some (V.int .i64 x5.a,[V.isl (x5.b.code.map enc),V.int .i64 x5.b.at_,V.int .u64 x5.b.hash]):=s412 x1.b [(-1),x4,1099511627776,(-4611686018427387904)] gx5;cases hF;simp only[simprocAttr,R0,b411,qj,qj, *];exact qY (by simp only[simprocAttr,R0,qg,p411,Rs.ev,qc,qj,qj, *])
 ·rw[if_neg c3]at hF
  obtain⟨x7,gx7,hF⟩:=bS hF;have wx7:=qz gx7;obtain⟨x8,gx8,hF⟩:=bS hF;have w9:xans A 416 [V.isl (x1.b.code.map enc),V.int .i64 x1.b.at_,V.int .u64 x1.b.hash] [V.int .i64 x7]=some (V.int .i64 x8.a,[V.isl (x8.b.code.map enc),V.int .i64 x8.b.at_,V.int .u64 x8.b.hash]):=s416 x1.b x7 gx8;cases hF;simp only[simprocAttr,R0,b411,qj,qj, *];exact qY (by simp only[simprocAttr,R0,qg,p411,Rs.ev,qc,qj,qj, *])
def F95_1_B(a0:List (List Int))(v4_1:Int)(o0_1:(List (List Int))):Option (((List (List Int)))⊕((List (List Int)))):=
 (getI a0 v4_1).bind fun x5=>
(F94 x5).bind fun x7=>
(app 24 o0_1 [x7]).bind fun l10=>
some (.inl l10)
def F95_1_D(a0:List (List Int))(v4_1:Int)(o0_1:(List (List Int))):Option ((List (List Int))):=
 some o0_1
def F95(a0:List (List Int)):Option (List (List Int)):=
 (forR 0 (a0.length:Int) (F95_1_B a0) (F95_1_D a0) ([]:(List (List Int)))).bind fun zo0_1=>
 some zo0_1
theorem d95(a0:List (List Int)){r:List (List Int)}(hF:F95 a0=some r):∃v h',res A 95 [V.isl (a0.map enc)] Heap.empty=some (v,h')∧∃K,Deep.rep h' v r K:=by
 refine jW (f:=p95) rfl rfl rfl fun e hl he=>?_;have h0_0:e.at 0=V.isl (a0.map enc):=he 0 _ rfl;have hl_0:e.length=21:=hl;clear he hl;show W A b95 e ⟨[],0⟩ _;unfold F95 at hF;obtain⟨zo0_1,gt11,hF⟩:=bS hF;have hE:=wA hF; subst hE;simp only[simprocAttr, -Int.reduceNatCast',R1,b95, *];show W A (.block 0 (.loop true b95_1)) _ _ _;rw[qr];refine qD gt11 _ rfl (fun i l e h=>∃u vs K,h.ents[0]? =some (u,some vs)∧reps h vs l K∧¬K 0∧e.length=21∧e.at 0=V.isl (a0.map enc)∧e.at 3=V.sl 0 u 0 l.length 1∧e.at 4=V.int .i64 i) ?_ ?_ ?_
 ·refine⟨0,[],fun _=> False,rfl,fun _ x=> x,fun x=> x,?_⟩
  simp only[simprocAttr, -Int.reduceNatCast',R1, *]
 ·rintro i l e ⟨E,c⟩ ⟨u,vs,K,g1,g2,g3,hl_1,h0_1,h3_1,h4_1⟩ hlt hw o ho
  unfold F95_1_B at ho;obtain⟨x5,gx5,ho⟩:=bS ho;obtain⟨w6a,w6b⟩:=qk gx5;obtain⟨x7,gx7,ho⟩:=bS ho;have w8:=t94 x5 gx7;obtain⟨l10,gl10,ho⟩:=bS ho;obtain⟨q1,q2,rfl⟩:=app_w gl10;have hE:=wA ho; subst hE;have hln:=g2.len;have hE0:0 < E.length:=(List.getElem?_eq_some_iff.1 g1).1;have w9:∀x y c',qS 1 24 (.sl 0 u 0 l.length 1) 1 [V.sl E.length c 0 x7.length 1] ⟨E++[x]++[y],c'⟩=_:=fun x y c'=> zq (E:=E++[x]++[y]) (vs:=vs) (by rw[List.getElem?_append_left (by simp),List.getElem?_append_left hE0]; exact g1) hln (by simpa using q1) (by simpa using q2);simp only[simprocAttr, -Int.reduceNatCast',R1,b95_1,qE,zb,qF, *];have r1:=deep_round (h:=⟨E,c⟩) (h1:=⟨E++[(c,some (x7.map enc))],c+1⟩) (h2:=⟨(E++[(c,some (x7.map enc))]++[(c+1,some [V.sl E.length c 0 x7.length 1])]).set 0 (c+1+1,some (vs++[V.sl E.length c 0 x7.length 1])),c+1+1+1⟩) g2
   (jq (l:=x7) (K:=fun k=> k=E.length) (qF _ _) fun k=> yE) (fun k q=> by show E.length≤k; omega) (fun k q=> List.getElem?_append_left q) (fun k p q=> zt (fun e=> by subst e; exact q.elim g3 (fun q=> by omega)) p) (by simp)
  refine ai rfl ⟨_,_,_,qp (by simp),r1,fun q=> q.elim g3 (fun q=> by omega),?_⟩;simp only[simprocAttr, -Int.reduceNatCast',R1,wP, *]
 ·rintro i l e ⟨E,c⟩ ⟨u,vs,K,g1,g2,g3,hl_1,h0_1,h3_1,h4_1⟩ hge t1 ho
  unfold F95_1_D at ho;have hE:=wA ho; subst hE;simp only[simprocAttr, -Int.reduceNatCast',R1,b95_1, *];intro ht; subst ht;refine ai (fun _=> trivial) ⟨_,by simp only[simprocAttr, -Int.reduceNatCast',R1,qg,p95,Rs.ev, *],fun k=> k=0∨K k,.inr ⟨0,u,vs,K,rfl,g1,g2,g3,fun k=> yE⟩⟩
theorem x95(a0:List (List Int)){r:List (List Int)}(hF:F95 a0=some r):tans A 95 [1,1] [V.isl (a0.map enc)]=some (enc r):=zK (α:=List (List Int)) (by decide) (d95 a0 hF)
def F55_1_B(a0:qh)(v4_1:Int)(s:(List (List (List Int)))×Int×(List Int)):Option (((List (List (List Int)))×Int×(List Int))⊕((List (List (List Int)))×Int×(List Int))):=
 match s with
 |(o2_1,q3_0_1,q3_1_1)=>
  (getI a0.Maps v4_1).bind fun x7=>
  (F95 x7).bind fun x9=>
  (app 24 o2_1 [x9]).bind fun l12=>
  some (.inl (l12,q3_0_1,q3_1_1))
def F55_1_D(a0:qh)(v4_1:Int)(s:(List (List (List Int)))×Int×(List Int)):Option ((List (List (List Int)))×Int×(List Int)):=
 match s with
 |(o2_1,q3_0_1,q3_1_1)=>
  some (o2_1,q3_0_1,q3_1_1)
def F55(a0:qh):Option qh:=
 (F94 a0.Dims).bind fun x1=>
 (forR 0 (a0.Maps.length:Int) (F55_1_B a0) (F55_1_D a0) ([],a0.Prime,x1)).bind fun t13=> match t13 with
  |(zo2_1,zq3_0_1,zq3_1_1)=>
   some ⟨zq3_0_1,zq3_1_1,zo2_1⟩
theorem d55(x:qh){r:qh}(hF:F55 x=some r):∃v h',res A 55 [(eC x)] Heap.empty=some (v,h')∧∃m K,v=V.agg [V.int .i64 r.Prime,V.isl (r.Dims.map enc),m]∧Deep.rep h' m r.Maps K:=by
 refine jW (f:=p55) rfl rfl rfl fun e hl he=>?_;have h0_0:e.at 0=(eC x):=he 0 _ rfl;have hl_0:e.length=31:=hl;clear he hl;show W A b55 e ⟨[],0⟩ _;unfold F55 at hF;obtain⟨x1,gx1,hF⟩:=bS hF;have w1:=s94 x.Dims gx1;obtain⟨t13,gt13,hF⟩:=bS hF;simp only[simprocAttr,R0,b55, *];show W A (.block 0 (.loop true b55_1)) _ _ _;rw[qr];refine qD gt13 _ rfl (fun i s e h=> s.2=(x.Prime,x1)∧∃u vs K,h.ents[1]? =some (1,some [V.int .i64 0,V.nils,V.nils])∧h.ents[2]? =some (u,some vs)∧h.ents[3]? =some (3,some [V.int .i64 x.Prime,V.isl (x1.map enc),V.sl 2 u 0 s.1.length 1])∧reps h vs s.1 K∧(∀k,K k→4≤k)∧e.length=31∧e.at 1=V.iptr [V.int .i64 x.Prime,V.isl (x.Dims.map enc),V.isl (x.Maps.map enc)]∧e.at 2=V.ptr 1 1 0∧e.at 3=V.ptr 3 3 0∧e.at 4=V.int .i64 i) ?_ ?_ ?_
 ·refine⟨rfl,2,[],fun _=> False,rfl,rfl,rfl,fun _ x=> x,fun _ x=> x.elim,?_⟩
  simp only[simprocAttr,R0, *]
 ·rintro i ⟨l,q⟩ e ⟨E,c⟩ ⟨rfl,u,vs,K,g1,g2,g3,g4,g5,h_1⟩ hlt hw o ho
  unfold F55_1_B at ho;simp only at ho g3;obtain⟨x5,gx5,ho⟩:=bS ho;obtain⟨w6a,w6b⟩:=qk gx5;obtain⟨x7,gx7,ho⟩:=bS ho;have w8:=x95 x5 gx7;obtain⟨l10,gl10,ho⟩:=bS ho;obtain⟨q1,q2,rfl⟩:=app_w gl10;cases ho;have hln:=g4.len;have hE0:3 < E.length:=(List.getElem?_eq_some_iff.1 g3).1;obtain⟨v,⟨E1,c1⟩,t1,t2,t3,t4⟩:=thaw_deep (α:=List (List Int)) (by decide) x7 ⟨E,c⟩;have t1':thaw 16 [1,1] (V.isl (x7.map enc)) ⟨E,c⟩=some (v,⟨E1,c1⟩):=t1;simp only at t2 t3 t4 g1 g2 g3;have m1:=(t4 1 (by omega)).trans g1;have m2:=(t4 2 (by omega)).trans g2;have m3:=(t4 3 (by omega)).trans g3;have n1:∀y z,(((E1++[y]).set 2 z))[1]? =_:=fun y z=>(zt (by decide) (by omega)).trans m1;have n3:∀y z,(((E1++[y]).set 2 z))[3]? =_:=fun y z=>(zt (by decide) (by omega)).trans m3;obtain⟨v1,v2⟩:=rep_one t2;have w9:∀y c',qS 1 24 (.sl 2 u 0 l.length 1) 1 [v] ⟨E1++[y],c'⟩=_:=fun y c'=> zq (E:=E1++[y]) (vs:=vs) (by rw[List.getElem?_append_left (by omega)]; exact m2) hln (by simpa using q1) (by simpa using q2);simp only[simprocAttr,R0,b55_1,qE,t1',v1,v2,m1,m2,m3,qF,n1,n3, *];have r1:=deep_round (h:=⟨E,c⟩) (h1:=⟨E1,c1⟩) (h2:=⟨((E1++[(c1,some [v])]).set 2 (c1+1,some (vs++[v]))).set 3 (3,some [V.int .i64 x.Prime,V.isl (x1.map enc),V.sl 2 (c1+1) 0 (l.length+1) 1]),c1+1+1⟩) (K:=K) g4
   t2 (fun k q=> q.1) t4 (fun k p q=> by
    have hk:4≤k:=q.elim (g5 _) (fun q=> by omega);rw[qi (by omega)];exact zt (by omega) p) t3
  refine ai rfl (ai rfl ⟨c1+1,vs++[v],fun k=> K k∨(E.length≤k∧k < E1.length),?_,?_,?_,r1,fun k q=> q.elim (g5 _) (fun q=> by omega),?_⟩)
  rotate_left
  ·exact(qi (by decide)).trans (qp (by simp; omega))
  ·simp only[wP,vK,vD,wV]
   exact qp (by simp; omega)
  ·simp only[simprocAttr,R0, *]
  ·exact(qi (by decide)).trans (n1 _ _)
 ·rintro i ⟨l,q⟩ e ⟨E,c⟩ ⟨rfl,u,vs,K,g1,g2,g3,g4,g5,h_1⟩ hge t1 ho
  unfold F55_1_D at ho;cases ho;simp only at hF g1 g2 g3;simp only[simprocAttr,R0,b55_1, *];intro ht; subst ht;cases hF;have hE0:3 < E.length:=(List.getElem?_eq_some_iff.1 g3).1;refine ai (fun _=> trivial) ⟨_,by simp only[simprocAttr,R0,qg,p55,Rs.ev,qp (show 1 < E.length by omega), *]; rfl,_,_,rfl,rep_at (α:=List (List Int)) (K:=K) ?_ (g4.frame fun k q=> qi (by have:=g5 k q; omega)) (fun q=> by have:=g5 _ q; omega)⟩;exact(qi (by decide)).trans g2
theorem x55(x:qh){r:qh}(hF:F55 x=some r):tans A 55 [1,1,1] [(eC x)]=some (V.agg [V.int .i64 r.Prime,V.iptr [V.isl (r.Dims.map enc)],V.isl (r.Maps.map enc)]):=by
 obtain⟨v,h',h1,m,K,rfl,h2⟩:=d55 x hF;exact tans_agg h1 h2
def F421_2_S(p:Int)(k:Int)(s:(ql×List (List (List Int)))×Int):Option (((ql×List (List (List Int)))×Int)⊕(ql×List (List (List Int)))):=
 (getI s.1.2 k).bind fun t=> if s.2 < (t.length:Int)then(getI t s.2).bind fun row=> if 0 < (row.length:Int)then(F416 s.1.1 (row.length:Int)).bind fun j=>(chk (p - 1)).bind fun q=>(F412 j.b [1,q,p]).bind fun v=>(setI row j.a v.a).bind fun row'=>(setI t s.2 row').bind fun t'=>(setI s.1.2 k t').bind fun ms=>(chk (s.2+1)).bind fun i=> some (.inl ((v.b,ms),i))
  else(chk (s.2+1)).bind fun i=> some (.inl (s.1,i))else some (.inr s.1)
def F421_1_S(p:Int)(s:(ql×List (List (List Int)))×Int):Option (((ql×List (List (List Int)))×Int)⊕(ql×List (List (List Int)))):=
 if s.2 < (s.1.2.length:Int)then(qV (F421_2_S p s.2) (s.1,0)).bind fun t=>(chk (s.2+1)).bind fun k=> some (.inl (t,k))else some (.inr s.1)
def F421(src:ql)(x:qh):Option (T2 qh ql):=(F416 src 40).bind fun k=>
 if k.a=0 then(F412 k.b [0,4,11]).bind fun v=> some ⟨⟨v.a,x.Dims,x.Maps⟩,v.b⟩
 else if k.a=1 then(F94 x.Dims).bind fun ds=>(F416 k.b (ds.length:Int)).bind fun i=>(F412 i.b [(-1),9,1]).bind fun v=>(setI ds i.a v.a).bind fun ds'=> some ⟨⟨x.Prime,ds',x.Maps⟩,v.b⟩
 else if k.a=2 then(F94 x.Dims).bind fun ds=>(app 8 ds [0]).bind fun ds'=> some ⟨⟨x.Prime,ds',x.Maps⟩,k.b⟩
 else if k.a=3 then(F55 x).bind fun y=>(qV (F421_1_S y.Prime) ((k.b,y.Maps),0)).bind fun s=> some ⟨⟨y.Prime,y.Dims,s.2⟩,s.1⟩
 else some ⟨x,k.b⟩
set_option maxHeartbeats 8000000 in
theorem s421(src:ql)(x:qh){r:T2 qh ql}(hF:F421 src x=some r):xans A 421 [V.isl (src.code.map enc),V.int .i64 src.at_,V.int .u64 src.hash] [(eC x)]=some ((eC r.a),[V.isl (r.b.code.map enc),V.int .i64 r.b.at_,V.int .u64 r.b.hash]):=by
 refine jI (f:=p421) rfl rfl rfl fun e hl h0 he=>?_;have h0_0:e.at 0=V.ptr 0 0 0:=h0;have h1_0:e.at 1=(eC x):=he 0 _ rfl;have hl_0:e.length=88:=hl;clear h0 he hl;show W A b421 e ⟨[(0,some [V.isl (src.code.map enc),V.int .i64 src.at_,V.int .u64 src.hash])],1⟩ _;unfold F421 at hF;obtain⟨k,gk,hF⟩:=bS hF;have wk:xans A 416 [V.isl (src.code.map enc),V.int .i64 src.at_,V.int .u64 src.hash] [V.int .i64 40]=some (V.int .i64 k.a,[V.isl (k.b.code.map enc),V.int .i64 k.b.at_,V.int .u64 k.b.hash]):=s416 src 40 gk;by_cases c0:k.a=0
 ·rw[if_pos c0]at hF
  obtain⟨v,gv,hF⟩:=bS hF;have wv:xans A 412 [V.isl (k.b.code.map enc),V.int .i64 k.b.at_,V.int .u64 k.b.hash] [V.isl [V.int .i64 0,V.int .i64 4,V.int .i64 11]]=some (V.int .i64 v.a,[V.isl (v.b.code.map enc),V.int .i64 v.b.at_,V.int .u64 v.b.hash]):=s412 k.b [0,4,11] gv;have hE:=wA hF; subst hE;simp only[simprocAttr, -Int.reduceNatCast',R0,b421,hl_0,h0_0,h1_0,qj,wk,eq_true c0,wv];exact qY (by simp only[simprocAttr, -Int.reduceNatCast',R0,qg,p421,Rs.ev,hl_0,h0_0,h1_0])
 rw[if_neg c0]at hF;by_cases c1:k.a=1
 ·rw[if_pos c1]at hF
  obtain⟨ds,gds,hF⟩:=bS hF;have wds:tans A 94 [1] [V.isl (x.Dims.map enc)]=some (V.isl (ds.map enc)):=t94 x.Dims gds;have wdt:=zb (α:=Int) ds;obtain⟨i,gi,hF⟩:=bS hF;have wi:xans A 416 [V.isl (k.b.code.map enc),V.int .i64 k.b.at_,V.int .u64 k.b.hash] [V.int .i64 (ds.length:Int)]=some (V.int .i64 i.a,[V.isl (i.b.code.map enc),V.int .i64 i.b.at_,V.int .u64 i.b.hash]):=s416 k.b (ds.length:Int) gi;obtain⟨v,gv,hF⟩:=bS hF;have wv:xans A 412 [V.isl (i.b.code.map enc),V.int .i64 i.b.at_,V.int .u64 i.b.hash] [V.isl [V.int .i64 (-1),V.int .i64 9,V.int .i64 1]]=some (V.int .i64 v.a,[V.isl (v.b.code.map enc),V.int .i64 v.b.at_,V.int .u64 v.b.hash]):=s412 i.b [(-1),9,1] gv;obtain⟨ds',gs,hF⟩:=bS hF;obtain⟨s1,s2,s3,s4,s5⟩:=jV gs;have s5':List.take i.a.toNat (ds.map enc)++[V.int .i64 v.a]++List.drop (i.a.toNat+1) (ds.map enc)=List.map enc ds':=s5;have hE:=wA hF; subst hE;simp only[simprocAttr, -Int.reduceNatCast',R0,b421,hl_0,h0_0,h1_0,qj,wk,eq_false c0,eq_true c1,qE,wds,wdt,wi,wv,s1,s2,s3,s5'];exact qY (by simp only[simprocAttr, -Int.reduceNatCast',R0,qg,p421,Rs.ev,hl_0,h0_0,h1_0,frzs (α:=Int) ds',qO (α:=Int) ds',take_len (α:=Int) (l:=ds') (n:=ds.length) s4,le_of_len (l:=ds') (n:=ds.length) s4,s4])
 rw[if_neg c1]at hF;by_cases c2:k.a=2
 ·rw[if_pos c2]at hF
  obtain⟨ds,gds,hF⟩:=bS hF;have wds:tans A 94 [1] [V.isl (x.Dims.map enc)]=some (V.isl (ds.map enc)):=t94 x.Dims gds;have wdt:=zb (α:=Int) ds;obtain⟨ds',gs,hF⟩:=bS hF;have w15:=fun ents key uid clk he=> qA (α:=Int) (n:=ds.length) (m:=1) (ds:=[V.int .i64 0]) gs rfl rfl rfl ents key uid clk he;have hE:=wA hF; subst hE;simp only[simprocAttr, -Int.reduceNatCast',R0,b421,hl_0,h0_0,h1_0,qj,wk,eq_false c0,eq_false c1,eq_true c2,qE,wds,wdt,w15];exact qY (by simp only[simprocAttr, -Int.reduceNatCast',R0,qg,p421,Rs.ev,hl_0,h0_0,h1_0,frzs (α:=Int) ds',qO (α:=Int) ds',qc])
 rw[if_neg c2]at hF;by_cases c3:k.a=3
 ·rw[if_pos c3]at hF
  obtain⟨y,gy,hF⟩:=bS hF;have wy:=x55 x gy;obtain⟨⟨s',ms'⟩,gl,hF⟩:=bS hF;have hE:=wA hF; subst hE;obtain⟨m,⟨E1,c1'⟩,t1,t2,t3,t4⟩:=thaw_agg y.Prime y.Dims y.Maps ⟨[(0,some [V.isl (k.b.code.map enc),V.int .i64 k.b.at_,V.int .u64 k.b.hash]),(1,some [V.int .i64 x.Prime,V.isl (x.Dims.map enc),V.isl (x.Maps.map enc)]),(2,some [V.int .i64 0,V.nils,V.nils])],3⟩;simp only[vK,vD,wV,Nat.reduceAdd]at t2 t3 t4;have m0:E1[0]? =some (0,some [V.isl (k.b.code.map enc),V.int .i64 k.b.at_,V.int .u64 k.b.hash]):=t4 0 (by decide);have m1:E1[1]? =some (1,some [V.int .i64 x.Prime,V.isl (x.Dims.map enc),V.isl (x.Maps.map enc)]):=t4 1 (by decide);have m2:E1[2]? =some (2,some [V.int .i64 0,V.nils,V.nils]):=t4 2 (by decide);simp only[simprocAttr, -Int.reduceNatCast',R0,b421,hl_0,h0_0,h1_0,qj,wk,eq_false c0,eq_false c1,eq_false c2,eq_true c3,qE,wy,t1,m1];refine W.mono (Q:=fun x' e h=> x'= .normal∧h.ents[0]? =some (0,some [V.isl (List.map enc s'.code),V.int .i64 s'.at_,V.int .u64 s'.hash])∧h.ents[1]? =some (1,some [V.int .i64 y.Prime,V.isl (y.Dims.map enc),m])∧h.ents[2]? =some (2,some [V.int .i64 0,V.nils,V.nils])∧Deep.rep h m ms' (fun k=> 3≤k∧k < E1.length)∧e.length=88∧e.at 0=V.ptr 0 0 0∧e.at 3=V.ptr 1 1 0∧e.at 4=V.ptr 2 2 0) ?_ ?_
  rotate_left
  ·rintro _ e ⟨E,c⟩ ⟨rfl,g0,g1,g2,g3,hl_1,h0_1,h3_1,h4_1⟩
   simp only at g0 g1 g2;have hE2:2 < E.length:=(List.getElem?_eq_some_iff.1 g2).1;simp only[simprocAttr, -Int.reduceNatCast',R0,hl_1,h0_1,h3_1,h4_1,g1,g2];have r2:∀w:Nat×Option (List V),(E.set 2 w)[2]? =some w:=fun w=> qp (by omega);have r0:∀w:Nat×Option (List V),(E.set 2 w)[0]? =_:=fun w=>(qi (by omega)).trans g0;have r3:∀ (w u:Nat×Option (List V)) c,frz ⟨(E.set 2 w).set 0 u,c⟩ 15 m=some (V.isl (List.map enc ms')):=fun w u c=> Deep.fz (α:=List (List (List Int))) (Deep.frame g3 fun k q=>(qi (by omega)).trans (qi (by omega))) 8;exact qY (by simp only[simprocAttr, -Int.reduceNatCast',R0,qg,p421,Rs.ev,hl_1,h0_1,h3_1,h4_1,r2,r0,r3])
  show W A (.block 1 (.loop true b421_1)) _ _ _;rw[qr];refine jh gl _ rfl (fun s e h=> h.ents[0]? =some (0,some [V.isl (List.map enc s.1.1.code),V.int .i64 s.1.1.at_,V.int .u64 s.1.1.hash])∧h.ents[1]? =some (1,some [V.int .i64 y.Prime,V.isl (y.Dims.map enc),m])∧h.ents[2]? =some (2,some [V.int .i64 0,V.nils,V.nils])∧Deep.rep h m s.1.2 (fun k=> 3≤k∧k < E1.length)∧e.length=88∧e.at 0=V.ptr 0 0 0∧e.at 3=V.ptr 1 1 0∧e.at 4=V.ptr 2 2 0∧e.at 6=V.int .i64 s.2) ?_ ?_
  ·refine⟨(qi (by omega)).trans m0,qp (by omega),(qi (by omega)).trans m2,Deep.frame t2 fun k q=> qi (by omega),?_⟩
   simp only[simprocAttr, -Int.reduceNatCast',R0,hl_0,h0_0,h1_0]
  ·clear t1 t2 t4 m0 m1 m2 hl_0 h0_0 h1_0 wy wk gl
   rintro⟨⟨s,ms⟩,i⟩ e ⟨E,c⟩ ⟨g0,g1,g2,g3,hl_1,h0_1,h3_1,h4_1,h6_1⟩ oo ho;simp only at g0 g1 g2 g3 h6_1;unfold F421_1_S at ho;simp only at ho;have hlen:=rep_len g3;by_cases q1:i < (ms.length:Int)
   ·rw[if_pos q1]at ho
    obtain⟨⟨s2,ms2⟩,gl,ho⟩:=bS ho;obtain⟨i',gi,ho⟩:=bS ho;have wi:=qz gi;have hE:=wA ho; subst hE;simp only[simprocAttr, -Int.reduceNatCast',R0,b421_1,hl_1,h0_1,h3_1,h4_1,h6_1,g1,hlen,eq_true q1];refine W.mono (Q:=fun x' e h=> x'= .normal∧h.ents[0]? =some (0,some [V.isl (s2.code.map enc),V.int .i64 s2.at_,V.int .u64 s2.hash])∧h.ents[1]? =some (1,some [V.int .i64 y.Prime,V.isl (y.Dims.map enc),m])∧h.ents[2]? =some (2,some [V.int .i64 0,V.nils,V.nils])∧Deep.rep h m ms2 (fun k=> 3≤k∧k < E1.length)∧e.length=88∧e.at 0=V.ptr 0 0 0∧e.at 3=V.ptr 1 1 0∧e.at 4=V.ptr 2 2 0∧e.at 6=V.int .i64 i) ?_ ?_
    rotate_left
    ·rintro _ e ⟨E2,c2⟩ ⟨rfl,k0,k1,k2,k3,hl_2,h0_2,h3_2,h4_2,h6_2⟩
     simp only at k0 k1 k2;simp only[simprocAttr, -Int.reduceNatCast',R0,hl_2,h0_2,h3_2,h4_2,h6_2,wi];refine ai rfl ⟨k0,k1,k2,k3,?_⟩;simp only[simprocAttr, -Int.reduceNatCast',R0,hl_2,h0_2,h3_2,h4_2,h6_2,wi]
    show W A (.block 3 (.loop true b421_2)) _ _ _;rw[qr];refine jh gl _ rfl (fun s e h=> h.ents[0]? =some (0,some [V.isl (List.map enc s.1.1.code),V.int .i64 s.1.1.at_,V.int .u64 s.1.1.hash])∧h.ents[1]? =some (1,some [V.int .i64 y.Prime,V.isl (y.Dims.map enc),m])∧h.ents[2]? =some (2,some [V.int .i64 0,V.nils,V.nils])∧Deep.rep h m s.1.2 (fun k=> 3≤k∧k < E1.length)∧e.length=88∧e.at 0=V.ptr 0 0 0∧e.at 3=V.ptr 1 1 0∧e.at 4=V.ptr 2 2 0∧e.at 6=V.int .i64 i∧e.at 7=V.int .i64 s.2) ?_ ?_
    ·refine⟨g0,g1,g2,g3,?_⟩
     simp only[simprocAttr, -Int.reduceNatCast',R0,hl_1,h0_1,h3_1,h4_1,h6_1]
    ·clear g0 g1 g2 g3 hl_1 h0_1 h3_1 h4_1 h6_1 hlen gl q1
     rintro⟨⟨s,ms⟩,j⟩ e ⟨E,c⟩ ⟨g0,g1,g2,g3,hl_1,h0_1,h3_1,h4_1,h6_1,h7_1⟩ oo ho;simp only at g0 g1 g2 g3 h7_1;unfold F421_2_S at ho;simp only at ho;obtain⟨t,gt,ho⟩:=bS ho;obtain⟨ta,tb⟩:=qk gt;have tc:=za gt;obtain⟨key,uid,vs,x1,K1,rfl,a1,a2,a3,a4,a5,a6⟩:=rep_focus g3 tb;have o1:=qC a2;simp only at a1;have hlt:=rep_len a4;have hE2:2 < E.length:=(List.getElem?_eq_some_iff.1 g2).1;by_cases q2:j < (t.length:Int)
     ·rw[if_pos q2]at ho
      obtain⟨row,gr,ho⟩:=bS ho;obtain⟨ra,rb⟩:=qk gr;have rc:=za gr;obtain⟨key2,uid2,vs2,x2,K2,rfl,b1,b2,b3,b4,b5,b6⟩:=rep_focus a4 rb;have o2:=qC b2;simp only at b1;have hlr:=rep_len b4;by_cases q3:0 < (row.length:Int)
      ·rw[if_pos q3]at ho
       obtain⟨z,gz,ho⟩:=bS ho;have wz:xans A 416 [V.isl (s.code.map enc),V.int .i64 s.at_,V.int .u64 s.hash] [V.int .i64 (row.length:Int)]=some (V.int .i64 z.a,[V.isl (z.b.code.map enc),V.int .i64 z.b.at_,V.int .u64 z.b.hash]):=s416 s (row.length:Int) gz;obtain⟨q,gq,ho⟩:=bS ho;have wq:=qz gq;obtain⟨v,gv,ho⟩:=bS ho;have wv:xans A 412 [V.isl (z.b.code.map enc),V.int .i64 z.b.at_,V.int .u64 z.b.hash] [V.isl [V.int .i64 1,V.int .i64 q,V.int .i64 y.Prime]]=some (V.int .i64 v.a,[V.isl (v.b.code.map enc),V.int .i64 v.b.at_,V.int .u64 v.b.hash]):=s412 z.b [1,q,y.Prime] gv;obtain⟨row',gs,ho⟩:=bS ho;obtain⟨s1,s2',s3,s4,s5⟩:=jV gs;have s5':List.take z.a.toNat (row.map enc)++[V.int .i64 v.a]++List.drop (z.a.toNat+1) (row.map enc)=List.map enc row':=s5;obtain⟨t',gt',ho⟩:=bS ho;have st:=setI_eq gt';obtain⟨ms',gm',ho⟩:=bS ho;have sm:=setI_eq gm';obtain⟨j',gj,ho⟩:=bS ho;have wj:=qz gj;have hE:=wA ho; subst hE;rcases row_int b4 with⟨_,rfl,_⟩|⟨key3,uid3,rfl,d1,d2⟩
       ·exact absurd q3 (by simp)
       simp only at d1;have hk3:=a5 _ (b5 _ ((d2 key3).2 rfl));have hk3E:key3 < E.length:=(List.getElem?_eq_some_iff.1 d1).1;have n1:∀u,(E.set 0 u)[1]? =_:=fun u=>(qi (by omega)).trans g1;have n0:∀u:Nat×Option (List V),(E.set 0 u)[0]? =some u:=fun u=> qp (by omega);have nk:∀ (u z:Nat×Option (List V)),((E.set 0 u).set 0 z)[key3]? =_:=fun u z=>(qi (by omega)).trans ((qi (by omega)).trans d1);simp only[simprocAttr, -Int.reduceNatCast',R0,b421_2,hl_1,h0_1,h3_1,h4_1,h6_1,h7_1,g1,ta,eq_true tc,a1,o1,hlt,eq_true q2,ra,eq_true rc,b1,o2,hlr,eq_true q3,qj,g0,wz,n1,wq,n0,wv,nk,s1,s2',s3,s5',wj];have fr:∀ (u z y:Nat×Option (List V)) k,3≤k→k≠key3→(((E.set 0 u).set 0 z).set key3 y)[k]? =E[k]?:=fun u z y k h1 h3=>(qi h3).trans ((qi (by omega)).trans (qi (by omega)));have sl:row'.length=row.length:=s4;have f1:∀ (u z:Nat×Option (List V)) c,Deep.rep ⟨((E.set 0 u).set 0 z).set key3 (uid3,some (List.map enc row')),c⟩ (V.sl key3 uid3 0 row.length 1) row' K2:=fun u z c=> by rw[←sl]; exact jq (qp (by simp; exact hk3E)) d2
       have f2:∀ (u z:Nat×Option (List V)) c,Deep.rep ⟨((E.set 0 u).set 0 z).set key3 (uid3,some (List.map enc row')),c⟩ (V.sl key2 uid2 0 t.length 1) t' K1:=fun u z c=> by rw[st]; exact b6 _ _ (f1 u z c) fun k h1 h2=> fr _ _ _ k (a5 k h1).1 fun e=> h2 ((d2 k).2 e)
       have f3:∀ (u z:Nat×Option (List V)) c,Deep.rep ⟨((E.set 0 u).set 0 z).set key3 (uid3,some (List.map enc row')),c⟩ (V.sl key uid 0 ms.length 1) ms' (fun k=> 3≤k∧k < E1.length):=fun u z c=> by rw[sm]; exact a6 _ _ (f2 u z c) fun k h1 h2=> fr _ _ _ k h1.1 fun e=> h2 (b5 k ((d2 k).2 e))
       refine ai rfl ⟨(qi (by omega)).trans (qp (by simp; omega)),(qi (by omega)).trans ((qi (by omega)).trans (n1 _)),(qi (by omega)).trans ((qi (by omega)).trans ((qi (by omega)).trans g2)),f3 _ _ _,?_⟩;simp only[simprocAttr, -Int.reduceNatCast',R0,hl_1,h0_1,h3_1,h4_1,h6_1,h7_1,wj]
      ·rw[if_neg q3]at ho
       obtain⟨j',gj,ho⟩:=bS ho;have wj:=qz gj;have hE:=wA ho; subst hE;simp only[simprocAttr, -Int.reduceNatCast',R0,b421_2,hl_1,h0_1,h3_1,h4_1,h6_1,h7_1,g1,ta,eq_true tc,a1,o1,hlt,eq_true q2,ra,eq_true rc,b1,o2,hlr,eq_false q3,wj];refine ai rfl ⟨g0,g1,g2,g3,?_⟩;simp only[simprocAttr, -Int.reduceNatCast',R0,hl_1,h0_1,h3_1,h4_1,h6_1,h7_1,wj]
     ·rw[if_neg q2]at ho
      have hE:=wA ho; subst hE;simp only[simprocAttr, -Int.reduceNatCast',R0,b421_2,hl_1,h0_1,h3_1,h4_1,h6_1,h7_1,g1,ta,eq_true tc,a1,o1,hlt,eq_false q2];intro ht; cases ht;refine ai rfl ⟨g0,g1,g2,g3,?_⟩;simp only[simprocAttr, -Int.reduceNatCast',R0,hl_1,h0_1,h3_1,h4_1,h6_1,h7_1]
   ·rw[if_neg q1]at ho
    have hE:=wA ho; subst hE;simp only[simprocAttr, -Int.reduceNatCast',R0,b421_1,hl_1,h0_1,h3_1,h4_1,h6_1,g1,hlen,eq_false q1];intro ht; cases ht;refine ai rfl ⟨g0,g1,g2,g3,?_⟩;simp only[simprocAttr, -Int.reduceNatCast',R0,hl_1,h0_1,h3_1,h4_1,h6_1]
 rw[if_neg c3]at hF;have hE:=wA hF; subst hE;simp only[simprocAttr, -Int.reduceNatCast',R0,b421,hl_0,h0_0,h1_0,qj,wk,eq_false c0,eq_false c1,eq_false c2,eq_false c3];exact qY (by simp only[simprocAttr, -Int.reduceNatCast',R0,qg,p421,Rs.ev,hl_0,h0_0,h1_0])
def F98(a0:qh)(a1:Int):Option (List (List Int)):=
 (F99 a0 a1).bind fun x1=>
 (F76 a0 a1).bind fun x3=>
 (F122 a0.Prime x1 x3).bind fun x5=>
 some x5
theorem d98(a0:qh)(a1:Int){r:List (List Int)}(hF:F98 a0 a1=some r):∃v h',res A 98 [(eC a0),V.int .i64 a1] Heap.empty=some (v,h')∧∃K,Deep.rep h' v r K:=by
 refine jW (f:=p98) rfl rfl rfl fun e hl he=>?_;have h0_0:e.at 0=(eC a0):=he 0 _ rfl;have h1_0:e.at 1=V.int .i64 a1:=he 1 _ rfl;have hl_0:e.length=14:=hl;clear he hl;show W A b98 e ⟨[],0⟩ _;unfold F98 at hF;obtain⟨x1,gx1,hF⟩:=bS hF;have w1:=s99 a0 a1 gx1;obtain⟨x2,gx2,hF⟩:=bS hF;have w2:=s76 a0 a1 gx2;obtain⟨x3,gx3,hF⟩:=bS hF;have w3:tans A 122 [1,1] [V.int .i64 a0.Prime,V.int .i64 x1,V.isl (x2.map enc)]=some (V.isl (x3.map enc)):=x122 a0.Prime x1 x2 gx3;have hE:=wA hF; subst hE;obtain⟨v,⟨E1,c1⟩,K,t1,t2,t3,t4,t5⟩:=thawD (α:=List (List Int)) (by decide) x3 ⟨[(0,none)],1⟩;have t1':thaw 16 [1,1] (V.isl (x3.map enc)) ⟨[(0,none)],1⟩=some (v,⟨E1,c1⟩):=t1;simp only[simprocAttr, -Int.reduceNatCast',R0,b98,qE,t1', *];refine ai (fun _=> trivial) ⟨v,?_,K,t2⟩;simp only[simprocAttr, -Int.reduceNatCast',R0,qg,p98,Rs.ev, *]
theorem x98(a0:qh)(a1:Int){r:List (List Int)}(hF:F98 a0 a1=some r):tans A 98 [1,1] [(eC a0),V.int .i64 a1]=some (enc r):=zK (α:=List (List Int)) (by decide) (d98 a0 a1 hF)
def F424_1_S(a1:Int)(x1:T2 Int ql)(s:(List U8)×Int×Int×(List Int)×Int):Option (((List U8)×Int×Int×(List Int)×Int)⊕((List U8)×Int×Int×(List Int))):=
 match s with
 |(q0_0_1,q0_1_1,q0_2_1,o1_1,v2_1)=>
  if 0 < v2_1 then
   if x1.a=0 then
    (F416 ⟨q0_0_1,q0_1_1,q0_2_1⟩ a1).bind fun x9=>
    (app 8 o1_1 [x9.a]).bind fun l12=>
    (chk (v2_1 - 1)).bind fun x13=>
    some (.inl (x9.b.code,x9.b.at_,x9.b.hash,l12,x13))
   else
    (F416 ⟨q0_0_1,q0_1_1,q0_2_1⟩ 2).bind fun x14=>
    if x14.a=0 then
     (F416 x14.b a1).bind fun x17=>
     (app 8 o1_1 [x17.a]).bind fun l20=>
     (chk (v2_1 - 1)).bind fun x21=>
     some (.inl (x17.b.code,x17.b.at_,x17.b.hash,l20,x21))
    else
     (app 8 o1_1 [0]).bind fun l23=>
     (chk (v2_1 - 1)).bind fun x24=>
     some (.inl (x14.b.code,x14.b.at_,x14.b.hash,l23,x24))
  else
   some (.inr (q0_0_1,q0_1_1,q0_2_1,o1_1))
def F424(src:ql)(a1:Int)(a2:Int):Option (T2 (List Int) ql):=
 (F416 src 3).bind fun x1=>
 (qV (F424_1_S a1 x1) (x1.b.code,x1.b.at_,x1.b.hash,[],a2)).bind fun t25=> match t25 with
  |(zq0_0_1,zq0_1_1,zq0_2_1,zo1_1)=>
   some ⟨zo1_1,⟨zq0_0_1,zq0_1_1,zq0_2_1⟩⟩
def I424_1(a1:Int)(x1:T2 Int ql)(s:(List U8)×Int×Int×(List Int)×Int)(e:Env)(h:Heap):Prop:=
 match s with
 |(q0_0_1,q0_1_1,q0_2_1,o1_1,v2_1)=>
  ∃u4 k5:Nat,h=⟨[(0,some [V.isl (q0_0_1.map enc),V.int .i64 q0_1_1,V.int .u64 q0_2_1]),(u4,some (o1_1.map enc))],k5⟩∧e.length=33∧e.at 0=V.ptr 0 0 0∧e.at 1=V.int .i64 a1∧e.at 2=V.int .i64 v2_1∧e.at 7=V.sl 1 u4 0 o1_1.length 1∧e.at 8=V.int .i64 x1.a
def P424_1(a1:Int)(x1:T2 Int ql)(t:(List U8)×Int×Int×(List Int))(x:Ex)(e:Env)(h:Heap):Prop:=
 match t with
 |(zq0_0_1,zq0_1_1,zq0_2_1,zo1_1)=>
  x= .normal∧∃u4 k5:Nat,h=⟨[(0,some [V.isl (zq0_0_1.map enc),V.int .i64 zq0_1_1,V.int .u64 zq0_2_1]),(u4,some (zo1_1.map enc))],k5⟩∧e.length=33∧e.at 7=V.sl 1 u4 0 zo1_1.length 1
theorem l424_1(a1:Int)(x1:T2 Int ql){s:(List U8)×Int×Int×(List Int)×Int}{t:(List U8)×Int×Int×(List Int)}(hF:qV (F424_1_S a1 x1) s=some t){e:Env}{h:Heap}(hI:I424_1 a1 x1 s e h):W A c424_1 e h (P424_1 a1 x1 t):=by
 show W A (.block 0 (.loop false b424_1)) e h _;rw[qr];refine jh hF 2 (by rcases s with⟨_,_,_,_,_⟩; obtain⟨_,_,rfl,_⟩:=hI; rfl) (I424_1 a1 x1) hI ?_
 ·rintro⟨q0_0_1,q0_1_1,q0_2_1,o1_1,v2_1⟩ e h ⟨u4,k5,rfl,h_3⟩ o ho
  unfold F424_1_S at ho;dsimp only at ho;by_cases c7:0 < v2_1
  ·rw[if_pos c7]at ho
   by_cases c8:x1.a=0
   ·rw[if_pos c8]at ho
    obtain⟨x9,gx9,ho⟩:=bS ho;have w10:xans A 416 [V.isl (q0_0_1.map enc),V.int .i64 q0_1_1,V.int .u64 q0_2_1] [V.int .i64 a1]=some (V.int .i64 x9.a,[V.isl (x9.b.code.map enc),V.int .i64 x9.b.at_,V.int .u64 x9.b.hash]):=s416 ⟨q0_0_1,q0_1_1,q0_2_1⟩ a1 gx9;obtain⟨l12,gl12,ho⟩:=bS ho;have w11:=fun a b c d e=> qA (α:=Int) (n:=o1_1.length) (m:=1) (ds:=[V.int .i64 x9.a]) gl12 (by first|rfl|simp) (by first|rfl|simp) rfl a b c d e;have w11l:=qM gl12;obtain⟨x13,gx13,ho⟩:=bS ho;have wx13:=qz gx13;cases ho;simp only[simprocAttr,R0,b424_1,qj, *];refine ai rfl (ei _ (ei _ (ai rfl ?_)));simp only[simprocAttr,R0,qj, *]
   ·rw[if_neg c8]at ho
    obtain⟨x14,gx14,ho⟩:=bS ho;have w15:xans A 416 [V.isl (q0_0_1.map enc),V.int .i64 q0_1_1,V.int .u64 q0_2_1] [V.int .i64 2]=some (V.int .i64 x14.a,[V.isl (x14.b.code.map enc),V.int .i64 x14.b.at_,V.int .u64 x14.b.hash]):=s416 ⟨q0_0_1,q0_1_1,q0_2_1⟩ 2 gx14;by_cases c16:x14.a=0
    ·rw[if_pos c16]at ho
     obtain⟨x17,gx17,ho⟩:=bS ho;have w18:xans A 416 [V.isl (x14.b.code.map enc),V.int .i64 x14.b.at_,V.int .u64 x14.b.hash] [V.int .i64 a1]=some (V.int .i64 x17.a,[V.isl (x17.b.code.map enc),V.int .i64 x17.b.at_,V.int .u64 x17.b.hash]):=s416 x14.b a1 gx17;obtain⟨l20,gl20,ho⟩:=bS ho;have w19:=fun a b c d e=> qA (α:=Int) (n:=o1_1.length) (m:=1) (ds:=[V.int .i64 x17.a]) gl20 (by first|rfl|simp) (by first|rfl|simp) rfl a b c d e;have w19l:=qM gl20;obtain⟨x21,gx21,ho⟩:=bS ho;have wx21:=qz gx21;cases ho;simp only[simprocAttr,R0,b424_1,qj,qj, *];refine ai rfl (ei _ (ei _ (ai rfl ?_)));simp only[simprocAttr,R0,qj,qj, *]
    ·rw[if_neg c16]at ho
     obtain⟨l23,gl23,ho⟩:=bS ho;have w22:=fun a b c d e=> qA (α:=Int) (n:=o1_1.length) (m:=1) (ds:=[V.int .i64 0]) gl23 (by first|rfl|simp) (by first|rfl|simp) rfl a b c d e;have w22l:=qM gl23;obtain⟨x24,gx24,ho⟩:=bS ho;have wx24:=qz gx24;cases ho;simp only[simprocAttr,R0,b424_1,qj, *];refine ai rfl (ei _ (ei _ (ai rfl ?_)));simp only[simprocAttr,R0,qj, *]
  ·rw[if_neg c7]at ho
   cases ho;simp only[simprocAttr,R0,b424_1, *];intro ht; subst ht;simp only[simprocAttr,RR,RB];refine ai rfl (ei _ (ei _ (ai rfl ?_)));simp only[simprocAttr,R0, *]
theorem s424(src:ql)(a1:Int)(a2:Int){r:T2 (List Int) ql}(hF:F424 src a1 a2=some r):xans A 424 [V.isl (src.code.map enc),V.int .i64 src.at_,V.int .u64 src.hash] [V.int .i64 a1,V.int .i64 a2]=some (V.isl (r.a.map enc),[V.isl (r.b.code.map enc),V.int .i64 r.b.at_,V.int .u64 r.b.hash]):=by
 refine jI (f:=p424) rfl rfl rfl fun e hl h0 he=>?_;have h0_0:e.at 0=V.ptr 0 0 0:=h0;have h1_0:e.at 1=V.int .i64 a1:=he 0 _ rfl;have h2_0:e.at 2=V.int .i64 a2:=he 1 _ rfl;have hl_0:e.length=33:=hl;clear h0 he hl;show W A b424 e ⟨[(0,some [V.isl (src.code.map enc),V.int .i64 src.at_,V.int .u64 src.hash])],1⟩ _;unfold F424 at hF;obtain⟨x1,gx1,hF⟩:=bS hF;have w2:xans A 416 [V.isl (src.code.map enc),V.int .i64 src.at_,V.int .u64 src.hash] [V.int .i64 3]=some (V.int .i64 x1.a,[V.isl (x1.b.code.map enc),V.int .i64 x1.b.at_,V.int .u64 x1.b.hash]):=s416 src 3 gx1;obtain⟨⟨zq0_0_1,zq0_1_1,zq0_2_1,zo1_1⟩,gt25,hF⟩:=bS hF;dsimp only at hF;simp only[simprocAttr,R0,b424,qj, *];refine W.mono (l424_1 a1 x1 gt25 (ei _ (ei _ (ai rfl ?_)))) ?_
 ·simp only[simprocAttr,R0,qj, *]
 rintro _ e _ ⟨rfl,u4,k5,rfl,h_6⟩;cases hF;simp only[simprocAttr,R0, *];exact qY (by simp only[simprocAttr,R0,qg,p424,Rs.ev,qc,frzs (α:=Int) zo1_1,qO (α:=Int) zo1_1, *])
def F417_2_S(p:Int)(dims:List Int)(cyc:List (List Int))(n:Int)(s:(ql×List (List Int))×Int):Option (((ql×List (List Int))×Int)⊕(ql×List (List Int))):=
 (getI dims n).bind fun d=> if s.2 < d then(F424 s.1.1 p (cyc.length:Int)).bind fun x=>(chk (n - 1)).bind fun m=>(getI dims m).bind fun w=>(F80 p cyc x.a w).bind fun y=>(app 24 s.1.2 [y]).bind fun l=>(chk (s.2+1)).bind fun i=> some (.inl ((x.b,l),i))else some (.inr s.1)
def F417_1_B(p:Int)(dims:List Int)(n:Int)(s:ql×qh):Option ((ql×qh)⊕(ql×qh)):=
 (chk (n - 1)).bind fun m=>(F98 s.2 m).bind fun cyc=>(qV (F417_2_S p dims cyc n) ((s.1,[]),0)).bind fun t=>(getI dims n).bind fun d=>(app 8 s.2.Dims [d]).bind fun ds=>(app 24 s.2.Maps [t.2]).bind fun ms=> some (.inl (t.1,⟨s.2.Prime,ds,ms⟩))
def F417_1_D(n:Int)(s:ql×qh):Option (ql×qh):=some s
def F417(src:ql)(a1:Int)(a2:List Int):Option (T2 qh ql):=(getI a2 0).bind fun d0=>(forR 1 (a2.length:Int) (F417_1_B a1 a2) F417_1_D (src,⟨a1,[d0],[]⟩)).bind fun s=> some ⟨s.2,s.1⟩
set_option maxHeartbeats 8000000 in
theorem s417(src:ql)(a1:Int)(a2:List Int){r:T2 qh ql}(hF:F417 src a1 a2=some r):xans A 417 [V.isl (src.code.map enc),V.int .i64 src.at_,V.int .u64 src.hash] [V.int .i64 a1,V.isl (a2.map enc)]=some ((eC r.a),[V.isl (r.b.code.map enc),V.int .i64 r.b.at_,V.int .u64 r.b.hash]):=by
 refine jI (f:=p417) rfl rfl rfl fun e hl h0 he=>?_;have h0_0:e.at 0=V.ptr 0 0 0:=h0;have h1_0:e.at 1=V.int .i64 a1:=he 0 _ rfl;have h2_0:e.at 2=V.isl (a2.map enc):=he 1 _ rfl;have hl_0:e.length=70:=hl;clear h0 he hl;show W A b417 e ⟨[(0,some [V.isl (src.code.map enc),V.int .i64 src.at_,V.int .u64 src.hash])],1⟩ _;unfold F417 at hF;obtain⟨d0,gd0,hF⟩:=bS hF;obtain⟨da,db⟩:=qk gd0;replace db:a2[0]? =some d0:=db;obtain⟨s1,gt,hF⟩:=bS hF;have hE:=wA hF; subst hE;simp only[simprocAttr, -Int.reduceNatCast',R0,b417,hl_0,h0_0,h1_0,h2_0,da,db];show W A (.block 0 (.loop true b417_1)) _ _ _;rw[qr];refine qD gt _ rfl (fun n s e h=> h.ents[0]? =some (0,some [V.isl (List.map enc s.1.code),V.int .i64 s.1.at_,V.int .u64 s.1.hash])∧h.ents[1]? =some (1,some [V.int .i64 0,V.nils,V.nils])∧(∃ud um,h.ents[2]? =some (ud,some (List.map enc s.2.Dims))∧h.ents[3]? =some (um,some (List.map enc s.2.Maps))∧h.ents[4]? =some (4,some [V.int .i64 s.2.Prime,V.sl 2 ud 0 s.2.Dims.length 1,V.sl 3 um 0 s.2.Maps.length 1]))∧e.length=70∧e.at 0=V.ptr 0 0 0∧e.at 1=V.int .i64 a1∧e.at 2=V.isl (a2.map enc)∧e.at 6=V.ptr 1 1 0∧e.at 7=V.ptr 4 4 0∧e.at 8=V.int .i64 n) ?_ ?_ ?_
 ·refine⟨rfl,rfl,⟨2,3,rfl,rfl,rfl⟩,?_⟩
  simp only[simprocAttr, -Int.reduceNatCast',R0,hl_0,h0_0,h1_0,h2_0]
 ·clear hl_0 h0_0 h1_0 h2_0 gt
  rintro n ⟨s,x⟩ e ⟨E,c⟩ ⟨g0,g1,⟨ud,um,g2,g3,g4⟩,hl_1,h0_1,h1_1,h2_1,h6_1,h7_1,h8_1⟩ hlt hw oo ho;simp only at g0 g1 g2 g3 g4;unfold F417_1_B at ho;simp only at ho;obtain⟨m,gm,ho⟩:=bS ho;have wm:=qz gm;obtain⟨cyc,gc,ho⟩:=bS ho;have wc:tans A 98 [1,1] [(eC x),V.int .i64 m]=some (V.isl (cyc.map enc)):=x98 x m gc;obtain⟨⟨s',rows⟩,gl,ho⟩:=bS ho;obtain⟨d,gd,ho⟩:=bS ho;obtain⟨dda,ddb⟩:=qk gd;obtain⟨ds,gds,ho⟩:=bS ho;obtain⟨ms,gms,ho⟩:=bS ho;have hE:=wA ho; subst hE;have hE4:4 < E.length:=(List.getElem?_eq_some_iff.1 g4).1;have z2:frz ⟨E,c⟩ 15 (V.sl 2 ud 0 x.Dims.length 1)=some (V.isl (x.Dims.map enc)):=frzE (α:=Int) g2 10;have z3:frz ⟨E,c⟩ 15 (V.sl 3 um 0 x.Maps.length 1)=some (V.isl (x.Maps.map enc)):=frzE (α:=List (List Int)) g3 10;obtain⟨v,⟨E1,c1⟩,K,t1,t2,t3,t4,t5⟩:=thawD (α:=List (List Int)) (by decide) cyc ⟨E,c⟩;have t1':thaw 16 [1,1] (V.isl (cyc.map enc)) ⟨E,c⟩=some (v,⟨E1,c1⟩):=t1;have bw:bare 16 [1,1] (V.isl (cyc.map enc))=true:=bareD (α:=List (List Int)) (by decide) cyc;simp only at t3 t4 t5;simp only[simprocAttr, -Int.reduceNatCast',R0,b417_1,hl_1,h0_1,h1_1,h2_1,h6_1,h7_1,h8_1,eq_true hlt,hw,wm,g4,z2,z3,qE,wc,bw,Bool.or_true,t1',qF];refine W.mono (Q:=fun x' e h=> x'= .normal∧∃uq,h.ents[0]? =some (0,some [V.isl (List.map enc s'.code),V.int .i64 s'.at_,V.int .u64 s'.hash])∧h.ents[1]? =E[1]?∧h.ents[2]? =E[2]?∧h.ents[3]? =E[3]?∧h.ents[4]? =E[4]?∧h.ents[E1.length]? =some (uq,some (rows.map enc))∧e.length=70∧e.at 0=V.ptr 0 0 0∧e.at 1=V.int .i64 a1∧e.at 2=V.isl (a2.map enc)∧e.at 6=V.ptr 1 1 0∧e.at 7=V.ptr 4 4 0∧e.at 8=V.int .i64 n∧e.at 10=V.sl E1.length uq 0 rows.length 1) ?_ ?_
  rotate_left
  ·rintro _ e ⟨E2,c2⟩ ⟨rfl,uq,q0,q1,q2,q3,q4,q6,hl_2,h0_2,h1_2,h2_2,h6_2,h7_2,h8_2,h10_2⟩
   simp only at q0 q1 q2 q3 q4 q6;rw[g1]at q1; rw[g2]at q2; rw[g3]at q3; rw[g4]at q4;have hE2:E1.length < E2.length:=(List.getElem?_eq_some_iff.1 q6).1;have n4:∀y z,((E2++[y]).set 2 z)[4]? =_:=fun y z=>(zt (by omega) (by omega)).trans q4;have p1:∀y c,qS 1 8 (.sl 2 ud 0 x.Dims.length 1) 1 [V.int .i64 d] ⟨E2++[y],c⟩=_:=fun y c=> appE (α:=Int) (a:=d) (l2:=ds) ((List.getElem?_append_left (by omega)).trans q2) gds;have b4:∀ (y z w:Nat×Option (List V)),(((E2++[y]).set 2 z).set 4 w)[4]? =some w:=fun y z w=> qp (by simp; omega);have tq:∀y z w c,take 16 [] (.sl E1.length uq 0 rows.length 1) ⟨((E2++[y]).set 2 z).set 4 w,c⟩=_:=fun y z w c=> takeE (α:=List Int) ((qi (by omega)).trans ((zt (by omega) (by omega)).trans q6)) 11;have p2:∀y z w u y' c,qS 1 24 (.sl 3 um 0 x.Maps.length 1) 1 [V.isl (rows.map enc)] ⟨(((E2++[y]).set 2 z).set 4 w).set E1.length u++[y'],c⟩=_:=fun y z w u y' c=> appE (α:=List (List Int)) (a:=rows) (l2:=ms) ((List.getElem?_append_left (by simp; omega)).trans ((qi (by omega)).trans ((qi (by omega)).trans ((zt (by omega) (by omega)).trans q3)))) gms;have c4:∀ (y z w u y' z':Nat×Option (List V)),(((((E2++[y]).set 2 z).set 4 w).set E1.length u++[y']).set 3 z')[4]? =some w:=fun y z w u y' z'=>(qi (by omega)).trans ((List.getElem?_append_left (by simp; omega)).trans ((qi (by omega)).trans (b4 y z w)));simp only[simprocAttr, -Int.reduceNatCast',R0,hl_2,h0_2,h1_2,h2_2,h6_2,h7_2,h8_2,h10_2,dda,ddb,q4,n4,p1,b4,tq,p2,c4,qF,hw];refine ai rfl ⟨?_,?_,⟨c2+1,c2+1+1+1,?_,?_,?_⟩,?_⟩
   ·exact(qi (by omega)).trans ((qi (by omega)).trans ((List.getElem?_append_left (by simp <;> omega)).trans ((qi (by omega)).trans ((qi (by omega)).trans ((zt (by omega) (by omega)).trans q0)))))
   ·exact(qi (by omega)).trans ((qi (by omega)).trans ((List.getElem?_append_left (by simp <;> omega)).trans ((qi (by omega)).trans ((qi (by omega)).trans ((zt (by omega) (by omega)).trans q1)))))
   ·exact(qi (by omega)).trans ((qi (by omega)).trans ((List.getElem?_append_left (by simp <;> omega)).trans ((qi (by omega)).trans ((qi (by omega)).trans (qp (by simp; omega))))))
   ·exact(qi (by omega)).trans (qp (by simp; omega))
   ·exact qp (by simp; omega)
   simp only[simprocAttr, -Int.reduceNatCast',R0,hl_2,h0_2,h1_2,h2_2,h6_2,h7_2,h8_2,h10_2,hw]
  show W A (.block 2 (.loop true b417_2)) _ _ _;rw[qr];refine jh gl _ rfl (fun s e h=>∃uq,h.ents[0]? =some (0,some [V.isl (List.map enc s.1.1.code),V.int .i64 s.1.1.at_,V.int .u64 s.1.1.hash])∧h.ents[1]? =E[1]?∧h.ents[2]? =E[2]?∧h.ents[3]? =E[3]?∧h.ents[4]? =E[4]?∧Deep.rep h v cyc K∧h.ents[E1.length]? =some (uq,some (List.map enc s.1.2))∧e.length=70∧e.at 0=V.ptr 0 0 0∧e.at 1=V.int .i64 a1∧e.at 2=V.isl (a2.map enc)∧e.at 6=V.ptr 1 1 0∧e.at 7=V.ptr 4 4 0∧e.at 8=V.int .i64 n∧e.at 9=v∧e.at 10=V.sl E1.length uq 0 s.1.2.length 1∧e.at 11=V.int .i64 s.2) ?_ ?_
  ·have o:∀k,k < E.length→(E1++[(c1,some [])])[k]? =E[k]?:=fun k hk=>(List.getElem?_append_left (by omega)).trans (t5 k hk)
   refine⟨c1,(o 0 (by omega)).trans g0,o 1 (by omega),o 2 (by omega),o 3 (by omega),o 4 hE4,Deep.frame t2 fun k q=> List.getElem?_append_left (t3 k q).2,qF _ _,?_⟩;simp only[simprocAttr, -Int.reduceNatCast',R0,hl_1,h0_1,h1_1,h2_1,h6_1,h7_1,h8_1]
  ·clear g0 g2 g3 g4 z2 z3 hl_1 h0_1 h1_1 h2_1 h6_1 h7_1 h8_1 t1 t1' t2 t5 bw wc gl
   rintro⟨⟨s,rows⟩,i⟩ e ⟨E2,c2⟩ ⟨uq,g0,q1,q2,q3,q4,q5,q6,hl_1,h0_1,h1_1,h2_1,h6_1,h7_1,h8_1,h9_1,h10_1,h11_1⟩ oo ho;simp only at g0 q1 q2 q3 q4 q6 h10_1 h11_1;unfold F417_2_S at ho;simp only at ho;obtain⟨d,gd,ho⟩:=bS ho;obtain⟨dda,ddb⟩:=qk gd;have hE2:E1.length < E2.length:=(List.getElem?_eq_some_iff.1 q6).1;by_cases c1:i < d
   ·rw[if_pos c1]at ho
    obtain⟨z,gz,ho⟩:=bS ho;have wz:xans A 424 [V.isl (s.code.map enc),V.int .i64 s.at_,V.int .u64 s.hash] [V.int .i64 a1,V.int .i64 (cyc.length:Int)]=some (V.isl (z.a.map enc),[V.isl (z.b.code.map enc),V.int .i64 z.b.at_,V.int .u64 z.b.hash]):=s424 s a1 (cyc.length:Int) gz;obtain⟨m,gm,ho⟩:=bS ho;have wm:=qz gm;obtain⟨w,gw,ho⟩:=bS ho;obtain⟨wwa,wwb⟩:=qk gw;obtain⟨y,gy,ho⟩:=bS ho;have wy:tans A 80 [1] [V.int .i64 a1,V.isl (cyc.map enc),V.isl (z.a.map enc),V.int .i64 w]=some (V.isl (y.map enc)):=t80 a1 cyc z.a w gy;obtain⟨l,gl,ho⟩:=bS ho;obtain⟨i',gi,ho⟩:=bS ho;have wi:=qz gi;have hE:=wA ho; subst hE;have hlen:=rep_len q5;have zf:∀u c,frz ⟨E2.set 0 u,c⟩ 16 v=some (V.isl (cyc.map enc)):=fun u c=> Deep.fz (α:=List (List Int)) (K:=K) (Deep.frame q5 fun k q=> qi (by have:=t3 k q; omega)) 10;have tq:∀u c,take 16 [] (.sl (E2.set 0 u).length c2 0 y.length 1) ⟨E2.set 0 u++[(c2,some (y.map enc))],c⟩=_:=fun u c=> takeE (α:=Int) (qF _ _) 11;have p1:∀u a b c,qS 1 24 (.sl E1.length uq 0 rows.length 1) 1 [V.isl (y.map enc)] ⟨E2.set 0 u++[a]++[b],c⟩=_:=fun u a b c=> appE (α:=List Int) (a:=y) (l2:=l) (by rw[wR]; exact(List.getElem?_append_left (by simp; omega)).trans ((qi (by omega)).trans q6)) gl;simp only[simprocAttr, -Int.reduceNatCast',R0,b417_2,hl_1,h0_1,h1_1,h2_1,h6_1,h7_1,h8_1,h9_1,h10_1,h11_1,dda,ddb,eq_true c1,hlen,qj,wz,g0,wm,wwa,wwb,qE,zf,wy,bare_one (α:=Int) y,Bool.or_true,zb,tq,set_last,qF,p1,wi];have o:∀u a b z k,k < E2.length→k≠E1.length→((E2.set 0 u++[a]++[b]).set E1.length z)[k]? =(E2.set 0 u)[k]?:=fun u a b z k h1 h2=>(qi h2).trans (by rw[wR]; exact List.getElem?_append_left (by simp; omega));refine ai rfl ⟨_,(o _ _ _ _ 0 (by omega) (by omega)).trans (qp (by omega)),(o _ _ _ _ 1 (by omega) (by omega)).trans ((qi (by omega)).trans q1),(o _ _ _ _ 2 (by omega) (by omega)).trans ((qi (by omega)).trans q2),(o _ _ _ _ 3 (by omega) (by omega)).trans ((qi (by omega)).trans q3),(o _ _ _ _ 4 (by omega) (by omega)).trans ((qi (by omega)).trans q4),Deep.frame q5 fun k q=>(o _ _ _ _ k (by have:=t3 k q; omega) (by have:=t3 k q; omega)).trans (qi (by have:=t3 k q; omega)),qp (by simp; omega),?_⟩;simp only[simprocAttr, -Int.reduceNatCast',R0,hl_1,h0_1,h1_1,h2_1,h6_1,h7_1,h8_1,h9_1,h10_1,h11_1,wi]
   ·rw[if_neg c1]at ho
    have hE:=wA ho; subst hE;simp only[simprocAttr, -Int.reduceNatCast',R0,b417_2,hl_1,h0_1,h1_1,h2_1,h6_1,h7_1,h8_1,h9_1,h10_1,h11_1,dda,ddb,eq_false c1];intro ht; cases ht;refine ai rfl ⟨uq,g0,q1,q2,q3,q4,q6,?_⟩;simp only[simprocAttr, -Int.reduceNatCast',R0,hl_1,h0_1,h1_1,h2_1,h6_1,h7_1,h8_1,h9_1,h10_1,h11_1]
 ·clear hl_0 h0_0 h1_0 h2_0
  rintro n ⟨s,x⟩ e ⟨E,c⟩ ⟨g0,g1,⟨ud,um,g2,g3,g4⟩,hl_1,h0_1,h1_1,h2_1,h6_1,h7_1,h8_1⟩ hge t1 ho;simp only at g0 g1 g2 g3 g4;unfold F417_1_D at ho;have hE:=wA ho; subst hE;have hE4:4 < E.length:=(List.getElem?_eq_some_iff.1 g4).1;simp only[simprocAttr, -Int.reduceNatCast',R0,b417_1,hl_1,h0_1,h1_1,h2_1,h6_1,h7_1,h8_1,eq_false hge,g4,g1];intro ht; subst ht;have r1:∀w:Nat×Option (List V),(E.set 1 w)[1]? =some w:=fun w=> qp (by omega);have r0:∀w:Nat×Option (List V),(E.set 1 w)[0]? =_:=fun w=>(qi (by omega)).trans g0;have r2:∀ (w u:Nat×Option (List V)) c,frz ⟨(E.set 1 w).set 0 u,c⟩ 15 (V.sl 2 ud 0 x.Dims.length 1)=some (V.isl (x.Dims.map enc)):=fun w u c=> frzE (α:=Int) ((qi (by omega)).trans ((qi (by omega)).trans g2)) 10;have r3:∀ (w u:Nat×Option (List V)) c,frz ⟨(E.set 1 w).set 0 u,c⟩ 15 (V.sl 3 um 0 x.Maps.length 1)=some (V.isl (x.Maps.map enc)):=fun w u c=> frzE (α:=List (List Int)) ((qi (by omega)).trans ((qi (by omega)).trans g3)) 10;exact qY (by simp only[simprocAttr, -Int.reduceNatCast',R0,qg,p417,Rs.ev,hl_1,h6_1,r1,r0,r2,r3])
def F423(src:ql):Option (T2 Int ql):=
 (F412 src [2,2,3,3,5,7]).bind fun x1=>
 some ⟨x1.a,x1.b⟩
theorem s423(src:ql){r:T2 Int ql}(hF:F423 src=some r):xans A 423 [V.isl (src.code.map enc),V.int .i64 src.at_,V.int .u64 src.hash] []=some (V.int .i64 r.a,[V.isl (r.b.code.map enc),V.int .i64 r.b.at_,V.int .u64 r.b.hash]):=by
 refine jI (f:=p423) rfl rfl rfl fun e hl h0 he=>?_;have h0_0:e.at 0=V.ptr 0 0 0:=h0;have hl_0:e.length=6:=hl;clear h0 he hl;show W A b423 e ⟨[(0,some [V.isl (src.code.map enc),V.int .i64 src.at_,V.int .u64 src.hash])],1⟩ _;unfold F423 at hF;obtain⟨x1,gx1,hF⟩:=bS hF;have w2:xans A 412 [V.isl (src.code.map enc),V.int .i64 src.at_,V.int .u64 src.hash] [V.isl [V.int .i64 2,V.int .i64 2,V.int .i64 3,V.int .i64 3,V.int .i64 5,V.int .i64 7]]=some (V.int .i64 x1.a,[V.isl (x1.b.code.map enc),V.int .i64 x1.b.at_,V.int .u64 x1.b.hash]):=s412 src [2,2,3,3,5,7] gx1;cases hF;simp only[simprocAttr,R0,b423,qj, *];exact qY (by simp only[simprocAttr,R0,qg,p423,Rs.ev,qc,qj, *])
def F415_1_S(x1:T2 Int ql)(s:(List U8)×Int×Int×(List Int)×Int):Option (((List U8)×Int×Int×(List Int)×Int)⊕((List U8)×Int×Int×(List Int))):=
 match s with
 |(q0_0_1,q0_1_1,q0_2_1,o2_1,v5_1)=>
  if 0 < v5_1 then
   (F416 ⟨q0_0_1,q0_1_1,q0_2_1⟩ 9).bind fun x13=>
   (F412 x13.b [0,1,1,2,2,3,4,x13.a]).bind fun x15=>
   (app 8 o2_1 [x15.a]).bind fun l18=>
   (chk (v5_1 - 1)).bind fun x19=>
   some (.inl (x15.b.code,x15.b.at_,x15.b.hash,l18,x19))
  else
   some (.inr (q0_0_1,q0_1_1,q0_2_1,o2_1))
def F415(src:ql):Option (T2 qh ql):=
 (F423 src).bind fun x1=>
 (F416 x1.b 6).bind fun x3=>
 (F412 x3.b [0,1,2,2,3,x3.a]).bind fun x5=>
 (chk (1+x5.a)).bind fun x7=>
 (qV (F415_1_S x1) (x5.b.code,x5.b.at_,x5.b.hash,[],x7)).bind fun t20=> match t20 with
  |(zq0_0_1,zq0_1_1,zq0_2_1,zo2_1)=>
   (F417 ⟨zq0_0_1,zq0_1_1,zq0_2_1⟩ x1.a zo2_1).bind fun x21=>
   some ⟨x21.a,x21.b⟩
def I415_1(x1:T2 Int ql)(s:(List U8)×Int×Int×(List Int)×Int)(e:Env)(h:Heap):Prop:=
 match s with
 |(q0_0_1,q0_1_1,q0_2_1,o2_1,v5_1)=>
  ∃u9 k10:Nat,h=⟨[(0,some [V.isl (q0_0_1.map enc),V.int .i64 q0_1_1,V.int .u64 q0_2_1]),(1,some [V.int .i64 0,V.nils,V.nils]),(u9,some (o2_1.map enc))],k10⟩∧e.length=31∧e.at 0=V.ptr 0 0 0∧e.at 2=V.ptr 1 1 0∧e.at 3=V.int .i64 x1.a∧e.at 4=V.sl 2 u9 0 o2_1.length 1∧e.at 5=V.int .i64 v5_1
def P415_1(x1:T2 Int ql)(t:(List U8)×Int×Int×(List Int))(x:Ex)(e:Env)(h:Heap):Prop:=
 match t with
 |(zq0_0_1,zq0_1_1,zq0_2_1,zo2_1)=>
  x= .normal∧∃u9 k10:Nat,h=⟨[(0,some [V.isl (zq0_0_1.map enc),V.int .i64 zq0_1_1,V.int .u64 zq0_2_1]),(1,some [V.int .i64 0,V.nils,V.nils]),(u9,some (zo2_1.map enc))],k10⟩∧e.length=31∧e.at 0=V.ptr 0 0 0∧e.at 2=V.ptr 1 1 0∧e.at 3=V.int .i64 x1.a∧e.at 4=V.sl 2 u9 0 zo2_1.length 1
theorem l415_1(x1:T2 Int ql){s:(List U8)×Int×Int×(List Int)×Int}{t:(List U8)×Int×Int×(List Int)}(hF:qV (F415_1_S x1) s=some t){e:Env}{h:Heap}(hI:I415_1 x1 s e h):W A c415_1 e h (P415_1 x1 t):=by
 show W A (.block 0 (.loop false b415_1)) e h _;rw[qr];refine jh hF 3 (by rcases s with⟨_,_,_,_,_⟩; obtain⟨_,_,rfl,_⟩:=hI; rfl) (I415_1 x1) hI ?_
 ·rintro⟨q0_0_1,q0_1_1,q0_2_1,o2_1,v5_1⟩ e h ⟨u9,k10,rfl,h_8⟩ o ho
  unfold F415_1_S at ho;dsimp only at ho;by_cases c12:0 < v5_1
  ·rw[if_pos c12]at ho
   obtain⟨x13,gx13,ho⟩:=bS ho;have w14:xans A 416 [V.isl (q0_0_1.map enc),V.int .i64 q0_1_1,V.int .u64 q0_2_1] [V.int .i64 9]=some (V.int .i64 x13.a,[V.isl (x13.b.code.map enc),V.int .i64 x13.b.at_,V.int .u64 x13.b.hash]):=s416 ⟨q0_0_1,q0_1_1,q0_2_1⟩ 9 gx13;obtain⟨x15,gx15,ho⟩:=bS ho;have w16:xans A 412 [V.isl (x13.b.code.map enc),V.int .i64 x13.b.at_,V.int .u64 x13.b.hash] [V.isl [V.int .i64 0,V.int .i64 1,V.int .i64 1,V.int .i64 2,V.int .i64 2,V.int .i64 3,V.int .i64 4,V.int .i64 x13.a]]=some (V.int .i64 x15.a,[V.isl (x15.b.code.map enc),V.int .i64 x15.b.at_,V.int .u64 x15.b.hash]):=s412 x13.b [0,1,1,2,2,3,4,x13.a] gx15;obtain⟨l18,gl18,ho⟩:=bS ho;have w17:=fun a b c d e=> qA (α:=Int) (n:=o2_1.length) (m:=1) (ds:=[V.int .i64 x15.a]) gl18 (by first|rfl|simp) (by first|rfl|simp) rfl a b c d e;have w17l:=qM gl18;obtain⟨x19,gx19,ho⟩:=bS ho;have wx19:=qz gx19;cases ho;simp only[simprocAttr,R0,b415_1,qj,qj, *];refine ai rfl (ei _ (ei _ (ai rfl ?_)));simp only[simprocAttr,R0,qj,qj, *]
  ·rw[if_neg c12]at ho
   cases ho;simp only[simprocAttr,R0,b415_1, *];intro ht; subst ht;simp only[simprocAttr,RR,RB];refine ai rfl (ei _ (ei _ (ai rfl ?_)));simp only[simprocAttr,R0, *]
theorem s415(src:ql){r:T2 qh ql}(hF:F415 src=some r):xans A 415 [V.isl (src.code.map enc),V.int .i64 src.at_,V.int .u64 src.hash] []=some ((eC r.a),[V.isl (r.b.code.map enc),V.int .i64 r.b.at_,V.int .u64 r.b.hash]):=by
 refine jI (f:=p415) rfl rfl rfl fun e hl h0 he=>?_;have h0_0:e.at 0=V.ptr 0 0 0:=h0;have hl_0:e.length=31:=hl;clear h0 he hl;show W A b415 e ⟨[(0,some [V.isl (src.code.map enc),V.int .i64 src.at_,V.int .u64 src.hash])],1⟩ _;unfold F415 at hF;obtain⟨x1,gx1,hF⟩:=bS hF;have w2:xans A 423 [V.isl (src.code.map enc),V.int .i64 src.at_,V.int .u64 src.hash] []=some (V.int .i64 x1.a,[V.isl (x1.b.code.map enc),V.int .i64 x1.b.at_,V.int .u64 x1.b.hash]):=s423 src gx1;obtain⟨x3,gx3,hF⟩:=bS hF;have w4:xans A 416 [V.isl (x1.b.code.map enc),V.int .i64 x1.b.at_,V.int .u64 x1.b.hash] [V.int .i64 6]=some (V.int .i64 x3.a,[V.isl (x3.b.code.map enc),V.int .i64 x3.b.at_,V.int .u64 x3.b.hash]):=s416 x1.b 6 gx3;obtain⟨x5,gx5,hF⟩:=bS hF;have w6:xans A 412 [V.isl (x3.b.code.map enc),V.int .i64 x3.b.at_,V.int .u64 x3.b.hash] [V.isl [V.int .i64 0,V.int .i64 1,V.int .i64 2,V.int .i64 2,V.int .i64 3,V.int .i64 x3.a]]=some (V.int .i64 x5.a,[V.isl (x5.b.code.map enc),V.int .i64 x5.b.at_,V.int .u64 x5.b.hash]):=s412 x3.b [0,1,2,2,3,x3.a] gx5;obtain⟨x7,gx7,hF⟩:=bS hF;have wx7:=qz gx7;obtain⟨⟨zq0_0_1,zq0_1_1,zq0_2_1,zo2_1⟩,gt20,hF⟩:=bS hF;dsimp only at hF;simp only[simprocAttr,R0,b415,qj,qj,qj, *];refine W.mono (l415_1 x1 gt20 (ei _ (ei _ (ai rfl ?_)))) ?_
 ·simp only[simprocAttr,R0,qj,qj,qj, *]
 rintro _ e _ ⟨rfl,u9,k10,rfl,h_11⟩;obtain⟨x21,gx21,hF⟩:=bS hF;have w22:xans A 417 [V.isl (zq0_0_1.map enc),V.int .i64 zq0_1_1,V.int .u64 zq0_2_1] [V.int .i64 x1.a,V.isl (zo2_1.map enc)]=some ((eC x21.a),[V.isl (x21.b.code.map enc),V.int .i64 x21.b.at_,V.int .u64 x21.b.hash]):=s417 ⟨zq0_0_1,zq0_1_1,zq0_2_1⟩ x1.a zo2_1 gx21;cases hF;simp only[simprocAttr,R0,qO (α:=Int) zo2_1,qj, *];exact qY (by simp only[simprocAttr,R0,qg,p415,Rs.ev,qc,qO (α:=Int) zo2_1,qj, *])
def F453_3_S(a1:qh)(x1:T2 Int ql)(o3_1:List (List Int))(q4_0_1:Int)(q4_1_1:List Int)(q4_2_1:List (List (List Int)))(v7_1:Int)(x7:List (List Int))(q0_0_2:List U8)(q0_1_2:Int)(q0_2_2:Int)(o5_2:List Int)(v10_2:Int)(s:Int×Int):Option ((Int×Int)⊕(Int)):=
 match s with
 |(v11_3,v12_3)=>
  if 0 < v7_1 then
   (chk (v7_1 - 1)).bind fun x20=>
   (getI a1.Dims x20).bind fun x21=>
   if v12_3 < x21 then
    (getI x7 v10_2).bind fun x24=>
    (getI x24 v12_3).bind fun x26=>
    if x26=0 then
     (chk (v12_3+1)).bind fun x29=>
     some (.inl (v11_3,x29))
    else
     (getI o3_1 x20).bind fun x30=>
     (getI x30 v12_3).bind fun x32=>
     (chk (v12_3+1)).bind fun x34=>
     some (.inl ((if x32 > v11_3 then x32 else v11_3),x34))
   else
    some (.inr v11_3)
  else
   some (.inr v11_3)
def xK(a1:qh)(x1:T2 Int ql)(o3_1:List (List Int))(q4_0_1:Int)(q4_1_1:List Int)(q4_2_1:List (List (List Int)))(v7_1:Int)(x7:List (List Int))(s:(List U8)×Int×Int×(List Int)×Int):Option (((List U8)×Int×Int×(List Int)×Int)⊕((List U8)×Int×Int×(List Int))):=
 match s with
 |(q0_0_2,q0_1_2,q0_2_2,o5_2,v10_2)=>
  (getI a1.Dims v7_1).bind fun x13=>
  if v10_2 < x13 then
   (qV (F453_3_S a1 x1 o3_1 q4_0_1 q4_1_1 q4_2_1 v7_1 x7 q0_0_2 q0_1_2 q0_2_2 o5_2 v10_2) (0,0)).bind fun zv11_3=>
   (chk (x1.a+1)).bind fun x36=>
   (F416 ⟨q0_0_2,q0_1_2,q0_2_2⟩ x36).bind fun x37=>
   (chk (zv11_3+x37.a)).bind fun x39=>
   (app 8 o5_2 [(if 5 < x39 then 5 else x39)]).bind fun l41=>
   (chk (v10_2+1)).bind fun x42=>
   some (.inl (x37.b.code,x37.b.at_,x37.b.hash,l41,x42))
  else
   some (.inr (q0_0_2,q0_1_2,q0_2_2,o5_2))
def F453_1_B(a1:qh)(x1:T2 Int ql)(v7_1:Int)(s:(List U8)×Int×Int×(List (List Int))×Int×(List Int)×(List (List (List Int)))):Option (((List U8)×Int×Int×(List (List Int))×Int×(List Int)×(List (List (List Int))))⊕((List U8)×Int×Int×(List (List Int))×Int×(List Int)×(List (List (List Int))))):=
 match s with
 |(q0_0_1,q0_1_1,q0_2_1,o3_1,q4_0_1,q4_1_1,q4_2_1)=>
  (F76 a1 v7_1).bind fun x7=>
  (qV (xK a1 x1 o3_1 q4_0_1 q4_1_1 q4_2_1 v7_1 x7) (q0_0_1,q0_1_1,q0_2_1,[],0)).bind fun t43=> match t43 with
   |(zq0_0_2,zq0_1_2,zq0_2_2,zo5_2)=>
    (app 24 o3_1 [zo5_2]).bind fun l45=>
    some (.inl (zq0_0_2,zq0_1_2,zq0_2_2,l45,q4_0_1,q4_1_1,q4_2_1))
def F453_1_D(a1:qh)(x1:T2 Int ql)(v7_1:Int)(s:(List U8)×Int×Int×(List (List Int))×Int×(List Int)×(List (List (List Int)))):Option ((List U8)×Int×Int×(List (List Int))×Int×(List Int)×(List (List (List Int)))):=
 match s with
 |(q0_0_1,q0_1_1,q0_2_1,o3_1,q4_0_1,q4_1_1,q4_2_1)=>
  some (q0_0_1,q0_1_1,q0_2_1,o3_1,q4_0_1,q4_1_1,q4_2_1)
def F453(src:ql)(a1:qh):Option (T2 qd ql):=
 (F412 src [0,1,2,2,3,5]).bind fun x1=>
 (forR 0 (a1.Dims.length:Int) (F453_1_B a1 x1) (F453_1_D a1 x1) (x1.b.code,x1.b.at_,x1.b.hash,[],a1.Prime,a1.Dims,a1.Maps)).bind fun t46=> match t46 with
  |(zq0_0_1,zq0_1_1,zq0_2_1,zo3_1,zq4_0_1,zq4_1_1,zq4_2_1)=>
   some ⟨⟨⟨zq4_0_1,zq4_1_1,zq4_2_1⟩,zo3_1⟩,⟨zq0_0_1,zq0_1_1,zq0_2_1⟩⟩
def I453_3(a1:qh)(x1:T2 Int ql)(o3_1:List (List Int))(q4_0_1:Int)(q4_1_1:List Int)(q4_2_1:List (List (List Int)))(v7_1:Int)(x7:List (List Int))(q0_0_2:List U8)(q0_1_2:Int)(q0_2_2:Int)(o5_2:List Int)(v10_2:Int)(u4 u10:Nat)(s:Int×Int)(e:Env)(h:Heap):Prop:=
 match s with
 |(v11_3,v12_3)=>
  ∃k17:Nat,h=⟨[(0,some [V.isl (q0_0_2.map enc),V.int .i64 q0_1_2,V.int .u64 q0_2_2]),(0,none),(2,some [V.int .i64 0,V.nils,V.nils,V.nils]),(u4,some (o3_1.map enc)),(4,some [V.int .i64 q4_0_1,V.isl (q4_1_1.map enc),V.isl (q4_2_1.map enc),V.sl 3 u4 0 o3_1.length 1]),(u10,some (o5_2.map enc))],k17⟩∧e.length=89∧e.at 0=V.ptr 0 0 0∧e.at 3=V.iptr [V.int .i64 a1.Prime,V.isl (a1.Dims.map enc),V.isl (a1.Maps.map enc)]∧e.at 4=V.ptr 2 2 0∧e.at 5=V.ptr 4 4 0∧e.at 6=V.int .i64 x1.a∧e.at 7=V.int .i64 v7_1∧e.at 8=V.sl 5 u10 0 o5_2.length 1∧e.at 9=V.isl (x7.map enc)∧e.at 10=V.int .i64 v10_2∧e.at 11=V.int .i64 v11_3∧e.at 12=V.int .i64 v12_3
def P453_3(a1:qh)(x1:T2 Int ql)(o3_1:List (List Int))(q4_0_1:Int)(q4_1_1:List Int)(q4_2_1:List (List (List Int)))(v7_1:Int)(x7:List (List Int))(q0_0_2:List U8)(q0_1_2:Int)(q0_2_2:Int)(o5_2:List Int)(v10_2:Int)(u4 u10:Nat)(zv11_3:Int)(x:Ex)(e:Env)(h:Heap):Prop:=
 x= .normal∧∃k17:Nat,h=⟨[(0,some [V.isl (q0_0_2.map enc),V.int .i64 q0_1_2,V.int .u64 q0_2_2]),(0,none),(2,some [V.int .i64 0,V.nils,V.nils,V.nils]),(u4,some (o3_1.map enc)),(4,some [V.int .i64 q4_0_1,V.isl (q4_1_1.map enc),V.isl (q4_2_1.map enc),V.sl 3 u4 0 o3_1.length 1]),(u10,some (o5_2.map enc))],k17⟩∧e.length=89∧e.at 0=V.ptr 0 0 0∧e.at 3=V.iptr [V.int .i64 a1.Prime,V.isl (a1.Dims.map enc),V.isl (a1.Maps.map enc)]∧e.at 4=V.ptr 2 2 0∧e.at 5=V.ptr 4 4 0∧e.at 6=V.int .i64 x1.a∧e.at 7=V.int .i64 v7_1∧e.at 8=V.sl 5 u10 0 o5_2.length 1∧e.at 9=V.isl (x7.map enc)∧e.at 10=V.int .i64 v10_2∧e.at 11=V.int .i64 zv11_3
theorem l453_3(a1:qh)(x1:T2 Int ql)(o3_1:List (List Int))(q4_0_1:Int)(q4_1_1:List Int)(q4_2_1:List (List (List Int)))(v7_1:Int)(x7:List (List Int))(q0_0_2:List U8)(q0_1_2:Int)(q0_2_2:Int)(o5_2:List Int)(v10_2:Int)(u4 u10:Nat){s:Int×Int}{t:Int}(hF:qV (F453_3_S a1 x1 o3_1 q4_0_1 q4_1_1 q4_2_1 v7_1 x7 q0_0_2 q0_1_2 q0_2_2 o5_2 v10_2) s=some t){e:Env}{h:Heap}(hI:I453_3 a1 x1 o3_1 q4_0_1 q4_1_1 q4_2_1 v7_1 x7 q0_0_2 q0_1_2 q0_2_2 o5_2 v10_2 u4 u10 s e h):W A c453_3 e h (P453_3 a1 x1 o3_1 q4_0_1 q4_1_1 q4_2_1 v7_1 x7 q0_0_2 q0_1_2 q0_2_2 o5_2 v10_2 u4 u10 t):=by
 show W A (.block 4 (.loop false b453_3)) e h _;rw[qr];refine jh hF 6 (by rcases s with⟨_,_⟩; obtain⟨_,rfl,_⟩:=hI; rfl) (I453_3 a1 x1 o3_1 q4_0_1 q4_1_1 q4_2_1 v7_1 x7 q0_0_2 q0_1_2 q0_2_2 o5_2 v10_2 u4 u10) hI ?_
 ·rintro⟨v11_3,v12_3⟩ e h ⟨k17,rfl,h_16⟩ o ho
  unfold F453_3_S at ho;dsimp only at ho;by_cases c19:0 < v7_1
  ·rw[if_pos c19]at ho
   obtain⟨x20,gx20,ho⟩:=bS ho;have wx20:=qz gx20;obtain⟨x21,gx21,ho⟩:=bS ho;obtain⟨w22a,w22b⟩:=qk gx21;by_cases c23:v12_3 < x21
   ·rw[if_pos c23]at ho
    obtain⟨x24,gx24,ho⟩:=bS ho;obtain⟨w25a,w25b⟩:=qk gx24;obtain⟨x26,gx26,ho⟩:=bS ho;obtain⟨w27a,w27b⟩:=qk gx26;by_cases c28:x26=0
    ·rw[if_pos c28]at ho
     obtain⟨x29,gx29,ho⟩:=bS ho;have wx29:=qz gx29;cases ho;simp only[simprocAttr,R0,b453_3, *];refine ai rfl (ei _ (ai rfl ?_));simp only[simprocAttr,R0, *]
    ·rw[if_neg c28]at ho
     obtain⟨x30,gx30,ho⟩:=bS ho;obtain⟨w31a,w31b⟩:=qk gx30;have w31c:=za gx30;have w31d:List.drop (Int.toNat x20) (o3_1.map enc)=(V.isl (x30.map enc))::List.drop ((Int.toNat x20)+1) (o3_1.map enc):=jx w31b;obtain⟨x32,gx32,ho⟩:=bS ho;obtain⟨w33a,w33b⟩:=qk gx32;obtain⟨x34,gx34,ho⟩:=bS ho;have wx34:=qz gx34;cases ho;simp only[simprocAttr,R0,b453_3, *];refine ai rfl (ei _ (ai rfl ?_));simp only[simprocAttr,R0, *]
   ·rw[if_neg c23]at ho
    cases ho;simp only[simprocAttr,R0,b453_3, *];intro ht; subst ht;simp only[simprocAttr,RR,RB];refine ai rfl (ei _ (ai rfl ?_));simp only[simprocAttr,R0, *]
  ·rw[if_neg c19]at ho
   cases ho;simp only[simprocAttr,R0,b453_3, *];intro ht; subst ht;simp only[simprocAttr,RR,RB];refine ai rfl (ei _ (ai rfl ?_));simp only[simprocAttr,R0, *]
def I453_2(a1:qh)(x1:T2 Int ql)(o3_1:List (List Int))(q4_0_1:Int)(q4_1_1:List Int)(q4_2_1:List (List (List Int)))(v7_1:Int)(x7:List (List Int))(u4:Nat)(s:(List U8)×Int×Int×(List Int)×Int)(e:Env)(h:Heap):Prop:=
 match s with
 |(q0_0_2,q0_1_2,q0_2_2,o5_2,v10_2)=>
  ∃u10 k11:Nat,h=⟨[(0,some [V.isl (q0_0_2.map enc),V.int .i64 q0_1_2,V.int .u64 q0_2_2]),(0,none),(2,some [V.int .i64 0,V.nils,V.nils,V.nils]),(u4,some (o3_1.map enc)),(4,some [V.int .i64 q4_0_1,V.isl (q4_1_1.map enc),V.isl (q4_2_1.map enc),V.sl 3 u4 0 o3_1.length 1]),(u10,some (o5_2.map enc))],k11⟩∧e.length=89∧e.at 0=V.ptr 0 0 0∧e.at 3=V.iptr [V.int .i64 a1.Prime,V.isl (a1.Dims.map enc),V.isl (a1.Maps.map enc)]∧e.at 4=V.ptr 2 2 0∧e.at 5=V.ptr 4 4 0∧e.at 6=V.int .i64 x1.a∧e.at 7=V.int .i64 v7_1∧e.at 8=V.sl 5 u10 0 o5_2.length 1∧e.at 9=V.isl (x7.map enc)∧e.at 10=V.int .i64 v10_2
def P453_2(a1:qh)(x1:T2 Int ql)(o3_1:List (List Int))(q4_0_1:Int)(q4_1_1:List Int)(q4_2_1:List (List (List Int)))(v7_1:Int)(x7:List (List Int))(u4:Nat)(t:(List U8)×Int×Int×(List Int))(x:Ex)(e:Env)(h:Heap):Prop:=
 match t with
 |(zq0_0_2,zq0_1_2,zq0_2_2,zo5_2)=>
  x= .normal∧∃u10 k11:Nat,h=⟨[(0,some [V.isl (zq0_0_2.map enc),V.int .i64 zq0_1_2,V.int .u64 zq0_2_2]),(0,none),(2,some [V.int .i64 0,V.nils,V.nils,V.nils]),(u4,some (o3_1.map enc)),(4,some [V.int .i64 q4_0_1,V.isl (q4_1_1.map enc),V.isl (q4_2_1.map enc),V.sl 3 u4 0 o3_1.length 1]),(u10,some (zo5_2.map enc))],k11⟩∧e.length=89∧e.at 0=V.ptr 0 0 0∧e.at 3=V.iptr [V.int .i64 a1.Prime,V.isl (a1.Dims.map enc),V.isl (a1.Maps.map enc)]∧e.at 4=V.ptr 2 2 0∧e.at 5=V.ptr 4 4 0∧e.at 6=V.int .i64 x1.a∧e.at 7=V.int .i64 v7_1∧e.at 8=V.sl 5 u10 0 zo5_2.length 1
theorem l453_2(a1:qh)(x1:T2 Int ql)(o3_1:List (List Int))(q4_0_1:Int)(q4_1_1:List Int)(q4_2_1:List (List (List Int)))(v7_1:Int)(x7:List (List Int))(u4:Nat){s:(List U8)×Int×Int×(List Int)×Int}{t:(List U8)×Int×Int×(List Int)}(hF:qV (xK a1 x1 o3_1 q4_0_1 q4_1_1 q4_2_1 v7_1 x7) s=some t){e:Env}{h:Heap}(hI:I453_2 a1 x1 o3_1 q4_0_1 q4_1_1 q4_2_1 v7_1 x7 u4 s e h):W A c453_2 e h (P453_2 a1 x1 o3_1 q4_0_1 q4_1_1 q4_2_1 v7_1 x7 u4 t):=by
 show W A (.block 2 (.loop false b453_2)) e h _;rw[qr];refine jh hF 6 (by rcases s with⟨_,_,_,_,_⟩; obtain⟨_,_,rfl,_⟩:=hI; rfl) (I453_2 a1 x1 o3_1 q4_0_1 q4_1_1 q4_2_1 v7_1 x7 u4) hI ?_
 ·rintro⟨q0_0_2,q0_1_2,q0_2_2,o5_2,v10_2⟩ e h ⟨u10,k11,rfl,h_9⟩ o ho
  unfold xK at ho;dsimp only at ho;obtain⟨x13,gx13,ho⟩:=bS ho;obtain⟨w14a,w14b⟩:=qk gx13;by_cases c15:v10_2 < x13
  ·rw[if_pos c15]at ho
   obtain⟨zv11_3,gt35,ho⟩:=bS ho;simp only[simprocAttr,R0,b453_2, *];refine W.mono (l453_3 a1 x1 o3_1 q4_0_1 q4_1_1 q4_2_1 v7_1 x7 q0_0_2 q0_1_2 q0_2_2 o5_2 v10_2 u4 u10 gt35 (ei _ (ai rfl ?_))) ?_
   ·simp only[simprocAttr,R0, *]
   rintro _ e _ ⟨rfl,k17,rfl,h_18⟩;obtain⟨x36,gx36,ho⟩:=bS ho;have wx36:=qz gx36;obtain⟨x37,gx37,ho⟩:=bS ho;have w38:xans A 416 [V.isl (q0_0_2.map enc),V.int .i64 q0_1_2,V.int .u64 q0_2_2] [V.int .i64 x36]=some (V.int .i64 x37.a,[V.isl (x37.b.code.map enc),V.int .i64 x37.b.at_,V.int .u64 x37.b.hash]):=s416 ⟨q0_0_2,q0_1_2,q0_2_2⟩ x36 gx37;obtain⟨x39,gx39,ho⟩:=bS ho;have wx39:=qz gx39;obtain⟨l41,gl41,ho⟩:=bS ho;have w40:=fun a b c d e=> qA (α:=Int) (n:=o5_2.length) (m:=1) (ds:=[V.int .i64 (if 5 < x39 then 5 else x39)]) gl41 (by first|rfl|simp) (by first|rfl|simp) rfl a b c d e;have w40l:=qM gl41;obtain⟨x42,gx42,ho⟩:=bS ho;have wx42:=qz gx42;cases ho;simp only[simprocAttr,R0,qj, *];refine ai rfl (ei _ (ei _ (ai rfl ?_)));simp only[simprocAttr,R0,qj, *]
  ·rw[if_neg c15]at ho
   cases ho;simp only[simprocAttr,R0,b453_2, *];intro ht; subst ht;simp only[simprocAttr,RR,RB];refine ai rfl (ei _ (ei _ (ai rfl ?_)));simp only[simprocAttr,R0, *]
def I453_1(a1:qh)(x1:T2 Int ql)(v7_1:Int)(s:(List U8)×Int×Int×(List (List Int))×Int×(List Int)×(List (List (List Int))))(e:Env)(h:Heap):Prop:=
 match s with
 |(q0_0_1,q0_1_1,q0_2_1,o3_1,q4_0_1,q4_1_1,q4_2_1)=>
  ∃u4 k5:Nat,h=⟨[(0,some [V.isl (q0_0_1.map enc),V.int .i64 q0_1_1,V.int .u64 q0_2_1]),(0,none),(2,some [V.int .i64 0,V.nils,V.nils,V.nils]),(u4,some (o3_1.map enc)),(4,some [V.int .i64 q4_0_1,V.isl (q4_1_1.map enc),V.isl (q4_2_1.map enc),V.sl 3 u4 0 o3_1.length 1])],k5⟩∧e.length=89∧e.at 0=V.ptr 0 0 0∧e.at 3=V.iptr [V.int .i64 a1.Prime,V.isl (a1.Dims.map enc),V.isl (a1.Maps.map enc)]∧e.at 4=V.ptr 2 2 0∧e.at 5=V.ptr 4 4 0∧e.at 6=V.int .i64 x1.a∧e.at 7=V.int .i64 v7_1
def P453_1(a1:qh)(x1:T2 Int ql)(t:(List U8)×Int×Int×(List (List Int))×Int×(List Int)×(List (List (List Int))))(x:Ex)(e:Env)(h:Heap):Prop:=
 match t with
 |(zq0_0_1,zq0_1_1,zq0_2_1,zo3_1,zq4_0_1,zq4_1_1,zq4_2_1)=>
  x= .normal∧∃u4 k5:Nat,h=⟨[(0,some [V.isl (zq0_0_1.map enc),V.int .i64 zq0_1_1,V.int .u64 zq0_2_1]),(0,none),(2,some [V.int .i64 0,V.nils,V.nils,V.nils]),(u4,some (zo3_1.map enc)),(4,some [V.int .i64 zq4_0_1,V.isl (zq4_1_1.map enc),V.isl (zq4_2_1.map enc),V.sl 3 u4 0 zo3_1.length 1])],k5⟩∧e.length=89∧e.at 4=V.ptr 2 2 0∧e.at 5=V.ptr 4 4 0
theorem l453_1(a1:qh)(x1:T2 Int ql){lo:Int}{s:(List U8)×Int×Int×(List (List Int))×Int×(List Int)×(List (List (List Int)))}{t:(List U8)×Int×Int×(List (List Int))×Int×(List Int)×(List (List (List Int)))}(hF:forR lo (a1.Dims.length:Int) (F453_1_B a1 x1) (F453_1_D a1 x1) s=some t){e:Env}{h:Heap}(hI:I453_1 a1 x1 lo s e h):W A c453_1 e h (P453_1 a1 x1 t):=by
 show W A (.block 0 (.loop false b453_1)) e h _;rw[qr];refine qD hF 5 (by rcases s with⟨_,_,_,_,_,_,_⟩; obtain⟨_,_,rfl,_⟩:=hI; rfl) (I453_1 a1 x1) hI ?_ ?_
 ·rintro v7_1 ⟨q0_0_1,q0_1_1,q0_2_1,o3_1,q4_0_1,q4_1_1,q4_2_1⟩ e h ⟨u4,k5,rfl,h_3⟩ hlt hw o ho
  unfold F453_1_B at ho;dsimp only at ho;obtain⟨x7,gx7,ho⟩:=bS ho;have w8:ans A 76 [(eC a1),V.int .i64 v7_1]=some (V.isl (x7.map enc)):=s76 a1 v7_1 gx7;obtain⟨⟨zq0_0_2,zq0_1_2,zq0_2_2,zo5_2⟩,gt43,ho⟩:=bS ho;dsimp only at ho;simp only[simprocAttr,R0,b453_1,h_3,eq_true hlt,hw,w8];refine W.mono (l453_2 a1 x1 o3_1 q4_0_1 q4_1_1 q4_2_1 v7_1 x7 u4 gt43 (ei _ (ei _ (ai rfl ?_)))) ?_
  ·simp only[simprocAttr,R0,h_3,eq_true hlt,hw,w8]
  rintro _ e _ ⟨rfl,u10,k11,rfl,h_12⟩;obtain⟨l45,gl45,ho⟩:=bS ho;have w44:=fun a b c d e=> qA (α:=List Int) (n:=o3_1.length) (m:=1) (ds:=[V.isl (zo5_2.map enc)]) gl45 (by first|rfl|simp) (by first|rfl|simp) rfl a b c d e;have w44l:=qM gl45;cases ho;simp only[simprocAttr,R0,h_12,eq_true hlt,hw,qO (α:=Int) zo5_2,w44];refine ai rfl (ei _ (ei _ (ai rfl ?_)));simp only[simprocAttr,R0,h_12,eq_true hlt,hw,qO (α:=Int) zo5_2,w44]
 ·rintro v7_1 ⟨q0_0_1,q0_1_1,q0_2_1,o3_1,q4_0_1,q4_1_1,q4_2_1⟩ e h ⟨u4,k5,rfl,h_3⟩ hge t1 ho
  unfold F453_1_D at ho;dsimp only at ho;cases ho;simp only[simprocAttr,R0,b453_1,h_3,eq_false hge];intro ht; subst ht;refine ai rfl (ei _ (ei _ (ai rfl ?_)));simp only[simprocAttr,R0,h_3,eq_false hge]
theorem s453(src:ql)(a1:qh){r:T2 qd ql}(hF:F453 src a1=some r):xans A 453 [V.isl (src.code.map enc),V.int .i64 src.at_,V.int .u64 src.hash] [(eC a1)]=some (V.agg [V.int .i64 r.a.Complex.Prime,V.isl (r.a.Complex.Dims.map enc),V.isl (r.a.Complex.Maps.map enc),V.isl (r.a.Levels.map enc)],[V.isl (r.b.code.map enc),V.int .i64 r.b.at_,V.int .u64 r.b.hash]):=by
 refine jI (f:=p453) rfl rfl rfl fun e hl h0 he=>?_;have h0_0:e.at 0=V.ptr 0 0 0:=h0;have h1_0:e.at 1=(eC a1):=he 0 _ rfl;have hl_0:e.length=89:=hl;clear h0 he hl;show W A b453 e ⟨[(0,some [V.isl (src.code.map enc),V.int .i64 src.at_,V.int .u64 src.hash])],1⟩ _;unfold F453 at hF;obtain⟨x1,gx1,hF⟩:=bS hF;have w2:xans A 412 [V.isl (src.code.map enc),V.int .i64 src.at_,V.int .u64 src.hash] [V.isl [V.int .i64 0,V.int .i64 1,V.int .i64 2,V.int .i64 2,V.int .i64 3,V.int .i64 5]]=some (V.int .i64 x1.a,[V.isl (x1.b.code.map enc),V.int .i64 x1.b.at_,V.int .u64 x1.b.hash]):=s412 src [0,1,2,2,3,5] gx1;obtain⟨⟨zq0_0_1,zq0_1_1,zq0_2_1,zo3_1,zq4_0_1,zq4_1_1,zq4_2_1⟩,gt46,hF⟩:=bS hF;dsimp only at hF;simp only[simprocAttr,R0,b453,qj, *];refine W.mono (l453_1 a1 x1 gt46 (ei _ (ei _ (ai rfl ?_)))) ?_
 ·simp only[simprocAttr,R0,qj, *]
 rintro _ e _ ⟨rfl,u4,k5,rfl,h_6⟩;cases hF;simp only[simprocAttr,R0, *];exact qY (by simp only[simprocAttr,R0,qg,p453,Rs.ev,qc,frzs (α:=List Int) zo3_1,qO (α:=List Int) zo3_1, *])
def F452(src:ql):Option (T2 qd ql):=
 (F415 src).bind fun x1=>
 (F453 x1.b x1.a).bind fun x3=>
 some ⟨x3.a,x3.b⟩
theorem s452(src:ql){r:T2 qd ql}(hF:F452 src=some r):xans A 452 [V.isl (src.code.map enc),V.int .i64 src.at_,V.int .u64 src.hash] []=some (V.agg [V.int .i64 r.a.Complex.Prime,V.isl (r.a.Complex.Dims.map enc),V.isl (r.a.Complex.Maps.map enc),V.isl (r.a.Levels.map enc)],[V.isl (r.b.code.map enc),V.int .i64 r.b.at_,V.int .u64 r.b.hash]):=by
 refine jI (f:=p452) rfl rfl rfl fun e hl h0 he=>?_;have h0_0:e.at 0=V.ptr 0 0 0:=h0;have hl_0:e.length=7:=hl;clear h0 he hl;show W A b452 e ⟨[(0,some [V.isl (src.code.map enc),V.int .i64 src.at_,V.int .u64 src.hash])],1⟩ _;unfold F452 at hF;obtain⟨x1,gx1,hF⟩:=bS hF;have w2:xans A 415 [V.isl (src.code.map enc),V.int .i64 src.at_,V.int .u64 src.hash] []=some ((eC x1.a),[V.isl (x1.b.code.map enc),V.int .i64 x1.b.at_,V.int .u64 x1.b.hash]):=s415 src gx1;obtain⟨x3,gx3,hF⟩:=bS hF;have w4:xans A 453 [V.isl (x1.b.code.map enc),V.int .i64 x1.b.at_,V.int .u64 x1.b.hash] [(eC x1.a)]=some (V.agg [V.int .i64 x3.a.Complex.Prime,V.isl (x3.a.Complex.Dims.map enc),V.isl (x3.a.Complex.Maps.map enc),V.isl (x3.a.Levels.map enc)],[V.isl (x3.b.code.map enc),V.int .i64 x3.b.at_,V.int .u64 x3.b.hash]):=s453 x1.b x1.a gx3;cases hF;simp only[simprocAttr,R0,b452,qj,qj, *];exact qY (by simp only[simprocAttr,R0,qg,p452,Rs.ev,qc,qj,qj, *])
def F450_1_B(lv:List (List Int))(i:Int)(l:List (List Int)):Option (List (List Int)⊕List (List Int)):=(getI lv i).bind fun a=>(F94 a).bind fun b=>(app 24 l [b]).bind fun l2=> some (.inl l2)
def F450_1_D(i:Int)(l:List (List Int)):Option (List (List Int)):=some l
def F450(src:ql):Option (T2 qd ql):=(F452 src).bind fun x=>(forR 0 (x.a.Levels.length:Int) (F450_1_B x.a.Levels) F450_1_D []).bind fun lv=>(F416 x.b (lv.length:Int)).bind fun n=>(F416 n.b 40).bind fun k=>
 if k.a=0 then(getI lv n.a).bind fun row=>(app 8 row [0]).bind fun row'=>(setI lv n.a row').bind fun lv'=> some ⟨⟨x.a.Complex,lv'⟩,k.b⟩
 else if k.a=1 then(getI lv n.a).bind fun row=> if 0 < (row.length:Int)then(F416 k.b (row.length:Int)).bind fun j=>(F412 j.b [(-1),6,0]).bind fun v=>(setI row j.a v.a).bind fun row'=>(setI lv n.a row').bind fun lv'=> some ⟨⟨x.a.Complex,lv'⟩,v.b⟩else some ⟨⟨x.a.Complex,lv⟩,k.b⟩
 else if k.a=2 then if 1≤lv.length then some ⟨⟨x.a.Complex,lv.drop 1⟩,k.b⟩else none
 else if k.a=3 then(F421 k.b x.a.Complex).bind fun y=> some ⟨⟨y.a,lv⟩,y.b⟩
 else some ⟨⟨x.a.Complex,lv⟩,k.b⟩
theorem d1fz{h:Heap}{k u:Nat}{vs:List V}{l:List (List Int)}{K:Ks}(g:h.ents[k]? =some (u,some vs))(r:reps h vs l K)(hl:1≤l.length)(f:Nat):frz h (f+6) (.sl k u 1 (l.length - 1) 1)=some (.isl ((l.drop 1).map enc)):=by
 cases vs with
 |nil=> cases l with
  |nil=> simp at hl
  |cons a l=> exact r.elim
 |cons v vs=> cases l with
  |nil=> exact r.elim
  |cons a l=>
   obtain⟨K1,K2,h1,h2,h3,h4⟩:=r;have hn:=h2.len;simp only[frz,get_of g,vU,vK,vV,List.drop_succ_cons,vI];rw[if_pos ⟨by omega,by omega⟩,wQ (by omega),show mapO (frz h (f+5)) vs=_ from h2.fz f];simp only[jr]
set_option maxHeartbeats 8000000 in
theorem s450(src:ql){r:T2 qd ql}(hF:F450 src=some r):xans A 450 [V.isl (src.code.map enc),V.int .i64 src.at_,V.int .u64 src.hash] []=some (V.agg [V.int .i64 r.a.Complex.Prime,V.isl (r.a.Complex.Dims.map enc),V.isl (r.a.Complex.Maps.map enc),V.isl (r.a.Levels.map enc)],[V.isl (r.b.code.map enc),V.int .i64 r.b.at_,V.int .u64 r.b.hash]):=by
 refine jI (f:=p450) rfl rfl rfl fun e hl h0 he=>?_;have h0_0:e.at 0=V.ptr 0 0 0:=h0;have hl_0:e.length=76:=hl;clear h0 he hl;show W A b450 e ⟨[(0,some [V.isl (src.code.map enc),V.int .i64 src.at_,V.int .u64 src.hash])],1⟩ _;unfold F450 at hF;obtain⟨x,gx,hF⟩:=bS hF;have wx:xans A 452 [V.isl (src.code.map enc),V.int .i64 src.at_,V.int .u64 src.hash] []=some (V.agg [V.int .i64 x.a.Complex.Prime,V.isl (x.a.Complex.Dims.map enc),V.isl (x.a.Complex.Maps.map enc),V.isl (x.a.Levels.map enc)],[V.isl (x.b.code.map enc),V.int .i64 x.b.at_,V.int .u64 x.b.hash]):=s452 src gx;obtain⟨lv,glv,hF⟩:=bS hF;obtain⟨n,gn,hF⟩:=bS hF;have wn:xans A 416 [V.isl (x.b.code.map enc),V.int .i64 x.b.at_,V.int .u64 x.b.hash] [V.int .i64 (lv.length:Int)]=some (V.int .i64 n.a,[V.isl (n.b.code.map enc),V.int .i64 n.b.at_,V.int .u64 n.b.hash]):=s416 x.b (lv.length:Int) gn;obtain⟨k,gk,hF⟩:=bS hF;have wk:xans A 416 [V.isl (n.b.code.map enc),V.int .i64 n.b.at_,V.int .u64 n.b.hash] [V.int .i64 40]=some (V.int .i64 k.a,[V.isl (k.b.code.map enc),V.int .i64 k.b.at_,V.int .u64 k.b.hash]):=s416 n.b 40 gk;simp only[simprocAttr, -Int.reduceNatCast',R0,b450,hl_0,h0_0,qj,wx];refine W.mono (Q:=fun x' e h=> x'= .normal∧h.ents[0]? =some (0,some [V.isl (x.b.code.map enc),V.int .i64 x.b.at_,V.int .u64 x.b.hash])∧h.ents[1]? =some (1,some [V.int .i64 0,V.nils,V.nils,V.nils])∧h.ents[2]? =some (2,some [V.int .i64 x.a.Complex.Prime,V.isl (x.a.Complex.Dims.map enc),V.isl (x.a.Complex.Maps.map enc),V.isl (x.a.Levels.map enc)])∧(∃u vs K,h.ents[3]? =some (u,some vs)∧reps h vs lv K∧(∀k,K k→4≤k)∧e.at 4=V.sl 3 u 0 lv.length 1)∧e.length=76∧e.at 0=V.ptr 0 0 0∧e.at 2=V.ptr 1 1 0∧e.at 3=V.ptr 2 2 0) ?_ ?_
 rotate_left
 ·rintro _ e ⟨E,c⟩ ⟨rfl,g0,g1,g2,⟨u,vs,K,g3,g4,g5,h4_1⟩,hl_1,h0_1,h2_1,h3_1⟩
  simp only at g0 g1 g2 g3;have hE3:3 < E.length:=(List.getElem?_eq_some_iff.1 g3).1;have hln:=g4.len;have hbd:∀k,K k→k < E.length:=fun k q=> g4.bd q;have gr0:∀z:Nat×Option (List V),(E.set 0 z)[0]? =some z:=fun z=> qp (by omega);have n1:∀ (z y:Nat×Option (List V)),((E.set 0 z).set 0 y)[1]? =_:=fun z y=>(qi (by omega)).trans ((qi (by omega)).trans g1);have n2:∀ (z y:Nat×Option (List V)),((E.set 0 z).set 0 y)[2]? =_:=fun z y=>(qi (by omega)).trans ((qi (by omega)).trans g2);have n3:∀ (z y:Nat×Option (List V)),((E.set 0 z).set 0 y)[3]? =_:=fun z y=>(qi (by omega)).trans ((qi (by omega)).trans g3);have rep3:∀ (E2:List (Nat×Option (List V))) c2,E2[3]? =some (u,some vs)→(∀k,K k→E2[k]? =E[k]?)→∀f,frz ⟨E2,c2⟩ (f+6) (V.sl 3 u 0 lv.length 1)=some (V.isl (lv.map enc)):=fun E2 c2 q1 q2 f=> Deep.fz (α:=List (List Int)) (rep_at q1 (g4.frame q2) fun q=> by have:=g5 _ q; omega) f;have t2k:∀ (a b y:Nat×Option (List V)),(((E.set 0 a).set 0 b).set 2 y)[2]? =some y:=fun a b y=> qp (by simp; omega);have t1:∀ (a b y:Nat×Option (List V)),(((E.set 0 a).set 0 b).set 2 y)[1]? =_:=fun a b y=>(qi (by omega)).trans (n1 a b);have t1k:∀ (a b y t:Nat×Option (List V)),((((E.set 0 a).set 0 b).set 2 y).set 1 t)[1]? =some t:=fun a b y t=> qp (by simp; omega);have t0:∀ (a b y t:Nat×Option (List V)),((((E.set 0 a).set 0 b).set 2 y).set 1 t)[0]? =some b:=fun a b y t=>(qi (by omega)).trans ((qi (by omega)).trans (qp (by simp; omega)));have tz:∀ (a b y t r:Nat×Option (List V)) c2,frz ⟨((((E.set 0 a).set 0 b).set 2 y).set 1 t).set 0 r,c2⟩ 15 (V.sl 3 u 0 lv.length 1)=_:=fun a b y t r c2=> rep3 _ c2 ((qi (by omega)).trans ((qi (by omega)).trans ((qi (by omega)).trans ((qi (by omega)).trans ((qi (by omega)).trans g3))))) (fun k q=> by have:=g5 k q; exact(qi (by omega)).trans ((qi (by omega)).trans ((qi (by omega)).trans ((qi (by omega)).trans (qi (by omega)))))) 9;by_cases c0:k.a=0
  ·rw[if_pos c0]at hF
   obtain⟨row,gr,hF⟩:=bS hF;obtain⟨ra,rb⟩:=qk gr;have rc:=za gr;obtain⟨row',ga,hF⟩:=bS hF;obtain⟨lv',gs,hF⟩:=bS hF;have st:=setI_eq gs;have hE:=wA hF; subst hE;obtain⟨hn,he⟩:=List.getElem?_eq_some_iff.1 rb;subst he;obtain⟨w,K1,K2,f1,f2,f3,f4,f5⟩:=g4.focus hn;have hn2:n.a.toNat+1≤vs.length:=by rw[hln]; omega
   have o1:zd none (vs.drop n.a.toNat)=some w:=qC f1;have ap:∀ (z y t:Nat×Option (List V)) c2,∃v' E' c',∃K':Ks,qS 1 8 w 1 [V.int .i64 0] ⟨((E.set 0 z).set 0 y)++[t],c2⟩=some (v',⟨E',c'⟩)∧Deep.rep ⟨E',c'⟩ v' row' K'∧(∀k,K' k→K1 k∨False∨E.length+1≤k)∧(∀k,k < E.length+1→¬K1 k→E'[k]? =(((E.set 0 z).set 0 y)++[t])[k]?)∧E.length+1≤E'.length:=fun z y t c2=> by
    have q:=xw (α:=Int) (E:=((E.set 0 z).set 0 y)++[t]) (c:=c2) (b:=8) (v:=w) (x:=V.int .i64 0) (l:=lv[n.a.toNat]) (l2:=row') (a:=0) (K:=K1) (K1:=fun _=> False)
     (Deep.frame f2 fun k q=> by have h1:=g5 k ((f4 k).2 (.inl q)); have h2:=hbd k ((f4 k).2 (.inl q)); exact(List.getElem?_append_left (by simpa using h2)).trans ((qi (by omega)).trans (qi (by omega)))) ⟨rfl,fun _ x=> x⟩ (fun _ _ x=> x) ga
    simpa using q
   obtain⟨v',E',c',K',a1,a2,a3,a4,a5⟩:=ap (0,some [V.isl (n.b.code.map enc),V.int .i64 n.b.at_,V.int .u64 n.b.hash]) (0,some [V.isl (k.b.code.map enc),V.int .i64 k.b.at_,V.int .u64 k.b.hash]) (c,some [V.int .i64 0]) (c+1);have k13:¬K1 3:=fun q=> by have:=g5 3 ((f4 3).2 (.inl q)); omega
   have k12:¬K1 2:=fun q=> by have:=g5 2 ((f4 2).2 (.inl q)); omega
   have k11:¬K1 1:=fun q=> by have:=g5 1 ((f4 1).2 (.inl q)); omega
   have k10:¬K1 0:=fun q=> by have:=g5 0 ((f4 0).2 (.inl q)); omega
   have al:∀k,k < E.length→4≤k→¬K1 k→E'[k]? =E[k]?:=fun k h1 h2 h3=>(a4 k (by omega) h3).trans ((List.getElem?_append_left (by simpa using h1)).trans ((qi (by omega)).trans (qi (by omega))));have e3:E'[3]? =some (u,some vs):=(a4 3 (by omega) k13).trans ((List.getElem?_append_left (by simp; omega)).trans ((qi (by omega)).trans ((qi (by omega)).trans g3)));have e2:E'[2]? =_:=(a4 2 (by omega) k12).trans ((List.getElem?_append_left (by simp; omega)).trans ((qi (by omega)).trans ((qi (by omega)).trans g2)));have e1:E'[1]? =_:=(a4 1 (by omega) k11).trans ((List.getElem?_append_left (by simp; omega)).trans ((qi (by omega)).trans ((qi (by omega)).trans g1)));have e0:E'[0]? =_:=(a4 0 (by omega) k10).trans ((List.getElem?_append_left (by simp; omega)).trans (qp (by simp; omega)));have ro1:v'.cells=[v']:=(rep_one (α:=Int) a2).1;have ro2:v'.tupless=true:=(rep_one (α:=Int) a2).2;have vset:vs.take n.a.toNat++[v']++vs.drop (n.a.toNat+1)=vs.set n.a.toNat v':=by rw[List.set_eq_take_append_cons_drop,if_pos (by omega)]; simp
   have s2:∀z:Nat×Option (List V),(E'.set 3 z)[2]? =_:=fun z=>(qi (by omega)).trans e2;have s2k:∀z y:Nat×Option (List V),((E'.set 3 z).set 2 y)[2]? =some y:=fun z y=> qp (by simp; omega);have s1:∀z y:Nat×Option (List V),((E'.set 3 z).set 2 y)[1]? =_:=fun z y=>(qi (by omega)).trans ((qi (by omega)).trans e1);have s1k:∀z y t:Nat×Option (List V),(((E'.set 3 z).set 2 y).set 1 t)[1]? =some t:=fun z y t=> qp (by simp; omega);have s0:∀z y t:Nat×Option (List V),(((E'.set 3 z).set 2 y).set 1 t)[0]? =_:=fun z y t=>(qi (by omega)).trans ((qi (by omega)).trans ((qi (by omega)).trans e0));have fz:∀ (y t r:Nat×Option (List V)) c2,frz ⟨(((E'.set 3 (u,some (vs.set n.a.toNat v'))).set 2 y).set 1 t).set 0 r,c2⟩ 15 (V.sl 3 u 0 lv.length 1)=some (V.isl (List.map enc lv')):=fun y t r c2=> by
    have hl':lv.length=lv'.length:=by rw[st]; simp
    rw[hl'];refine Deep.fz (α:=List (List Int)) (rep_at (K:=fun k=> K' k∨K2 k) ((qi (by omega)).trans ((qi (by omega)).trans ((qi (by omega)).trans (qp (by omega))))) ?_ fun q=>?_) 9
    ·rw[st]
     refine f5 _ v' row' K' _ (Deep.frame a2 fun k q=>?_) (fun k q=>?_) (fun k p q=>?_) (fun k=> yE)
     ·have:=a3 k q
      have h4:4≤k:=this.elim (fun q=> g5 k ((f4 k).2 (.inl q))) fun q=> q.elim (fun x=> x.elim) fun x=> by omega
      exact(qi (by omega)).trans ((qi (by omega)).trans ((qi (by omega)).trans (qi (by omega))))
     ·have h4:=g5 k ((f4 k).2 (.inr q))
      exact(qi (by omega)).trans ((qi (by omega)).trans ((qi (by omega)).trans ((qi (by omega)).trans (al k (hbd k ((f4 k).2 (.inr q))) h4 fun p=> f3 k p q))))
     ·rcases a3 k p with p|p|p
      ·exact f3 k p q
      ·exact p
      ·have:=hbd k ((f4 k).2 (.inr q)); omega
    ·rcases q with q|q
     ·rcases a3 3 q with p|p|p
      ·exact k13 p
      ·exact p
      ·omega
     ·have:=g5 3 ((f4 3).2 (.inr q)); omega
   simp only[simprocAttr, -Int.reduceNatCast',R0,hl_1,h0_1,h2_1,h3_1,h4_1,qj,gr0,g0,wn,wk,eq_true c0,n3,qF,ra,rc,o1,a1,e3,hln,eq_true ra,eq_true rc,eq_true hn,eq_true (show n.a.toNat+1≤lv.length by omega),ro1,ro2,vK,vD,vset,s2,s2k,s1];exact qY (by simp only[simprocAttr, -Int.reduceNatCast',R0,qg,p450,Rs.ev,hl_1,h0_1,h2_1,h3_1,h4_1,s1k,s0,fz])
  rw[if_neg c0]at hF;by_cases c1:k.a=1
  ·rw[if_pos c1]at hF
   obtain⟨row,gr,hF⟩:=bS hF;obtain⟨ra,rb⟩:=qk gr;have rc:=za gr;obtain⟨hn,he⟩:=List.getElem?_eq_some_iff.1 rb;subst he;obtain⟨w,K1,K2,f1,f2,f3,f4,f5⟩:=g4.focus hn;have o1:zd none (vs.drop n.a.toNat)=some w:=qC f1;have hlr:=rep_len f2;by_cases q3:0 < (lv[n.a.toNat].length:Int)
   ·rw[if_pos q3]at hF
    obtain⟨j,gj,hF⟩:=bS hF;have wj:xans A 416 [V.isl (k.b.code.map enc),V.int .i64 k.b.at_,V.int .u64 k.b.hash] [V.int .i64 (lv[n.a.toNat].length:Int)]=some (V.int .i64 j.a,[V.isl (j.b.code.map enc),V.int .i64 j.b.at_,V.int .u64 j.b.hash]):=s416 k.b _ gj;obtain⟨v,gv,hF⟩:=bS hF;have wv:xans A 412 [V.isl (j.b.code.map enc),V.int .i64 j.b.at_,V.int .u64 j.b.hash] [V.isl [V.int .i64 (-1),V.int .i64 6,V.int .i64 0]]=some (V.int .i64 v.a,[V.isl (v.b.code.map enc),V.int .i64 v.b.at_,V.int .u64 v.b.hash]):=s412 j.b [(-1),6,0] gv;obtain⟨row',gs,hF⟩:=bS hF;obtain⟨s1,s2',s3,s4,s5⟩:=jV gs;have s5':List.take j.a.toNat (List.map enc lv[n.a.toNat])++[V.int .i64 v.a]++List.drop (j.a.toNat+1) (List.map enc lv[n.a.toNat])=List.map enc row':=s5;obtain⟨lv',gl,hF⟩:=bS hF;have st:=setI_eq gl;have hE:=wA hF; subst hE;rcases row_int f2 with⟨_,e0,_⟩|⟨key3,uid3,rfl,d1,d2⟩
    ·rw[e0]at q3; exact absurd q3 (by simp)
    simp only at d1;have k3:=g5 key3 ((f4 key3).2 (.inl ((d2 key3).2 rfl)));have k3E:=hbd key3 ((f4 key3).2 (.inl ((d2 key3).2 rfl)));have m3:∀ (a b:Nat×Option (List V)),((E.set 0 a).set 0 b)[3]? =_:=fun a b=>(qi (by omega)).trans ((qi (by omega)).trans g3);have m0:∀ (a b:Nat×Option (List V)),((E.set 0 a).set 0 b)[0]? =_:=fun a b=> qp (by simp; omega);have m0':∀ (a b d:Nat×Option (List V)),(((E.set 0 a).set 0 b).set 0 d)[0]? =_:=fun a b d=> qp (by simp; omega);have mk:∀ (a b d f:Nat×Option (List V)),((((E.set 0 a).set 0 b).set 0 d).set 0 f)[key3]? =_:=fun a b d f=>(qi (by omega)).trans ((qi (by omega)).trans ((qi (by omega)).trans ((qi (by omega)).trans d1)));have h2:∀ (a b d f z:Nat×Option (List V)),(((((E.set 0 a).set 0 b).set 0 d).set 0 f).set key3 z)[2]? =_:=fun a b d f z=>(qi (by omega)).trans ((qi (by omega)).trans ((qi (by omega)).trans ((qi (by omega)).trans ((qi (by omega)).trans g2))));have h2k:∀ (a b d f z y:Nat×Option (List V)),((((((E.set 0 a).set 0 b).set 0 d).set 0 f).set key3 z).set 2 y)[2]? =some y:=fun a b d f z y=> qp (by simp; omega);have h1:∀ (a b d f z y:Nat×Option (List V)),((((((E.set 0 a).set 0 b).set 0 d).set 0 f).set key3 z).set 2 y)[1]? =_:=fun a b d f z y=>(qi (by omega)).trans ((qi (by omega)).trans ((qi (by omega)).trans ((qi (by omega)).trans ((qi (by omega)).trans ((qi (by omega)).trans g1)))));have h1k:∀ (a b d f z y t:Nat×Option (List V)),(((((((E.set 0 a).set 0 b).set 0 d).set 0 f).set key3 z).set 2 y).set 1 t)[1]? =some t:=fun a b d f z y t=> qp (by simp; omega);have h0:∀ (a b d f z y t:Nat×Option (List V)),(((((((E.set 0 a).set 0 b).set 0 d).set 0 f).set key3 z).set 2 y).set 1 t)[0]? =some f:=fun a b d f z y t=>(qi (by omega)).trans ((qi (by omega)).trans ((qi (by omega)).trans (qp (by simp; omega))));have fz:∀ (a b d f y t r:Nat×Option (List V)) c2,frz ⟨(((((((E.set 0 a).set 0 b).set 0 d).set 0 f).set key3 (uid3,some (List.map enc row'))).set 2 y).set 1 t).set 0 r,c2⟩ 15 (V.sl 3 u 0 lv.length 1)=some (V.isl (List.map enc lv')):=fun a b d f y t r c2=> by
     have hl':lv.length=lv'.length:=by rw[st]; simp
     have sl:row'.length=lv[n.a.toNat].length:=s4;have ek:∀k,3≤k→k≠key3→((((((((E.set 0 a).set 0 b).set 0 d).set 0 f).set key3 (uid3,some (List.map enc row'))).set 2 y).set 1 t).set 0 r)[k]? =E[k]?:=fun k p q=>(qi (by omega)).trans ((qi (by omega)).trans ((qi (by omega)).trans ((qi q).trans ((qi (by omega)).trans ((qi (by omega)).trans ((qi (by omega)).trans (qi (by omega))))))));have e3:((((((((E.set 0 a).set 0 b).set 0 d).set 0 f).set key3 (uid3,some (List.map enc row'))).set 2 y).set 1 t).set 0 r)[key3]? =_:=(qi (by omega)).trans ((qi (by omega)).trans ((qi (by omega)).trans (qp (by simp; omega))));have f1':vs.set n.a.toNat (V.sl key3 uid3 0 row'.length 1)=vs:=by rw[sl]; exact set_self f1
     rw[hl'];refine Deep.fz (α:=List (List Int)) (rep_at (vs:=vs) (K:=fun k=> k=key3∨K2 k) ((ek 3 (by omega) (by omega)).trans g3) ?_ fun q=>?_) 9
     ·rw[st,←f1']
      refine f5 _ _ row' (fun k=> k=key3) _ (jq e3 fun k=> yE) (fun k q=>?_) (fun k p q=>?_) (fun k=> yE)
      ·have h4:=g5 k ((f4 k).2 (.inr q))
       exact ek k (by omega) fun p=> f3 k ((d2 k).2 p) q
      ·exact f3 k ((d2 k).2 p) q
     ·rcases q with q|q
      ·omega
      ·have:=g5 3 ((f4 3).2 (.inr q)); omega
    simp only[simprocAttr, -Int.reduceNatCast',R0,hl_1,h0_1,h2_1,h3_1,h4_1,qj,gr0,g0,wn,wk,eq_false c0,eq_true c1,n3,m3,qF,ra,rc,o1,hlr,eq_true q3,eq_true ra,eq_true rc,eq_true hn,wj,wv,m0,m0',mk,s1,s2',s3,s5',h2,h2k,h1];exact qY (by simp only[simprocAttr, -Int.reduceNatCast',R0,qg,p450,Rs.ev,hl_1,h0_1,h2_1,h3_1,h4_1,h1k,h0,fz])
   ·rw[if_neg q3]at hF
    have hE:=wA hF; subst hE;simp only[simprocAttr, -Int.reduceNatCast',R0,hl_1,h0_1,h2_1,h3_1,h4_1,qj,gr0,g0,wn,wk,eq_false c0,eq_true c1,n3,qF,ra,rc,o1,hlr,eq_false q3,eq_true ra,eq_true rc,eq_true hn,n2,t2k,t1];exact qY (by simp only[simprocAttr, -Int.reduceNatCast',R0,qg,p450,Rs.ev,hl_1,h0_1,h2_1,h3_1,h4_1,t1k,t0,tz])
  rw[if_neg c1]at hF;by_cases c2:k.a=2
  ·rw[if_pos c2]at hF
   by_cases q1:1≤lv.length
   ·rw[if_pos q1]at hF
    have hE:=wA hF; subst hE;have sl:jU 1 (V.sl 3 u 0 lv.length 1) (some (V.int .i64 1)) none=some (V.sl 3 u 1 (lv.length - 1) 1):=slice_lo (d:=1) (by decide) (by omega);have fz:∀ (a b y t r:Nat×Option (List V)) c2,frz ⟨((((E.set 0 a).set 0 b).set 2 y).set 1 t).set 0 r,c2⟩ 15 (V.sl 3 u 1 (lv.length - 1) 1)=some (V.isl (List.map enc (lv.drop 1))):=fun a b y t r c2=> d1fz ((qi (by omega)).trans ((qi (by omega)).trans ((qi (by omega)).trans ((qi (by omega)).trans ((qi (by omega)).trans g3))))) (g4.frame fun k q=> by have:=g5 k q; exact(qi (by omega)).trans ((qi (by omega)).trans ((qi (by omega)).trans ((qi (by omega)).trans (qi (by omega)))))) q1 9;simp only[simprocAttr, -Int.reduceNatCast',R0,hl_1,h0_1,h2_1,h3_1,h4_1,qj,gr0,g0,wn,wk,eq_false c0,eq_false c1,eq_true c2,n3,qF,sl,n2,t2k,t1];exact qY (by simp only[simprocAttr, -Int.reduceNatCast',R0,qg,p450,Rs.ev,hl_1,h0_1,h2_1,h3_1,h4_1,t1k,t0,fz])
   ·rw[if_neg q1]at hF; cases hF
  rw[if_neg c2]at hF;by_cases c3:k.a=3
  ·rw[if_pos c3]at hF
   obtain⟨y,gy,hF⟩:=bS hF;have wy:xans A 421 [V.isl (k.b.code.map enc),V.int .i64 k.b.at_,V.int .u64 k.b.hash] [(eC x.a.Complex)]=some ((eC y.a),[V.isl (y.b.code.map enc),V.int .i64 y.b.at_,V.int .u64 y.b.hash]):=s421 k.b x.a.Complex gy;have hE:=wA hF; subst hE;have m0:∀ (a b:Nat×Option (List V)),((E.set 0 a).set 0 b)[0]? =_:=fun a b=> qp (by simp; omega);have h2:∀ (a b d:Nat×Option (List V)),(((E.set 0 a).set 0 b).set 0 d)[2]? =_:=fun a b d=>(qi (by omega)).trans ((qi (by omega)).trans ((qi (by omega)).trans g2));have h2k:∀ (a b d z:Nat×Option (List V)),((((E.set 0 a).set 0 b).set 0 d).set 2 z)[2]? =some z:=fun a b d z=> qp (by simp; omega);have h2m:∀ (a b d z z':Nat×Option (List V)),(((((E.set 0 a).set 0 b).set 0 d).set 2 z).set 2 z')[2]? =some z':=fun a b d z z'=> qp (by simp; omega);have h1:∀ (a b d z z':Nat×Option (List V)),(((((E.set 0 a).set 0 b).set 0 d).set 2 z).set 2 z')[1]? =_:=fun a b d z z'=>(qi (by omega)).trans ((qi (by omega)).trans ((qi (by omega)).trans ((qi (by omega)).trans ((qi (by omega)).trans g1))));have h1k:∀ (a b d z z' t:Nat×Option (List V)),((((((E.set 0 a).set 0 b).set 0 d).set 2 z).set 2 z').set 1 t)[1]? =some t:=fun a b d z z' t=> qp (by simp; omega);have h0:∀ (a b d z z' t:Nat×Option (List V)),((((((E.set 0 a).set 0 b).set 0 d).set 2 z).set 2 z').set 1 t)[0]? =some d:=fun a b d z z' t=>(qi (by omega)).trans ((qi (by omega)).trans ((qi (by omega)).trans (qp (by simp; omega))));have fz:∀ (a b d z z' t r:Nat×Option (List V)) c2,frz ⟨((((((E.set 0 a).set 0 b).set 0 d).set 2 z).set 2 z').set 1 t).set 0 r,c2⟩ 15 (V.sl 3 u 0 lv.length 1)=_:=fun a b d z z' t r c2=> rep3 _ c2 ((qi (by omega)).trans ((qi (by omega)).trans ((qi (by omega)).trans ((qi (by omega)).trans ((qi (by omega)).trans ((qi (by omega)).trans ((qi (by omega)).trans g3))))))) (fun k q=> by have:=g5 k q; exact(qi (by omega)).trans ((qi (by omega)).trans ((qi (by omega)).trans ((qi (by omega)).trans ((qi (by omega)).trans ((qi (by omega)).trans (qi (by omega)))))))) 9;simp only[simprocAttr, -Int.reduceNatCast',R0,hl_1,h0_1,h2_1,h3_1,h4_1,qj,gr0,g0,wn,wk,eq_false c0,eq_false c1,eq_false c2,eq_true c3,n2,wy,m0,h2,h2k,h2m,h1];exact qY (by simp only[simprocAttr, -Int.reduceNatCast',R0,qg,p450,Rs.ev,hl_1,h0_1,h2_1,h3_1,h4_1,h1k,h0,fz])
  rw[if_neg c3]at hF;have hE:=wA hF; subst hE;simp only[simprocAttr, -Int.reduceNatCast',R0,hl_1,h0_1,h2_1,h3_1,h4_1,qj,gr0,g0,wn,wk,eq_false c0,eq_false c1,eq_false c2,eq_false c3,n2,t2k,t1];exact qY (by simp only[simprocAttr, -Int.reduceNatCast',R0,qg,p450,Rs.ev,hl_1,h0_1,h2_1,h3_1,h4_1,t1k,t0,tz])
 show W A (.block 0 (.loop true b450_1)) _ _ _;rw[qr];refine qD glv _ rfl (fun i l e h=> h.ents[0]? =some (0,some [V.isl (x.b.code.map enc),V.int .i64 x.b.at_,V.int .u64 x.b.hash])∧h.ents[1]? =some (1,some [V.int .i64 0,V.nils,V.nils,V.nils])∧h.ents[2]? =some (2,some [V.int .i64 x.a.Complex.Prime,V.isl (x.a.Complex.Dims.map enc),V.isl (x.a.Complex.Maps.map enc),V.isl (x.a.Levels.map enc)])∧(∃u vs K,h.ents[3]? =some (u,some vs)∧reps h vs l K∧(∀k,K k→4≤k)∧e.at 4=V.sl 3 u 0 l.length 1)∧e.length=76∧e.at 0=V.ptr 0 0 0∧e.at 2=V.ptr 1 1 0∧e.at 3=V.ptr 2 2 0∧e.at 5=V.int .i64 i) ?_ ?_ ?_
 ·refine⟨rfl,rfl,rfl,⟨3,[],fun _=> False,rfl,fun _ x=> x,fun _ x=> x.elim,?_⟩,?_⟩
  all_goals simp only[simprocAttr, -Int.reduceNatCast',R0,hl_0,h0_0]
 ·rintro i l e ⟨E,c⟩ ⟨g0,g1,g2,⟨u,vs,K,g3,g4,g5,h4_1⟩,hl_1,h0_1,h2_1,h3_1,h5_1⟩ hlt hw o ho
  simp only at g0 g1 g2 g3;unfold F450_1_B at ho;obtain⟨x5,gx5,ho⟩:=bS ho;obtain⟨w6a,w6b⟩:=qk gx5;obtain⟨x7,gx7,ho⟩:=bS ho;have w8:=t94 x5 gx7;obtain⟨l10,gl10,ho⟩:=bS ho;obtain⟨q1,q2,rfl⟩:=app_w gl10;have hE:=wA ho; subst hE;have hln:=g4.len;have hE3:3 < E.length:=(List.getElem?_eq_some_iff.1 g3).1;have w9:∀x y c',qS 1 24 (.sl 3 u 0 l.length 1) 1 [V.sl E.length c 0 x7.length 1] ⟨E++[x]++[y],c'⟩=_:=fun x y c'=> zq (E:=E++[x]++[y]) (vs:=vs) (by rw[List.getElem?_append_left (by simp; omega),List.getElem?_append_left hE3]; exact g3) hln (by simpa using q1) (by simpa using q2);simp only[simprocAttr, -Int.reduceNatCast',R0,b450_1,hl_1,h0_1,h2_1,h3_1,h4_1,h5_1,g2,eq_true hlt,hw,w6a,w6b,w8,qE,zb,qF,w9];have r1:=deep_round (h:=⟨E,c⟩) (h1:=⟨E++[(c,some (x7.map enc))],c+1⟩) (h2:=⟨(E++[(c,some (x7.map enc))]++[(c+1,some [V.sl E.length c 0 x7.length 1])]).set 3 (c+1+1,some (vs++[V.sl E.length c 0 x7.length 1])),c+1+1+1⟩) g4
   (jq (l:=x7) (K:=fun k=> k=E.length) (qF _ _) fun k=> yE) (fun k q=> by show E.length≤k; omega) (fun k q=> List.getElem?_append_left q) (fun k p q=> zt (fun e=> by subst e; exact q.elim (fun q=> by have:=g5 3 q; omega) (fun q=> by omega)) p) (by simp)
  refine ai rfl ⟨(qi (by omega)).trans (by rw[wR,List.getElem?_append_left (by omega)]; exact g0),(qi (by omega)).trans (by rw[wR,List.getElem?_append_left (by omega)]; exact g1),(qi (by omega)).trans (by rw[wR,List.getElem?_append_left (by omega)]; exact g2),⟨_,_,_,qp (by simp; omega),r1,fun k q=> q.elim (fun q=> g5 k q) (fun q=> by omega),?_⟩,?_⟩
  all_goals simp only[simprocAttr, -Int.reduceNatCast',R0,hl_1,h0_1,h2_1,h3_1,h4_1,h5_1,eq_true hlt,hw,w6a,w6b,w8,wP,vK,vD]
 ·rintro i l e ⟨E,c⟩ ⟨g0,g1,g2,⟨u,vs,K,g3,g4,g5,h4_1⟩,hl_1,h0_1,h2_1,h3_1,h5_1⟩ hge t1 ho
  simp only at g0 g1 g2 g3;unfold F450_1_D at ho;have hE:=wA ho; subst hE;simp only[simprocAttr, -Int.reduceNatCast',R0,b450_1,hl_1,h0_1,h2_1,h3_1,h4_1,h5_1,g2,eq_false hge];intro ht; subst ht;exact⟨g0,g1,u,vs,K,g3,g4,g5,rfl⟩
def F447(a0:List U8):Option (T4 qd Int Int Int):=
 (F405 a0).bind fun x1=>
 (F450 x1).bind fun x3=>
 (F411 x3.b 8).bind fun x5=>
 (F412 x5.b [0,1,1,2,2,3,x5.a]).bind fun x7=>
 (F416 x7.b 24).bind fun x9=>
 (quoI x9.a 23).bind fun x11=>
 (chk ((x3.a.Levels.length:Int)+x11)).bind fun x13=>
 (F416 x9.b x13).bind fun x14=>
 (F416 x14.b 24).bind fun x16=>
 (quoI x16.a 23).bind fun x18=>
 (chk (6+x18)).bind fun x20=>
 (F416 x16.b x20).bind fun x21=>
 some ⟨x3.a,x7.a,x14.a,x21.a⟩
theorem s447(a0:List U8){r:T4 qd Int Int Int}(hF:F447 a0=some r):ans A 447 [V.isl (a0.map enc)]=some (EncR.enc r):=by
 refine qw (f:=p447) rfl rfl rfl fun e hl he=>?_;have h0_0:e.at 0=V.isl (a0.map enc):=he 0 _ rfl;have hl_0:e.length=33:=hl;clear he hl;show W A b447 e ⟨[],0⟩ _;unfold F447 at hF;obtain⟨x1,gx1,hF⟩:=bS hF;have w2:res A 405 [V.isl (a0.map enc)] ⟨[(0,some [V.int .i64 0,V.nils,V.nils,V.nils])],1⟩=some (V.ptr 1 1 0,⟨[(0,some [V.int .i64 0,V.nils,V.nils,V.nils]),(1,some [V.isl (x1.code.map enc),V.int .i64 x1.at_,V.int .u64 x1.hash])],2⟩):=by
  obtain⟨_,w,rfl⟩:=d405 a0 gx1 [(0,some [V.int .i64 0,V.nils,V.nils,V.nils])] 1;exact w
 obtain⟨x3,gx3,hF⟩:=bS hF;have w4:xans A 450 [V.isl (x1.code.map enc),V.int .i64 x1.at_,V.int .u64 x1.hash] []=some (V.agg [V.int .i64 x3.a.Complex.Prime,V.isl (x3.a.Complex.Dims.map enc),V.isl (x3.a.Complex.Maps.map enc),V.isl (x3.a.Levels.map enc)],[V.isl (x3.b.code.map enc),V.int .i64 x3.b.at_,V.int .u64 x3.b.hash]):=s450 x1 gx3;obtain⟨x5,gx5,hF⟩:=bS hF;have w6:xans A 411 [V.isl (x3.b.code.map enc),V.int .i64 x3.b.at_,V.int .u64 x3.b.hash] [V.int .i64 8]=some (V.int .i64 x5.a,[V.isl (x5.b.code.map enc),V.int .i64 x5.b.at_,V.int .u64 x5.b.hash]):=s411 x3.b 8 gx5;obtain⟨x7,gx7,hF⟩:=bS hF;have w8:xans A 412 [V.isl (x5.b.code.map enc),V.int .i64 x5.b.at_,V.int .u64 x5.b.hash] [V.isl [V.int .i64 0,V.int .i64 1,V.int .i64 1,V.int .i64 2,V.int .i64 2,V.int .i64 3,V.int .i64 x5.a]]=some (V.int .i64 x7.a,[V.isl (x7.b.code.map enc),V.int .i64 x7.b.at_,V.int .u64 x7.b.hash]):=s412 x5.b [0,1,1,2,2,3,x5.a] gx7;obtain⟨x9,gx9,hF⟩:=bS hF;have w10:xans A 416 [V.isl (x7.b.code.map enc),V.int .i64 x7.b.at_,V.int .u64 x7.b.hash] [V.int .i64 24]=some (V.int .i64 x9.a,[V.isl (x9.b.code.map enc),V.int .i64 x9.b.at_,V.int .u64 x9.b.hash]):=s416 x7.b 24 gx9;obtain⟨x11,gx11,hF⟩:=bS hF;obtain⟨w12a,w12b⟩:=quo_w gx11;obtain⟨x13,gx13,hF⟩:=bS hF;have wx13:=qz gx13;obtain⟨x14,gx14,hF⟩:=bS hF;have w15:xans A 416 [V.isl (x9.b.code.map enc),V.int .i64 x9.b.at_,V.int .u64 x9.b.hash] [V.int .i64 x13]=some (V.int .i64 x14.a,[V.isl (x14.b.code.map enc),V.int .i64 x14.b.at_,V.int .u64 x14.b.hash]):=s416 x9.b x13 gx14;obtain⟨x16,gx16,hF⟩:=bS hF;have w17:xans A 416 [V.isl (x14.b.code.map enc),V.int .i64 x14.b.at_,V.int .u64 x14.b.hash] [V.int .i64 24]=some (V.int .i64 x16.a,[V.isl (x16.b.code.map enc),V.int .i64 x16.b.at_,V.int .u64 x16.b.hash]):=s416 x14.b 24 gx16;obtain⟨x18,gx18,hF⟩:=bS hF;obtain⟨w19a,w19b⟩:=quo_w gx18;obtain⟨x20,gx20,hF⟩:=bS hF;have wx20:=qz gx20;obtain⟨x21,gx21,hF⟩:=bS hF;have w22:xans A 416 [V.isl (x16.b.code.map enc),V.int .i64 x16.b.at_,V.int .u64 x16.b.hash] [V.int .i64 x20]=some (V.int .i64 x21.a,[V.isl (x21.b.code.map enc),V.int .i64 x21.b.at_,V.int .u64 x21.b.hash]):=s416 x16.b x20 gx21;cases hF;simp only[simprocAttr,R0,b447,zk,qj,qj,qj,qj,qj,qj,qj, *];exact qf (by simp only[simprocAttr,R0,qg,p447,Rs.ev,qc,zk,qj,qj,qj,qj,qj,qj,qj, *])
def F426(a0:List U8):Option (T4 qd Int Int Int):=
 (F447 a0).bind fun x1=>
 some ⟨x1.a,x1.b,x1.c,x1.d⟩
theorem s426(a0:List U8){r:T4 qd Int Int Int}(hF:F426 a0=some r):ans A 426 [V.isl (a0.map enc)]=some (EncR.enc r):=by
 refine qw (f:=p426) rfl rfl rfl fun e hl he=>?_;have h0_0:e.at 0=V.isl (a0.map enc):=he 0 _ rfl;have hl_0:e.length=12:=hl;clear he hl;show W A b426 e ⟨[],0⟩ _;unfold F426 at hF;obtain⟨x1,gx1,hF⟩:=bS hF;have w2:ans A 447 [V.isl (a0.map enc)]=some (V.tup [V.agg [V.int .i64 x1.a.Complex.Prime,V.isl (x1.a.Complex.Dims.map enc),V.isl (x1.a.Complex.Maps.map enc),V.isl (x1.a.Levels.map enc)],V.int .i64 x1.b,V.int .i64 x1.c,V.int .i64 x1.d]):=s447 a0 gx1;cases hF;simp only[simprocAttr,R0,b426, *];exact qf (by simp only[simprocAttr,R0,qg,p426,Rs.ev,qc, *])
def F427(a0:List U8):Option (T4 qd Int Int Int):=
 (F447 a0).bind fun x1=>
 some ⟨x1.a,x1.b,x1.c,x1.d⟩
theorem s427(a0:List U8){r:T4 qd Int Int Int}(hF:F427 a0=some r):ans A 427 [V.isl (a0.map enc)]=some (EncR.enc r):=by
 refine qw (f:=p427) rfl rfl rfl fun e hl he=>?_;have h0_0:e.at 0=V.isl (a0.map enc):=he 0 _ rfl;have hl_0:e.length=12:=hl;clear he hl;show W A b427 e ⟨[],0⟩ _;unfold F427 at hF;obtain⟨x1,gx1,hF⟩:=bS hF;have w2:ans A 447 [V.isl (a0.map enc)]=some (V.tup [V.agg [V.int .i64 x1.a.Complex.Prime,V.isl (x1.a.Complex.Dims.map enc),V.isl (x1.a.Complex.Maps.map enc),V.isl (x1.a.Levels.map enc)],V.int .i64 x1.b,V.int .i64 x1.c,V.int .i64 x1.d]):=s447 a0 gx1;cases hF;simp only[simprocAttr,R0,b427, *];exact qf (by simp only[simprocAttr,R0,qg,p427,Rs.ev,qc, *])
def F428(a0:qd)(a1:Int)(a2:Int)(a3:Int):Option (T2 (List (List Int)) Int):=
 (F166 a0 a1 a2 a3).bind fun x1=>
 if x1=0 then
  (F184 a0 a1 a2 a3).bind fun x4=>
  some ⟨x4,0⟩
 else
  some ⟨([]:List (List Int)),x1⟩
theorem s428(a0:qd)(a1:Int)(a2:Int)(a3:Int){r:T2 (List (List Int)) Int}(hF:F428 a0 a1 a2 a3=some r):ans A 428 [(eF a0),V.int .i64 a1,V.int .i64 a2,V.int .i64 a3]=some (EncR.enc r):=by
 refine qw (f:=p428) rfl rfl rfl fun e hl he=>?_;have h0_0:e.at 0=(eF a0):=he 0 _ rfl;have h1_0:e.at 1=V.int .i64 a1:=he 1 _ rfl;have h2_0:e.at 2=V.int .i64 a2:=he 2 _ rfl;have h3_0:e.at 3=V.int .i64 a3:=he 3 _ rfl;have hl_0:e.length=24:=hl;clear he hl;have h_0:=ai hl_0 (ai h0_0 (ai h1_0 (ai h2_0 h3_0)));show W A b428 e ⟨[],0⟩ _;unfold F428 at hF;obtain⟨x1,gx1,hF⟩:=bS hF;have w2:=s166 a0 a1 a2 a3 gx1;by_cases c3:x1=0
 ·rw[if_pos c3]at hF
  obtain⟨x4,gx4,hF⟩:=bS hF;have w5:=s184 a0 a1 a2 a3 gx4;cases hF;simp only[simprocAttr,R0,b428, *];exact qf (by simp only[simprocAttr,R0,qg,p428,Rs.ev,qc, *])
 ·rw[if_neg c3]at hF
  cases hF;simp only[simprocAttr,R0,b428, *];exact qf (by simp only[simprocAttr,R0,qg,p428,Rs.ev,qc, *])
def F429(a0:qd)(a1:Int)(a2:Int)(a3:Int):Option (T2 (List (List Int)) Int):=
 (F247 a0 a1 a2 a3).bind fun x1=>
 if x1=0 then
  (F280 a0 a1 a2 a3).bind fun x4=>
  some ⟨x4,0⟩
 else
  some ⟨([]:List (List Int)),x1⟩
theorem s429(a0:qd)(a1:Int)(a2:Int)(a3:Int){r:T2 (List (List Int)) Int}(hF:F429 a0 a1 a2 a3=some r):ans A 429 [(eF a0),V.int .i64 a1,V.int .i64 a2,V.int .i64 a3]=some (EncR.enc r):=by
 refine qw (f:=p429) rfl rfl rfl fun e hl he=>?_;have h0_0:e.at 0=(eF a0):=he 0 _ rfl;have h1_0:e.at 1=V.int .i64 a1:=he 1 _ rfl;have h2_0:e.at 2=V.int .i64 a2:=he 2 _ rfl;have h3_0:e.at 3=V.int .i64 a3:=he 3 _ rfl;have hl_0:e.length=24:=hl;clear he hl;have h_0:=ai hl_0 (ai h0_0 (ai h1_0 (ai h2_0 h3_0)));show W A b429 e ⟨[],0⟩ _;unfold F429 at hF;obtain⟨x1,gx1,hF⟩:=bS hF;have w2:=s247 a0 a1 a2 a3 gx1;by_cases c3:x1=0
 ·rw[if_pos c3]at hF
  obtain⟨x4,gx4,hF⟩:=bS hF;have w5:=s280 a0 a1 a2 a3 gx4;cases hF;simp only[simprocAttr,R0,b429, *];exact qf (by simp only[simprocAttr,R0,qg,p429,Rs.ev,qc, *])
 ·rw[if_neg c3]at hF
  cases hF;simp only[simprocAttr,R0,b429, *];exact qf (by simp only[simprocAttr,R0,qg,p429,Rs.ev,qc, *])
def F430(a0:qd)(a1:Int)(a2:Int)(a3:Int):Option (T2 (List (List Int)) Int):=
 (F166 a0 a1 a2 a3).bind fun x1=>
 if x1=0 then
  (F185 a0 a1 a2 a3).bind fun x4=>
  some ⟨x4,0⟩
 else
  some ⟨([]:List (List Int)),x1⟩
theorem s430(a0:qd)(a1:Int)(a2:Int)(a3:Int){r:T2 (List (List Int)) Int}(hF:F430 a0 a1 a2 a3=some r):ans A 430 [(eF a0),V.int .i64 a1,V.int .i64 a2,V.int .i64 a3]=some (EncR.enc r):=by
 refine qw (f:=p430) rfl rfl rfl fun e hl he=>?_;have h0_0:e.at 0=(eF a0):=he 0 _ rfl;have h1_0:e.at 1=V.int .i64 a1:=he 1 _ rfl;have h2_0:e.at 2=V.int .i64 a2:=he 2 _ rfl;have h3_0:e.at 3=V.int .i64 a3:=he 3 _ rfl;have hl_0:e.length=24:=hl;clear he hl;have h_0:=ai hl_0 (ai h0_0 (ai h1_0 (ai h2_0 h3_0)));show W A b430 e ⟨[],0⟩ _;unfold F430 at hF;obtain⟨x1,gx1,hF⟩:=bS hF;have w2:=s166 a0 a1 a2 a3 gx1;by_cases c3:x1=0
 ·rw[if_pos c3]at hF
  obtain⟨x4,gx4,hF⟩:=bS hF;have w5:=s185 a0 a1 a2 a3 gx4;cases hF;simp only[simprocAttr,R0,b430, *];exact qf (by simp only[simprocAttr,R0,qg,p430,Rs.ev,qc, *])
 ·rw[if_neg c3]at hF
  cases hF;simp only[simprocAttr,R0,b430, *];exact qf (by simp only[simprocAttr,R0,qg,p430,Rs.ev,qc, *])
def F431(a0:qd)(a1:Int)(a2:Int)(a3:Int):Option (T2 (List (List Int)) Int):=
 (F247 a0 a1 a2 a3).bind fun x1=>
 if x1=0 then
  (F279 a0 a1 a2 a3).bind fun x4=>
  some ⟨x4,0⟩
 else
  some ⟨([]:List (List Int)),x1⟩
theorem s431(a0:qd)(a1:Int)(a2:Int)(a3:Int){r:T2 (List (List Int)) Int}(hF:F431 a0 a1 a2 a3=some r):ans A 431 [(eF a0),V.int .i64 a1,V.int .i64 a2,V.int .i64 a3]=some (EncR.enc r):=by
 refine qw (f:=p431) rfl rfl rfl fun e hl he=>?_;have h0_0:e.at 0=(eF a0):=he 0 _ rfl;have h1_0:e.at 1=V.int .i64 a1:=he 1 _ rfl;have h2_0:e.at 2=V.int .i64 a2:=he 2 _ rfl;have h3_0:e.at 3=V.int .i64 a3:=he 3 _ rfl;have hl_0:e.length=24:=hl;clear he hl;have h_0:=ai hl_0 (ai h0_0 (ai h1_0 (ai h2_0 h3_0)));show W A b431 e ⟨[],0⟩ _;unfold F431 at hF;obtain⟨x1,gx1,hF⟩:=bS hF;have w2:=s247 a0 a1 a2 a3 gx1;by_cases c3:x1=0
 ·rw[if_pos c3]at hF
  obtain⟨x4,gx4,hF⟩:=bS hF;have w5:=s279 a0 a1 a2 a3 gx4;cases hF;simp only[simprocAttr,R0,b431, *];exact qf (by simp only[simprocAttr,R0,qg,p431,Rs.ev,qc, *])
 ·rw[if_neg c3]at hF
  cases hF;simp only[simprocAttr,R0,b431, *];exact qf (by simp only[simprocAttr,R0,qg,p431,Rs.ev,qc, *])
def F200_1_B(ls:List (List (List Int)))(i:Int)(s:Int):Option (Int⊕Int):=(getI ls i).bind fun l=>(chk (s+(l.length:Int))).bind fun n=> if n < 0 then none else some (.inl n)
def F200_1_D(i:Int)(s:Int):Option Int:=some s
def F200_2_B(ls:List (List (List Int)))(i:Int)(s:List (List Int)):Option (List (List Int)⊕List (List Int)):=(getI ls i).bind fun l=>(app 24 s l).bind fun r=> some (.inl r)
def F200_2_D(i:Int)(s:List (List Int)):Option (List (List Int)):=some s
def F200(ls:List (List (List Int))):Option (List (List Int)):=(forR 0 (ls.length:Int) (F200_1_B ls) F200_1_D 0).bind fun n=> if 0≤n∧n*24≤1099511627776 then forR 0 (ls.length:Int) (F200_2_B ls) F200_2_D []else none
def GR200(v:V)(l:List (List Int))(E:List (Nat×Option (List V))):Prop:=(v= .nils∧l=[])∨∃key uid cs,v= .sl key uid 0 l.length 1∧E[key]? =some (uid,some (List.map enc l++cs))
theorem ap200{l l' l2:List (List Int)}{v:V}{E:List (Nat×Option (List V))}{c:Nat}(g:app 24 l l'=some l2)(h:GR200 v l E):∃v' E' c',qS 1 24 v l'.length (List.map enc l') ⟨E,c⟩=some (v',⟨E',c'⟩)∧GR200 v' l2 E':=by
 obtain⟨q1,q2,rfl⟩:=app_w g;by_cases h0:l'.length=0
 ·have:l'=[]:=wU h0
  subst this;rw[vM];rcases h with⟨rfl,rfl⟩|⟨key,uid,cs,rfl,h1⟩
  ·exact⟨_,_,_,rfl,.inl ⟨rfl,rfl⟩⟩
  ·exact⟨_,_,_,rfl,.inr ⟨key,uid,cs,rfl,h1⟩⟩
 ·rcases h with⟨rfl,rfl⟩|⟨key,uid,cs,rfl,h1⟩
  ·refine⟨.sl E.length c 0 l'.length 1,E++[(c,some (List.map enc l'))],c+1,?_,.inr ⟨E.length,c,[],rfl,?_⟩⟩
   ·simp only[vD,wV]at q1 q2
    unfold qS;rw[if_neg h0];simp only;rw[if_pos ⟨q1,q2⟩]; rfl
   ·rw[qF,vG,vM]
  ·have hk:key < E.length:=(List.getElem?_eq_some_iff.1 h1).1
   refine⟨.sl key c 0 (l++l').length 1,E.set key (c,some (List.map enc (l++l'))),c+1,?_,.inr ⟨key,c,[],rfl,?_⟩⟩
   ·have hg:Heap.get ⟨E,c⟩ key uid=some (List.map enc l++cs):=by simp[Heap.get,h1]
    unfold qS;rw[if_neg h0];simp only[hg];rw[if_pos ⟨by simp,by trivial,q1,q2⟩];have e:List.take (l.length*1) (List.drop 0 (List.map enc l++cs))=List.map enc l:=by rw[vI,vU,List.take_append_of_le_length (by simp)]; exact wQ (by simp)
    rw[e,←yP,wP]; rfl
   ·rw[vM,List.getElem?_set_self hk]
theorem fz200{l:List (List Int)}{v:V}{E:List (Nat×Option (List V))}{c:Nat}(h:GR200 v l E):frz ⟨E,c⟩ FZ v=some (V.isl (l.map enc)):=by
 rcases h with⟨rfl,rfl⟩|⟨key,uid,cs,rfl,h1⟩
 ·rfl
 ·have hg:Heap.get ⟨E,c⟩ key uid=some (List.map enc l++cs):=by simp[Heap.get,h1]
  show frz ⟨E,c⟩ (15+1) _=_;have e:List.take (l.length*1) (List.drop 0 (List.map enc l++cs))=List.map enc l:=by rw[vI,vU,List.take_append_of_le_length (by simp)]; exact wQ (by simp)
  simp only[frz,hg];rw[if_pos ⟨by simp,by decide⟩,e,frzs (α:=List Int) l];simp[jl]
theorem g201{n:Int}(h0:0≤n)(h1:n*24≤1099511627776):∃v h',res A 201 [V.nils,V.int .i64 n] ⟨[],0⟩=some (v,h')∧GR200 v [] h'.ents:=by
 refine jW (f:=p201) rfl rfl rfl fun e hl he=>?_;have h0_0:e.at 0=V.nils:=he 0 _ rfl;have h1_0:e.at 1=V.int .i64 n:=he 1 _ rfl;have hl_0:e.length=27:=hl;clear he hl;show W A b201 e ⟨[],0⟩ _;have z0:((0:Nat):Int)=0:=rfl;have z1:(0:Int)≤(n.toNat:Int):=Int.natCast_nonneg _;have z24:((24:Nat):Int)=24:=rfl;have w0:Go.IntKind.wrap .i64 (0 - 0)=0:=by decide
 have w1:Go.IntKind.wrap .i64 (n - 0)=n:=by rw[Int.sub_zero]; exact wrap_i64 (by omega) (by omega)
 have c0:¬n < 0:=by omega
 by_cases c1:0 < n
 ·have c2:¬n.toNat=0:=by omega
  have c3:n.toNat*24≤1099511627776∧n.toNat≤1099511627776:=⟨by omega,by omega⟩;have c4:0≤n∧n≤1099511627776∧n*24≤1099511627776:=⟨h0,by omega,h1⟩;simp only[↓reduceIte,Nat.reduceAdd,Nat.reduceMul,Nat.reduceSub,Nat.reduceLT,Nat.reduceLeDiff,Nat.reduceEqDiff,Nat.reducePow,Int.reducePow,Int.reduceLE,Int.reduceLT,Int.reduceEq,Int.reduceToNat,reduceCtorEq,R0,b201,z0,z24,eq_true z1,eq_true h1,true_or,jU,jk,lenV,intV,qS,Option.map,X.ev,decide_true,decide_false, *];refine ai (fun _=> trivial) ⟨_,by simp only[↓reduceIte,Nat.reduceAdd,Nat.reduceMul,Nat.reduceSub,Nat.reduceLT,Nat.reduceLeDiff,Nat.reduceEqDiff,Nat.reducePow,Int.reducePow,Int.reduceLE,Int.reduceLT,Int.reduceEq,Int.reduceToNat,reduceCtorEq,R0,qg,p201,Rs.ev, *],.inr ⟨0,0,_,rfl,rfl⟩⟩
 ·have:n=0:=by omega
  subst this;simp only[↓reduceIte,Nat.reduceAdd,Nat.reduceMul,Nat.reduceSub,Nat.reduceLT,Nat.reduceLeDiff,Nat.reduceEqDiff,Nat.reducePow,Int.reducePow,Int.reduceLE,Int.reduceLT,Int.reduceEq,Int.reduceToNat,reduceCtorEq,R0,b201,z0,z24,eq_true z1,eq_true h1,true_or,jU,jk,lenV,intV,qS,Option.map,X.ev, *];refine ai (fun _=> trivial) ⟨_,by simp only[↓reduceIte,Nat.reduceAdd,Nat.reduceMul,Nat.reduceSub,Nat.reduceLT,Nat.reduceLeDiff,Nat.reduceEqDiff,Nat.reducePow,Int.reducePow,Int.reduceLE,Int.reduceLT,Int.reduceEq,Int.reduceToNat,reduceCtorEq,R0,qg,p201,Rs.ev, *],.inl ⟨rfl,rfl⟩⟩
set_option maxHeartbeats 8000000 in
theorem s200(ls:List (List (List Int))){r:List (List Int)}(hF:F200 ls=some r):ans A 200 [V.isl (ls.map enc)]=some (V.isl (r.map enc)):=by
 refine qw (f:=p200) rfl rfl rfl fun e hl he=>?_;have h0_0:e.at 0=V.isl (ls.map enc):=he 0 _ rfl;have hl_0:e.length=36:=hl;clear he hl;show W A b200 e ⟨[],0⟩ _;unfold F200 at hF;obtain⟨n,gn,hF⟩:=bS hF;by_cases c0:0≤n∧n*24≤1099511627776
 case neg=> rw[if_neg c0]at hF; cases hF
 rw[if_pos c0]at hF;obtain⟨v0,⟨E0,k0⟩,g1,g2⟩:=g201 c0.1 c0.2;simp only[simprocAttr,R0,b200, *];refine W.mono (Q:=fun x e h=> x= .normal∧h=⟨[],0⟩∧e.length=36∧e.at 0=V.isl (ls.map enc)∧e.at 3=V.int .i64 n) ?_ ?_
 ·show W A (.block 0 (.loop true b200_1)) _ _ _
  rw[qr];refine qD gn _ rfl (fun i s e h=> h=⟨[],0⟩∧e.length=36∧e.at 0=V.isl (ls.map enc)∧e.at 3=V.int .i64 s∧e.at 9=V.isl (ls.map enc)∧e.at 10=V.int .i64 (ls.length:Int)∧e.at 11=V.int .i64 i) ?_ ?_ ?_
  ·simp only[simprocAttr,R0, *]
  ·clear hl_0 h0_0
   rintro i s e h ⟨rfl,h_1⟩ hlt hw s' ho;unfold F200_1_B at ho;obtain⟨l,gl,ho⟩:=bS ho;obtain⟨la,lb⟩:=qk gl;obtain⟨m,gm,ho⟩:=bS ho;have wm:=qz gm;by_cases c1:m < 0
   ·rw[if_pos c1]at ho; cases ho
   rw[if_neg c1]at ho;cases ho;simp only[simprocAttr,R0,b200_1,la,lb, *];refine ai rfl (ai rfl ?_);simp only[simprocAttr,R0, *]
  ·clear hl_0 h0_0
   rintro i s e h ⟨rfl,h_1⟩ hge t1 ho;unfold F200_1_D at ho;cases ho;simp only[simprocAttr,R0,b200_1, *];intro ht; subst ht;simp only[simprocAttr,R0, *]
 clear hl_0 h0_0;rintro _ e _ ⟨rfl,rfl,hl_0,h0_0,h3_0⟩;simp only[simprocAttr,R0,zk, *];refine W.mono (Q:=fun x e h=> x= .normal∧e.length=36∧∃v,e.at 6=v∧GR200 v r h.ents) ?_ ?_
 ·show W A (.block 2 (.loop true b200_2)) _ _ _
  rw[qr];refine qD hF _ rfl (fun i s e h=>∃v,GR200 v s h.ents∧e.length=36∧e.at 6=v∧e.at 25=V.isl (ls.map enc)∧e.at 26=V.int .i64 (ls.length:Int)∧e.at 27=V.int .i64 i) ?_ ?_ ?_
  ·refine⟨v0,g2,?_⟩
   simp only[simprocAttr,R0, *]
  ·clear hl_0 h0_0 h3_0
   rintro i s e ⟨E,k⟩ ⟨v,g3,h_1⟩ hlt hw s' ho;unfold F200_2_B at ho;obtain⟨l,gl,ho⟩:=bS ho;obtain⟨la,lb⟩:=qk gl;obtain⟨l2,gl2,ho⟩:=bS ho;cases ho;obtain⟨v',E',k',a1,a2⟩:=ap200 (c:=k) gl2 g3;simp only[simprocAttr,R0,b200_2,la,lb,srcV_enc (α:=List Int),a1, *];refine ai rfl ⟨v',a2,?_⟩;simp only[simprocAttr,R0, *]
  ·clear hl_0 h0_0 h3_0
   rintro i s e ⟨E,k⟩ ⟨v,g3,h_1⟩ hge t1 ho;unfold F200_2_D at ho;cases ho;simp only[simprocAttr,R0,b200_2, *];intro ht; subst ht;exact⟨v,rfl,g3⟩
 clear hl_0 h0_0 h3_0;rintro _ e ⟨E,k⟩ ⟨rfl,hl_0,v,h6_0,g3⟩;simp only[simprocAttr,R0, *];have z:frz ⟨E,k⟩ 16 v=some (V.isl (r.map enc)):=fz200 (c:=k) g3;exact qf (by simp only[simprocAttr,R0,qg,p200,Rs.ev,z, *])
def F212_1_B(a0:List (List (List Int)))(f1:(List (List Int))→Option Bool)(v8_1:Int)(s:Unit):Option ((Unit)⊕((Unit)⊕Int)):=
 (getI a0 v8_1).bind fun x4=>
(f1 x4).bind fun x6=>
if x6=true then
 some (.inr (.inr v8_1))
else
 some (.inl ())
def F212_1_D(a0:List (List (List Int)))(f1:(List (List Int))→Option Bool)(v8_1:Int)(s:Unit):Option ((Unit)⊕Int):=
 some (.inl ())
def F212(a0:List (List (List Int)))(f1:(List (List Int))→Option Bool):Option Int:=
 (forR 0 (a0.length:Int) (F212_1_B a0 f1) (F212_1_D a0 f1) ()).bind fun t8=> match t8 with
  | .inl _=>
   some (-1)
  | .inr r9=> some r9
def I212_1(a0:List (List (List Int)))(f1:(List (List Int))→Option Bool)(vf1:V)(v8_1:Int)(s:Unit)(e:Env)(h:Heap):Prop:=
 ∃k2:Nat,h=⟨[],k2⟩∧e.length=19∧e.at 0=V.isl (a0.map enc)∧e.at 1=vf1∧e.at 7=V.int .i64 (a0.length:Int)∧e.at 8=V.int .i64 v8_1
def P212_1(a0:List (List (List Int)))(f1:(List (List Int))→Option Bool)(vf1:V)(t:(Unit)⊕Int)(x:Ex)(e:Env)(h:Heap):Prop:=
 match t with
 | .inl _=> x= .normal∧∃k2:Nat,h=⟨[],k2⟩∧e.length=19
 | .inr r=> x= .ret∧Fin p212 (enc r) .ret e h
theorem l212_1(a0:List (List (List Int)))(f1:(List (List Int))→Option Bool)(vf1:V)(hf1:Clo1 A vf1 f1){lo:Int}{s:Unit}{t:(Unit)⊕Int}(hF:forR lo (a0.length:Int) (F212_1_B a0 f1) (F212_1_D a0 f1) s=some t){e:Env}{h:Heap}(hI:I212_1 a0 f1 vf1 lo s e h):W A c212_1 e h (P212_1 a0 f1 vf1 t):=by
 obtain⟨g_f1,fs_f1,cs_f1,hv_f1,hc_f1⟩:=id hf1;show W A (.block 0 (.loop false b212_1)) e h _;rw[qr];refine qD hF 0 (by obtain⟨_,rfl,_⟩:=hI; rfl) (I212_1 a0 f1 vf1) hI ?_ ?_
 ·rintro v8_1 _ e h ⟨k2,rfl,h_1⟩ hlt hw o ho
  unfold F212_1_B at ho;obtain⟨x4,gx4,ho⟩:=bS ho;obtain⟨w5a,w5b⟩:=qk gx4;obtain⟨x6,gx6,ho⟩:=bS ho;have w7a:∀h,mapO (frz h 16) (fs_f1++[V.isl (x4.map enc)]++cs_f1)=some (fs_f1++[V.isl (x4.map enc)]++cs_f1):=fun h=> hc_f1.zf x4 h;have w7b:List.all (fs_f1++[V.isl (x4.map enc)]++cs_f1) (qu 16)=true:=hc_f1.zr x4;have w7c:ans A g_f1 (fs_f1++[V.isl (x4.map enc)]++cs_f1)=some (V.bool x6):=hc_f1.ka x4 _ gx6;cases x6 with
  |true=>
   rw[if_pos rfl]at ho;cases ho;simp only[simprocAttr,R0,b212_1, *];intro ht; subst ht;simp only[simprocAttr,RR,RB];exact ai rfl (qf (by simp only[simprocAttr,R0,qg,p212,Rs.ev,qc, *]))
  |false=>
   rw[if_neg wE]at ho;cases ho;simp only[simprocAttr,R0,b212_1, *];refine ai rfl (ei _ (ai rfl ?_));simp only[simprocAttr,R0, *]
 ·rintro v8_1 _ e h ⟨k2,rfl,h_1⟩ hge t1 ho
  unfold F212_1_D at ho;cases ho;simp only[simprocAttr,R0,b212_1, *];intro ht; subst ht;refine ai rfl (ei _ (ai rfl ?_));simp only[simprocAttr,R0, *]
theorem s212(a0:List (List (List Int)))(f1:(List (List Int))→Option Bool){vf1:V}(hf1:Clo1 A vf1 f1){r:Int}(hF:F212 a0 f1=some r):ans A 212 [V.isl (a0.map enc),vf1]=some (enc r):=by
 refine qw (f:=p212) rfl rfl rfl fun e hl he=>?_;have h0_0:e.at 0=V.isl (a0.map enc):=he 0 _ rfl;have h1_0:e.at 1=vf1:=he 1 _ rfl;obtain⟨g_f1,fs_f1,cs_f1,hv_f1,hc_f1⟩:=id hf1;have hl_0:e.length=19:=hl;clear he hl;have h_0:=ai hl_0 (ai h0_0 h1_0);show W A b212 e ⟨[],0⟩ _;unfold F212 at hF;obtain⟨t8,gt8,hF⟩:=bS hF;rcases t8 with _|r9
 ·dsimp only at hF
  simp only[simprocAttr,R0,b212, *];refine W.mono (l212_1 a0 f1 vf1 hf1 gt8 (ei _ (ai rfl ?_))) ?_
  ·simp only[simprocAttr,R0, *]
  rintro _ e _ ⟨rfl,k2,rfl,hl_3⟩;cases hF;simp only[simprocAttr,R0, *];exact qf (by simp only[simprocAttr,R0,qg,p212,Rs.ev,qc, *])
 ·dsimp only at hF
  cases hF;simp only[simprocAttr,R0,b212, *];refine W.mono (l212_1 a0 f1 vf1 hf1 gt8 (ei _ (ai rfl ?_))) ?_
  ·simp only[simprocAttr,R0, *]
  rintro _ e h ⟨rfl,hq⟩;simp only[simprocAttr,RR,RB];exact hq
def F208(a0:List (List (List Int)))(f1:(List (List Int))→Option Bool):Option Bool:=
 (F212 a0 f1).bind fun x1=>
 some (decide (0≤x1))
theorem s208(a0:List (List (List Int)))(f1:(List (List Int))→Option Bool){vf1:V}(hf1:Clo1 A vf1 f1){r:Bool}(hF:F208 a0 f1=some r):ans A 208 [V.isl (a0.map enc),vf1]=some (enc r):=by
 refine qw (f:=p208) rfl rfl rfl fun e hl he=>?_;have h0_0:e.at 0=V.isl (a0.map enc):=he 0 _ rfl;have h1_0:e.at 1=vf1:=he 1 _ rfl;obtain⟨g_f1,fs_f1,cs_f1,hv_f1,hc_f1⟩:=id hf1;have hl_0:e.length=9:=hl;clear he hl;show W A b208 e ⟨[],0⟩ _;unfold F208 at hF;obtain⟨x1,gx1,hF⟩:=bS hF;have w2:ans A 212 [V.isl (a0.map enc),vf1]=some (V.int .i64 x1):=s212 a0 f1 hf1 gx1;cases hF;simp only[simprocAttr,R0,b208,hl_0,h0_0,h1_0,hf1.fz,hf1.rl,w2];exact qf (by simp only[simprocAttr,R0,qg,p208,Rs.ev,qc,hl_0,h0_0,h1_0,hf1.fz,hf1.rl,w2])
def F451(a0:List (List Int))(d0:Int)(d1:Int):Option Bool:=
 if 40 < (a0.length:Int)then
  some true
 else
  (F90 d0 d1 a0).bind fun x2=>
  some (!x2)
theorem s451(a0:List (List Int))(d0:Int)(d1:Int){r:Bool}(hF:F451 a0 d0 d1=some r):ans A 451 [V.isl (a0.map enc),V.iptr [V.int .i64 d0],V.iptr [V.int .i64 d1]]=some (enc r):=by
 refine qw (f:=p451) rfl rfl rfl fun e hl he=>?_;have h0_0:e.at 0=V.isl (a0.map enc):=he 0 _ rfl;have h1_0:e.at 1=V.iptr [V.int .i64 d0]:=he 1 _ rfl;have h2_0:e.at 2=V.iptr [V.int .i64 d1]:=he 2 _ rfl;have hl_0:e.length=15:=hl;clear he hl;have h_0:=ai hl_0 (ai h0_0 (ai h1_0 h2_0));show W A b451 e ⟨[],0⟩ _;unfold F451 at hF;by_cases c1:40 < (a0.length:Int)
 ·rw[if_pos c1]at hF
  cases hF;simp only[simprocAttr,R0,b451, *];exact qf (by simp only[simprocAttr,R0,qg,p451,Rs.ev,qc, *])
 ·rw[if_neg c1]at hF
  obtain⟨x2,gx2,hF⟩:=bS hF;have w3:=s90 d0 d1 a0 gx2;cases hF;simp only[simprocAttr,R0,b451, *];exact qf (by simp only[simprocAttr,R0,qg,p451,Rs.ev,qc, *])
def F448(a0:Int)(a1:Int)(a2:List (List (List Int))):Option Int:=
 (F67 a0).bind fun x1=>
 if x1=true then
  (F56 a1 0 40).bind fun x3=>
  if x3=true then
   (F208 a2 (fun x=> F451 x a0 a1)).bind fun x5=>
   if x5=true then
    some 2
   else
    some 0
  else
   some 2
 else
  some 2
theorem s448(a0:Int)(a1:Int)(a2:List (List (List Int))){r:Int}(hF:F448 a0 a1 a2=some r):ans A 448 [V.int .i64 a0,V.int .i64 a1,V.isl (a2.map enc)]=some (enc r):=by
 refine qw (f:=p448) rfl rfl rfl fun e hl he=>?_;have h0_0:e.at 0=V.int .i64 a0:=he 0 _ rfl;have h1_0:e.at 1=V.int .i64 a1:=he 1 _ rfl;have h2_0:e.at 2=V.isl (a2.map enc):=he 2 _ rfl;have hl_0:e.length=20:=hl;clear he hl;have h_0:=ai hl_0 (ai h0_0 (ai h1_0 h2_0));show W A b448 e ⟨[],0⟩ _;unfold F448 at hF;obtain⟨x1,gx1,hF⟩:=bS hF;have w2:ans A 67 [V.int .i64 a0]=some (V.bool x1):=s67 a0 gx1;cases x1 with
 |true=>
  rw[if_pos rfl]at hF;obtain⟨x3,gx3,hF⟩:=bS hF;have w4:ans A 56 [V.int .i64 a1,V.int .i64 0,V.int .i64 40]=some (V.bool x3):=s56 a1 0 40 gx3;cases x3 with
  |true=>
   rw[if_pos rfl]at hF;obtain⟨x5,gx5,hF⟩:=bS hF;have w6:ans A 208 [V.isl (a2.map enc),V.fn 451 [] [V.iptr [V.int .i64 a0],V.iptr [V.int .i64 a1]]]=some (V.bool x5):=s208 a2 (fun x=> F451 x a0 a1) (Clo1.of (by intro h f; simp only[RZ,mapO]) (by intro h f; simp only[RZ,mapO]) (by intro f; simp only[RZ,RB]) (by intro f; simp only[RZ,RB]) (fun x _ hr=> s451 x a0 a1 hr)) gx5;cases x5 with
   |true=>
    rw[if_pos rfl]at hF;cases hF;simp only[simprocAttr,R0,b448, *];exact qf (by simp only[simprocAttr,R0,qg,p448,Rs.ev,qc, *])
   |false=>
    rw[if_neg wE]at hF;cases hF;simp only[simprocAttr,R0,b448, *];exact qf (by simp only[simprocAttr,R0,qg,p448,Rs.ev,qc, *])
  |false=>
   rw[if_neg wE]at hF;cases hF;simp only[simprocAttr,R0,b448, *];exact qf (by simp only[simprocAttr,R0,qg,p448,Rs.ev,qc, *])
 |false=>
  rw[if_neg wE]at hF;cases hF;simp only[simprocAttr,R0,b448, *];exact qf (by simp only[simprocAttr,R0,qg,p448,Rs.ev,qc, *])
def F432(a0:Int)(a1:Int)(a2:List (List Int))(a3:List (List Int)):Option (T2 (List (List Int)) Int):=
 (F448 a0 a1 [a2,a3]).bind fun x1=>
 if x1=0 then
  (F200 [a2,a3]).bind fun x4=>
  (F133 a0 x4).bind fun x6=>
  some ⟨x6,0⟩
 else
  some ⟨([]:List (List Int)),x1⟩
theorem s432(a0:Int)(a1:Int)(a2:List (List Int))(a3:List (List Int)){r:T2 (List (List Int)) Int}(hF:F432 a0 a1 a2 a3=some r):ans A 432 [V.int .i64 a0,V.int .i64 a1,V.isl (a2.map enc),V.isl (a3.map enc)]=some (EncR.enc r):=by
 refine qw (f:=p432) rfl rfl rfl fun e hl he=>?_;have h0_0:e.at 0=V.int .i64 a0:=he 0 _ rfl;have h1_0:e.at 1=V.int .i64 a1:=he 1 _ rfl;have h2_0:e.at 2=V.isl (a2.map enc):=he 2 _ rfl;have h3_0:e.at 3=V.isl (a3.map enc):=he 3 _ rfl;have hl_0:e.length=26:=hl;clear he hl;have h_0:=ai hl_0 (ai h0_0 (ai h1_0 (ai h2_0 h3_0)));show W A b432 e ⟨[],0⟩ _;unfold F432 at hF;obtain⟨x1,gx1,hF⟩:=bS hF;have w2:ans A 448 [V.int .i64 a0,V.int .i64 a1,V.isl [V.isl (a2.map enc),V.isl (a3.map enc)]]=some (V.int .i64 x1):=s448 a0 a1 [a2,a3] gx1;by_cases c3:x1=0
 ·rw[if_pos c3]at hF
  obtain⟨x4,gx4,hF⟩:=bS hF;have w5:ans A 200 [V.isl [V.isl (a2.map enc),V.isl (a3.map enc)]]=some (V.isl (x4.map enc)):=s200 [a2,a3] gx4;obtain⟨x6,gx6,hF⟩:=bS hF;have w7:ans A 133 [V.int .i64 a0,V.isl (x4.map enc)]=some (V.isl (x6.map enc)):=s133 a0 x4 gx6;cases hF;simp only[simprocAttr,R0,b432, *];exact qf (by simp only[simprocAttr,R0,qg,p432,Rs.ev,qc, *])
 ·rw[if_neg c3]at hF
  cases hF;simp only[simprocAttr,R0,b432, *];exact qf (by simp only[simprocAttr,R0,qg,p432,Rs.ev,qc, *])
def F433(a0:Int)(a1:Int)(a2:List (List Int)):Option (T2 (List (List Int)) Int):=
 (F448 a0 a1 [a2]).bind fun x1=>
 if x1=0 then
  (F133 a0 a2).bind fun x4=>
  some ⟨x4,0⟩
 else
  some ⟨([]:List (List Int)),x1⟩
theorem s433(a0:Int)(a1:Int)(a2:List (List Int)){r:T2 (List (List Int)) Int}(hF:F433 a0 a1 a2=some r):ans A 433 [V.int .i64 a0,V.int .i64 a1,V.isl (a2.map enc)]=some (EncR.enc r):=by
 refine qw (f:=p433) rfl rfl rfl fun e hl he=>?_;have h0_0:e.at 0=V.int .i64 a0:=he 0 _ rfl;have h1_0:e.at 1=V.int .i64 a1:=he 1 _ rfl;have h2_0:e.at 2=V.isl (a2.map enc):=he 2 _ rfl;have hl_0:e.length=20:=hl;clear he hl;have h_0:=ai hl_0 (ai h0_0 (ai h1_0 h2_0));show W A b433 e ⟨[],0⟩ _;unfold F433 at hF;obtain⟨x1,gx1,hF⟩:=bS hF;have w2:ans A 448 [V.int .i64 a0,V.int .i64 a1,V.isl [V.isl (a2.map enc)]]=some (V.int .i64 x1):=s448 a0 a1 [a2] gx1;by_cases c3:x1=0
 ·rw[if_pos c3]at hF
  obtain⟨x4,gx4,hF⟩:=bS hF;have w5:ans A 133 [V.int .i64 a0,V.isl (a2.map enc)]=some (V.isl (x4.map enc)):=s133 a0 a2 gx4;cases hF;simp only[simprocAttr,R0,b433, *];exact qf (by simp only[simprocAttr,R0,qg,p433,Rs.ev,qc, *])
 ·rw[if_neg c3]at hF
  cases hF;simp only[simprocAttr,R0,b433, *];exact qf (by simp only[simprocAttr,R0,qg,p433,Rs.ev,qc, *])
end
end Rv
