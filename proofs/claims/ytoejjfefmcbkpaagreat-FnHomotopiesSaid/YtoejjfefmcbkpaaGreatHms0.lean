/- What the abstract code answers: typed functions, part 1. -/
import Derived.Test.YtoejjfefmcbkpaaGreatHmp
namespace Rv
open Enc (enc)
theorem ai{a b:Prop}(x:a)(y:b):a∧b:=⟨x,y⟩
theorem ei.{u}{α:Sort u}{p:α→Prop}(w:α)(h:p w):∃x,p x:=⟨w,h⟩
set_option linter.unusedVariables false
set_option linter.unusedSimpArgs false
set_option maxRecDepth 100000
noncomputable section
abbrev eS(x:qm):List V:=[V.isl (x.code.map enc),V.int .i64 x.at_,V.int .u64 x.hash]
abbrev eP(x:qa):V:=V.iptr [V.int .i64 x.P,V.isl (x.D.map enc),V.isl (x.M.map enc)]
abbrev iI(n:Int):V:=V.int .i64 n
abbrev iL{α:Type}[Enc α](l:List α):V:=V.isl (l.map enc)
abbrev nO:=Nat×Option (List V)
abbrev eC(x:qa):V:=V.agg [V.int .i64 x.P,V.isl (x.D.map enc),V.isl (x.M.map enc)]
theorem R1:type_of%(ai RR (ai RB (ai RZ (ai @ii_eq <|ai @nn_eq <|ai @oM_e <|ai @oL_e <|ai @oS_e <|ai @oF_e <|ai @oB_e <|ai @oC_e <|ai @oI_e <|ai @oN_e <|ai @oP_e <|ai @oQ_e <|ai @oR_e <|ai @oU_e <|ai @opEv.eq_1 <|ai @opEv.eq_2 <|ai @opEv.eq_3 <|ai @opEv.eq_4 <|ai @opEv.eq_5 <|ai @opEv.eq_6 <|ai @opEv.eq_7 <|ai @opEv.eq_8 <|ai @opEv.eq_9 <|ai @opEv.eq_10 <|ai @opEv.eq_11 <|ai @opEv.eq_12 <|ai @opEv.eq_13 <|ai @opEv.eq_14 <|ai @opEv.eq_15 <|ai @opEv.eq_16 <|ai @opEv.eq_17 <|ai @opEv.eq_18 <|ai @opEv.eq_19 <|ai @opEv.eq_20 <|ai @opEv.eq_21 <|ai @opEv.eq_22 <|ai @opEv.eq_23 <|ai @opEv.eq_24 <|ai @opEv.eq_25 <|ai @opEv.eq_26 <|ai @opEv.eq_27 <|ai @opEv.eq_28 <|ai @opEv.eq_29 <|ai @opEv.eq_30 <|ai @opEv.eq_31 <|ai @opEv.eq_32 <|ai @opEv.eq_33 <|ai @opEv.eq_34 <|ai @opEv.eq_35 <|ai @opEv.eq_36 <|ai @opEv.eq_37 <|ai @jX.eq_1 <|ai @jX.eq_2 <|ai @mapO.eq_1 <|ai @mapO.eq_2 <|ai @mapS.eq_1 <| @mapS.eq_2)))):=ai RR (ai RB (ai RZ (ai @ii_eq <|ai @nn_eq <|ai @oM_e <|ai @oL_e <|ai @oS_e <|ai @oF_e <|ai @oB_e <|ai @oC_e <|ai @oI_e <|ai @oN_e <|ai @oP_e <|ai @oQ_e <|ai @oR_e <|ai @oU_e <|ai @opEv.eq_1 <|ai @opEv.eq_2 <|ai @opEv.eq_3 <|ai @opEv.eq_4 <|ai @opEv.eq_5 <|ai @opEv.eq_6 <|ai @opEv.eq_7 <|ai @opEv.eq_8 <|ai @opEv.eq_9 <|ai @opEv.eq_10 <|ai @opEv.eq_11 <|ai @opEv.eq_12 <|ai @opEv.eq_13 <|ai @opEv.eq_14 <|ai @opEv.eq_15 <|ai @opEv.eq_16 <|ai @opEv.eq_17 <|ai @opEv.eq_18 <|ai @opEv.eq_19 <|ai @opEv.eq_20 <|ai @opEv.eq_21 <|ai @opEv.eq_22 <|ai @opEv.eq_23 <|ai @opEv.eq_24 <|ai @opEv.eq_25 <|ai @opEv.eq_26 <|ai @opEv.eq_27 <|ai @opEv.eq_28 <|ai @opEv.eq_29 <|ai @opEv.eq_30 <|ai @opEv.eq_31 <|ai @opEv.eq_32 <|ai @opEv.eq_33 <|ai @opEv.eq_34 <|ai @opEv.eq_35 <|ai @opEv.eq_36 <|ai @opEv.eq_37 <|ai @jX.eq_1 <|ai @jX.eq_2 <|ai @mapO.eq_1 <|ai @mapO.eq_2 <|ai @mapS.eq_1 <| @mapS.eq_2)))
theorem R0:type_of%(ai R1 RE):=ai R1 RE
def F140(a0:List U8):Option Bool:=
 some (decide (4096 < (a0.length:Int)))
theorem s140(a0:List U8){r:Bool}(hF:F140 a0=some r):ans A 140 [iL a0]=some (enc r):=by
 refine qv (f:=p140) rfl rfl rfl fun e hl he=>?_;have aA:=he 0 _ rfl;have hl_0:e.length=6:=hl;clear he hl;show W A b140 e ⟨[],0⟩ _;unfold F140 at hF;cases hF;simp only[simprocAttr,R0,b140, *];exact qc (by simp only[simprocAttr,R0,qe,p140,Rs.ev,qb, *])
def F405_S(code:List U8)(s:Int×Int):Option ((Int×Int)⊕Int):=
 if s.1 < (code.length:Int)then
  if s.1 < 4096 then(getI code s.1).bind fun b=>(chk (s.1+1)).bind fun j=> some (.inl (j,Go.IntKind.wrap .u64 (Go.IntKind.wrap .u64 (Go.IntKind.wrap .u64 (s.2*1099511628211)+Go.IntKind.wrap .u64 b.val)+89)))
  else some (.inr s.2)
 else some (.inr s.2)
noncomputable def F405(code:List U8):Option qm:=(qA (F405_S code) (0,Go.IntKind.wrap .u64 (12731+Go.IntKind.wrap .u64 (code.length:Int)))).bind fun h=> some ⟨code,0,h⟩
theorem d405(code:List U8){r:qm}(hF:F405 code=some r)(E:List (nO))(c:Nat):∃h',res A 405 [iL code] ⟨E,c⟩=some (V.ptr E.length c 0,h')∧h'=⟨E++[(c,some (eS r))],c+1⟩:=by
 refine res_ex (f:=p405) rfl rfl rfl fun e hl he=>?_;have aA:=he 0 _ rfl;have hl_0:e.length=38:=hl;clear he hl;show W A b405 e ⟨E,c⟩ _;unfold F405 at hF;obtain⟨hh,gh,hF⟩:=bS hF;have hE:=wA hF; subst hE;simp only[simprocAttr, -Int.reduceNatCast',R0,b405, *];refine W.mono (Q:=fun x' e h=> x'= .normal∧h=⟨E++[(c,some [iL code,iI 0,V.int .u64 hh])],c+1⟩∧e.length=38∧e.at 3=V.ptr E.length c 0) ?_ ?_
 ·show W A (.block 0 (.loop true b405_1)) _ _ _
  rw[qj];refine zi gh _ rfl (fun s e h=> h=⟨E++[(c,some [iL code,iI 0,V.int .u64 s.2])],c+1⟩∧e.length=38∧e.at 0=iL code∧e.at 3=V.ptr E.length c 0∧e.at 4=iI s.1) ?_ ?_
  ·refine ai rfl ?_
   simp only[simprocAttr, -Int.reduceNatCast',R0, *]
  ·clear hl_0 aA
   rintro⟨i,q⟩ e h ⟨rfl,hl_1,aF,dX,eB⟩ o ho;simp only at eB;unfold F405_S at ho;simp only at ho;by_cases c1:i < (code.length:Int)
   ·rw[if_pos c1]at ho
    by_cases c2:i < 4096
    ·rw[if_pos c2]at ho
     obtain⟨b,gb,ho⟩:=bS ho;obtain⟨wb1,wb2⟩:=qg gb;obtain⟨j,gj,ho⟩:=bS ho;have wj:=qu gj;have hE:=wA ho; subst hE;simp only[simprocAttr, -Int.reduceNatCast',R0,b405_1,qI,set_last, *];refine ai rfl (ai rfl ?_);simp only[simprocAttr, -Int.reduceNatCast',R0, *]
    ·rw[if_neg c2]at ho
     have hE:=wA ho; subst hE;simp only[simprocAttr, -Int.reduceNatCast',R0,b405_1, *];intro ht; subst ht;simp only[simprocAttr, -Int.reduceNatCast',R0, *]
   ·rw[if_neg c1]at ho
    have hE:=wA ho; subst hE;simp only[simprocAttr, -Int.reduceNatCast',R0,b405_1, *];intro ht; subst ht;simp only[simprocAttr, -Int.reduceNatCast',R0, *]
 ·rintro _ e h ⟨rfl,rfl,hl_2,hU⟩
  simp only[simprocAttr, -Int.reduceNatCast',R0, *];refine ai (fun _=> trivial) ?_;simp only[simprocAttr, -Int.reduceNatCast',R0,qe,p405,Rs.ev, *]
def F416(src:qm)(a1:Int):Option (T2 Int qm):=
 if a1 < 1 then
  some ⟨0,src⟩
 else
  (chk (Go.IntKind.wrap .u64 (BitVec.ofInt (Go.IntKind.bits .u64) (Int.fdiv (Go.IntKind.wrap .u64 ((Go.IntKind.wrap .u64 (src.hash*6364136223846793005))+1442695040888963407)) (2^min 33 (Go.IntKind.bits .u64)))&&& BitVec.ofInt (Go.IntKind.bits .u64) 16777215).toNat)).bind fun x2=>
  if src.at_ < (src.code.length:Int)then
   (getI src.code src.at_).bind fun x4=>
   (chk x4.val).bind fun x6=>
   (chk (x2+x6)).bind fun x7=>
   (chk (src.at_+1)).bind fun x8=>
   (remI x7 a1).bind fun x9=>
   some ⟨x9,⟨src.code,x8,Go.IntKind.wrap .u64 ((Go.IntKind.wrap .u64 (src.hash*6364136223846793005))+1442695040888963407)⟩⟩
  else
   (remI x2 a1).bind fun bA=>
   some ⟨bA,⟨src.code,src.at_,Go.IntKind.wrap .u64 ((Go.IntKind.wrap .u64 (src.hash*6364136223846793005))+1442695040888963407)⟩⟩
theorem s416(src:qm)(a1:Int){r:T2 Int qm}(hF:F416 src a1=some r):xans A 416 (eS src) [iI a1]=some (iI r.a,(eS r.b)):=by
 refine xC (f:=p416) rfl rfl rfl fun e hl h0 he=>?_;have aA:e.at 0=V.ptr 0 0 0:=h0;have aB:e.at 1=iI a1:=he 0 _ rfl;have hl_0:e.length=58:=hl;clear h0 he hl;show W A b416 e ⟨[(0,some (eS src))],1⟩ _;unfold F416 at hF;by_cases c1:a1 < 1
 ·rw[if_pos c1]at hF
  cases hF;simp only[simprocAttr,R0,b416, *];exact zu (by simp only[simprocAttr,R0,qe,p416,Rs.ev,qb, *])
 ·rw[if_neg c1]at hF
  obtain⟨x2,fK,hF⟩:=bS hF;have wx2:=qu fK;by_cases c3:src.at_ < (src.code.length:Int)
  ·rw[if_pos c3]at hF
   obtain⟨x4,dK,hF⟩:=bS hF;obtain⟨sI,sG⟩:=qg dK;obtain⟨x6,fH,hF⟩:=bS hF;have wx6:=qu fH;obtain⟨x7,dF,hF⟩:=bS hF;have wx7:=qu dF;obtain⟨x8,kC,hF⟩:=bS hF;have wx8:=qu kC;obtain⟨x9,eJ,hF⟩:=bS hF;obtain⟨iZ,iK⟩:=rem_w eJ;cases hF;simp only[simprocAttr,R0,b416,binV_shr33,binV_and64, *];exact zu (by simp only[simprocAttr,R0,qe,p416,Rs.ev,qb,binV_shr33,binV_and64, *])
  ·rw[if_neg c3]at hF
   obtain⟨bA,cM,hF⟩:=bS hF;obtain⟨fY,fX⟩:=rem_w cM;cases hF;simp only[simprocAttr,R0,b416,binV_shr33,binV_and64, *];exact zu (by simp only[simprocAttr,R0,qe,p416,Rs.ev,qb,binV_shr33,binV_and64, *])
def F94(a0:L1):Option L1:=
 (app 8 ([]:L1) a0).bind fun l2=>
 some l2
theorem s94(a0:L1){r:L1}(hF:F94 a0=some r):ans A 94 [iL a0]=some (enc r):=by
 refine qv (f:=p94) rfl rfl rfl fun e hl he=>?_;have aA:=he 0 _ rfl;have hl_0:e.length=6:=hl;clear he hl;show W A b94 e ⟨[],0⟩ _;unfold F94 at hF;obtain⟨l2,uT,hF⟩:=bS hF;have w1:=fun ents key uid clk he=> qF (α:=Int) (n:=0) (m:=a0.length) (ds:=List.map enc a0) uT (by first|rfl|simp only[vH]) (by first|rfl|simp only[vH]) rfl ents key uid clk he;have w1l:=qZ uT;have hE:=wA hF; subst hE;simp only[simprocAttr, -Int.reduceNatCast',R0,b94,hl_0,aA,w1];exact qc (by simp only[simprocAttr, -Int.reduceNatCast',R0,qe,p94,Rs.ev,qb,hl_0,aA,w1,frzs (α:=Int) l2,qM (α:=Int) l2])
theorem t94(a0:L1){r:L1}(hF:F94 a0=some r):tans A 94 [1] [iL a0]=some (enc r):=by
 refine tans_of (f:=p94) rfl rfl rfl fun e hl he=>?_;have aA:=he 0 _ rfl;have hl_0:e.length=6:=hl;clear he hl;show W A b94 e ⟨[],0⟩ _;unfold F94 at hF;obtain⟨l2,uT,hF⟩:=bS hF;have w1:=fun ents key uid clk he=> qF (α:=Int) (n:=0) (m:=a0.length) (ds:=List.map enc a0) uT (by first|rfl|simp only[vH]) (by first|rfl|simp only[vH]) rfl ents key uid clk he;have w1l:=qZ uT;have hE:=wA hF; subst hE;simp only[simprocAttr, -Int.reduceNatCast',R0,b94,hl_0,aA,w1];exact jF (by simp only[simprocAttr, -Int.reduceNatCast',R0,qe,p94,Rs.ev,qb,hl_0,aA,w1,frzs (α:=Int) l2,qM (α:=Int) l2])
def F95_1_B(a0:L2)(bG:Int)(aC:L2):Option ((L2)⊕(L2)):=
 (getI a0 bG).bind fun x5=>
(F94 x5).bind fun x7=>
(app 24 aC [x7]).bind fun tL=>
some (.inl tL)
def F95_1_D(a0:L2)(bG:Int)(aC:L2):Option (L2):=
 some aC
def F95(a0:L2):Option L2:=
 (forR 0 (a0.length:Int) (F95_1_B a0) (F95_1_D a0) ([]:L2)).bind fun aD=>
 some aD
theorem d95(a0:L2){r:L2}(hF:F95 a0=some r):∃v h',res A 95 [iL a0] Heap.empty=some (v,h')∧∃K,Deep.rep h' v r K:=by
 refine res_dp (f:=p95) rfl rfl rfl fun e hl he=>?_;have aA:=he 0 _ rfl;have hl_0:e.length=21:=hl;clear he hl;show W A b95 e ⟨[],0⟩ _;unfold F95 at hF;obtain⟨aD,kJ,hF⟩:=bS hF;have hE:=wA hF; subst hE;simp only[simprocAttr, -Int.reduceNatCast',R1,b95, *];show W A (.block 0 (.loop true b95_1)) _ _ _;rw[qj];refine qz kJ _ rfl (fun i l e h=>∃u vs K,h.ents[0]? =some (u,some vs)∧reps h vs l K∧¬K 0∧e.length=21∧e.at 0=iL a0∧e.at 3=V.sl 0 u 0 l.length 1∧e.at 4=iI i) ?_ ?_ ?_
 ·refine⟨0,[],fun _=> False,rfl,fun _ x=> x,fun x=> x,?_⟩
  simp only[simprocAttr, -Int.reduceNatCast',R1, *]
 ·rintro i l e ⟨E,c⟩ ⟨u,vs,K,g1,g2,g3,hl_1,aF,dX,eB⟩ hlt hw o ho
  unfold F95_1_B at ho;obtain⟨x5,dC,ho⟩:=bS ho;obtain⟨iE,iD⟩:=qg dC;obtain⟨x7,dF,ho⟩:=bS ho;have w8:=t94 x5 dF;obtain⟨tL,lD,ho⟩:=bS ho;obtain⟨q1,q2,rfl⟩:=app_w lD;have hE:=wA ho; subst hE;have hln:=g2.len;have hE0:0 < E.length:=gA g1;have w9:∀x y c',za 1 24 (.sl 0 u 0 l.length 1) 1 [V.sl E.length c 0 x7.length 1] ⟨E++[x]++[y],c'⟩=_:=fun x y c'=> zn (E:=E++[x]++[y]) (vs:=vs) (by rw[gC (by simp),gC hE0]; exact g1) hln (by simpa using q1) (by simpa using q2);simp only[simprocAttr, -Int.reduceNatCast',R1,b95_1,qN,qX,qI, *];have r1:=deep_round (h:=⟨E,c⟩) (h1:=⟨E++[(c,some (x7.map enc))],c+1⟩) (h2:=⟨(E++[(c,some (x7.map enc))]++[(c+1,some [V.sl E.length c 0 x7.length 1])]).set 0 (c+1+1,some (vs++[V.sl E.length c 0 x7.length 1])),c+1+1+1⟩) g2
   (jT (l:=x7) (K:=fun k=> k=E.length) (qI _ _) fun k=> yA) (fun k q=> by show E.length≤k; omega) (fun k q=> gC q) (fun k p q=> qT (fun e=> by subst e; exact q.elim g3 (fun q=> by omega)) p) (by simp)
  refine ai rfl ⟨_,_,_,qr (by simp),r1,fun q=> q.elim g3 (fun q=> by omega),?_⟩;simp only[simprocAttr, -Int.reduceNatCast',R1,wR, *]
 ·rintro i l e ⟨E,c⟩ ⟨u,vs,K,g1,g2,g3,hl_1,aF,dX,eB⟩ hge t1 ho
  unfold F95_1_D at ho;have hE:=wA ho; subst hE;simp only[simprocAttr, -Int.reduceNatCast',R1,b95_1, *];intro ht; subst ht;refine ai (fun _=> trivial) ⟨_,by simp only[simprocAttr, -Int.reduceNatCast',R1,qe,p95,Rs.ev, *],fun k=> k=0∨K k,.inr ⟨0,u,vs,K,rfl,g1,g2,g3,fun k=> yA⟩⟩
theorem x95(a0:L2){r:L2}(hF:F95 a0=some r):tans A 95 [1,1] [iL a0]=some (enc r):=jw (α:=L2) (by decide) (d95 a0 hF)
def F55_1_B(a0:qa)(bG:Int)(s:L3×Int×L1):Option ((L3×Int×L1)⊕(L3×Int×L1)):=
 match s with
 |(aK,lP,lO)=>
  (getI a0.M bG).bind fun x7=>
  (F95 x7).bind fun x9=>
  (app 24 aK [x9]).bind fun dg=>
  some (.inl (dg,lP,lO))
def F55_1_D(a0:qa)(bG:Int)(s:L3×Int×L1):Option (L3×Int×L1):=
 match s with
 |(aK,lP,lO)=>
  some (aK,lP,lO)
def F55(a0:qa):Option qa:=
 (F94 a0.D).bind fun x1=>
 (forR 0 (a0.M.length:Int) (F55_1_B a0) (F55_1_D a0) ([],a0.P,x1)).bind fun t13=> match t13 with
  |(aS,pH,pG)=>
   some ⟨pH,pG,aS⟩
theorem d55(x:qa){r:qa}(hF:F55 x=some r):∃v h',res A 55 [(eC x)] Heap.empty=some (v,h')∧∃m K,v=V.agg [iI r.P,iL r.D,m]∧Deep.rep h' m r.M K:=by
 refine res_dp (f:=p55) rfl rfl rfl fun e hl he=>?_;have aA:=he 0 _ rfl;have hl_0:e.length=31:=hl;clear he hl;show W A b55 e ⟨[],0⟩ _;unfold F55 at hF;obtain⟨x1,bI,hF⟩:=bS hF;have w1:=s94 x.D bI;obtain⟨t13,pi,hF⟩:=bS hF;simp only[simprocAttr,R0,b55, *];show W A (.block 0 (.loop true b55_1)) _ _ _;rw[qj];refine qz pi _ rfl (fun i s e h=> s.2=(x.P,x1)∧∃u vs K,h.ents[1]? =some (1,some [iI 0,V.nils,V.nils])∧h.ents[2]? =some (u,some vs)∧h.ents[3]? =some (3,some [iI x.P,iL x1,V.sl 2 u 0 s.1.length 1])∧reps h vs s.1 K∧(∀k,K k→4≤k)∧e.length=31∧e.at 1=eP x∧e.at 2=V.ptr 1 1 0∧e.at 3=V.ptr 3 3 0∧e.at 4=iI i) ?_ ?_ ?_
 ·refine⟨rfl,2,[],fun _=> False,rfl,rfl,rfl,fun _ x=> x,fun _ x=> x.elim,?_⟩
  simp only[simprocAttr,R0, *]
 ·rintro i ⟨l,q⟩ e ⟨E,c⟩ ⟨rfl,u,vs,K,g1,g2,g3,g4,g5,h_1⟩ hlt hw o ho
  unfold F55_1_B at ho;simp only at ho g3;obtain⟨x5,dC,ho⟩:=bS ho;obtain⟨iE,iD⟩:=qg dC;obtain⟨x7,dF,ho⟩:=bS ho;have w8:=x95 x5 dF;obtain⟨tL,lD,ho⟩:=bS ho;obtain⟨q1,q2,rfl⟩:=app_w lD;cases ho;have hln:=g4.len;have hE0:3 < E.length:=gA g3;obtain⟨v,⟨E1,c1⟩,t1,t2,t3,t4⟩:=thaw_deep (α:=L2) (by decide) x7 ⟨E,c⟩;have t1':thaw 16 [1,1] (iL x7) ⟨E,c⟩=some (v,⟨E1,c1⟩):=t1;simp only at t2 t3 t4 g1 g2 g3;have m1:=(t4 1 (by omega)).trans g1;have m2:=(t4 2 (by omega)).trans g2;have m3:=(t4 3 (by omega)).trans g3;have n1:∀y z,(((E1++[y]).set 2 z))[1]? =_:=fun y z=>(qT (by decide) (by omega)).trans m1;have n3:∀y z,(((E1++[y]).set 2 z))[3]? =_:=fun y z=>(qT (by decide) (by omega)).trans m3;obtain⟨v1,v2⟩:=rep_one t2;have w9:∀y c',za 1 24 (.sl 2 u 0 l.length 1) 1 [v] ⟨E1++[y],c'⟩=_:=fun y c'=> zn (E:=E1++[y]) (vs:=vs) (by rw[gC (by omega)]; exact m2) hln (by simpa using q1) (by simpa using q2);simp only[simprocAttr,R0,b55_1,qN,t1',v1,v2,m1,m2,m3,qI,n1,n3, *];have r1:=deep_round (h:=⟨E,c⟩) (h1:=⟨E1,c1⟩) (h2:=⟨((E1++[(c1,some [v])]).set 2 (c1+1,some (vs++[v]))).set 3 (3,some [iI x.P,iL x1,V.sl 2 (c1+1) 0 (l.length+1) 1]),c1+1+1⟩) (K:=K) g4
   t2 (fun k q=> q.1) t4 (fun k p q=> by
    have hk:4≤k:=q.elim (g5 _) (fun q=> by omega);rw[qt (by omega)];exact qT (by omega) p) t3
  refine ai rfl (ai rfl ⟨c1+1,vs++[v],fun k=> K k∨(E.length≤k∧k < E1.length),?_,?_,?_,r1,fun k q=> q.elim (g5 _) (fun q=> by omega),?_⟩)
  rotate_left
  ·exact(qt (by decide)).trans (qr (by simp; omega))
  ·simp only[wR,vF,vH,wV]
   exact qr (by simp; omega)
  ·simp only[simprocAttr,R0, *]
  ·exact(qt (by decide)).trans (n1 _ _)
 ·rintro i ⟨l,q⟩ e ⟨E,c⟩ ⟨rfl,u,vs,K,g1,g2,g3,g4,g5,h_1⟩ hge t1 ho
  unfold F55_1_D at ho;cases ho;simp only at hF g1 g2 g3;simp only[simprocAttr,R0,b55_1, *];intro ht; subst ht;cases hF;have hE0:3 < E.length:=gA g3;refine ai (fun _=> trivial) ⟨_,by simp only[simprocAttr,R0,qe,p55,Rs.ev,qr (show 1 < E.length by omega), *]; rfl,_,_,rfl,rep_at (α:=L2) (K:=K) ?_ (g4.frame fun k q=> qt (by have:=g5 k q; omega)) (fun q=> by have:=g5 _ q; omega)⟩;exact(qt (by decide)).trans g2
theorem x55(x:qa){r:qa}(hF:F55 x=some r):tans A 55 [1,1,1] [(eC x)]=some (V.agg [iI r.P,V.iptr [iL r.D],iL r.M]):=by
 obtain⟨v,h',h1,m,K,rfl,h2⟩:=d55 x hF;exact tans_agg h1 h2
def F412(src:qm)(a1:L1):Option (T2 Int qm):=
 (F416 src (a1.length:Int)).bind fun x1=>
 (getI a1 x1.a).bind fun x3=>
 some ⟨x3,x1.b⟩
theorem s412(src:qm)(a1:L1){r:T2 Int qm}(hF:F412 src a1=some r):xans A 412 (eS src) [iL a1]=some (iI r.a,(eS r.b)):=by
 refine xC (f:=p412) rfl rfl rfl fun e hl h0 he=>?_;have aA:e.at 0=V.ptr 0 0 0:=h0;have aB:e.at 1=iL a1:=he 0 _ rfl;have hl_0:e.length=12:=hl;clear h0 he hl;show W A b412 e ⟨[(0,some (eS src))],1⟩ _;unfold F412 at hF;obtain⟨x1,bI,hF⟩:=bS hF;have w2:xans A 416 (eS src) [iI (a1.length:Int)]=some (iI x1.a,(eS x1.b)):=s416 src (a1.length:Int) bI;obtain⟨x3,dO,hF⟩:=bS hF;obtain⟨e8,rC⟩:=qg dO;cases hF;simp only[simprocAttr,R0,b412,qf, *];exact zu (by simp only[simprocAttr,R0,qe,p412,Rs.ev,qb,qf, *])
def F80_2_S(a0:Int)(a1:L2)(a2:L1)(aJ:Int)(s:L1×Int):Option ((L1×Int)⊕(L1)):=
 match s with
 |(cT,dW)=>
  if dW < ((cT.length:Nat):Int)then
   (getI cT dW).bind fun dG=>
   (getI a2 aJ).bind fun cO=>
   (getI a1 aJ).bind fun cC=>
   (getI cC dW).bind fun eM=>
   (chk (cO*eM)).bind fun dN=>
   (chk (dG+dN)).bind fun dA=>
   (remI dA a0).bind fun dZ=>
   (setI cT dW dZ).bind fun ly=>
   (chk (dW+1)).bind fun iV=>
   some (.inl (ly,iV))
  else
   some (.inr cT)
def F80_1_B(a0:Int)(a1:L2)(a2:L1)(aJ:Int)(aC:L1):Option ((L1)⊕(L1)):=
 (qA (F80_2_S a0 a1 a2 aJ) (aC,0)).bind fun eO=>
some (.inl eO)
def F80_1_D(a0:Int)(a1:L2)(a2:L1)(aJ:Int)(aC:L1):Option (L1):=
 some aC
def F80(a0:Int)(a1:L2)(a2:L1)(a3:Int):Option L1:=
 (mkL 8 a3 0).bind fun l1=>
 (forR 0 (a2.length:Int) (F80_1_B a0 a1 a2) (F80_1_D a0 a1 a2) l1).bind fun aD=>
 some aD
def I80_2(a0:Int)(a1:L2)(a2:L1)(aJ:Int)(s:L1×Int)(e:Env)(h:Heap):Prop:=
 match s with
 |(cT,dW)=>
  ∃u8 k9:Nat,h=⟨[(u8,some (cT.map enc))],k9⟩∧e.length=49∧e.at 0=iI a0∧e.at 1=iL a1∧e.at 2=iL a2∧e.at 9=V.sl 0 u8 0 cT.length 1∧e.at 10=iI aJ∧e.at 11=iI dW
def P80_2(a0:Int)(a1:L2)(a2:L1)(aJ:Int)(eO:L1)(x:Ex)(e:Env)(h:Heap):Prop:=
 x= .normal∧∃u8 k9:Nat,h=⟨[(u8,some (eO.map enc))],k9⟩∧e.length=49∧e.at 0=iI a0∧e.at 1=iL a1∧e.at 2=iL a2∧e.at 9=V.sl 0 u8 0 eO.length 1∧e.at 10=iI aJ
theorem l80_2(a0:Int)(a1:L2)(a2:L1)(aJ:Int){s:L1×Int}{t:L1}(hF:qA (F80_2_S a0 a1 a2 aJ) s=some t){e:Env}{h:Heap}(hI:I80_2 a0 a1 a2 aJ s e h):W A c80_2 e h (P80_2 a0 a1 a2 aJ t):=by
 show W A (.block 2 (.loop false b80_2)) e h _;rw[qj];refine zi hF 1 (by rcases s with⟨_,_⟩; obtain⟨_,_,rfl,_⟩:=hI; rfl) (I80_2 a0 a1 a2 aJ) hI ?_
 ·rintro⟨cT,dW⟩ e h ⟨u8,k9,rfl,h_7⟩ o ho
  unfold F80_2_S at ho;dsimp only at ho;by_cases c11:dW < ((cT.length:Nat):Int)
  ·rw[if_pos c11]at ho
   obtain⟨dG,dQ,ho⟩:=bS ho;obtain⟨s7,sS⟩:=qg dQ;have w13c:=qY dQ;have w13d:List.drop (Int.toNat dW) (cT.map enc)=(iI dG)::List.drop ((Int.toNat dW)+1) (cT.map enc):=jf sS;obtain⟨cO,eF,ho⟩:=bS ho;obtain⟨kQ,iH⟩:=qg eF;obtain⟨cC,dM,ho⟩:=bS ho;obtain⟨sQ,sP⟩:=qg dM;obtain⟨eM,eE,ho⟩:=bS ho;obtain⟨sN,sM⟩:=qg eE;obtain⟨dN,eT,ho⟩:=bS ho;have sB:=qu eT;obtain⟨dA,dL,ho⟩:=bS ho;have fg:=qu dL;obtain⟨dZ,kG,ho⟩:=bS ho;obtain⟨sK,sJ⟩:=rem_w kG;obtain⟨ly,pw,ho⟩:=bS ho;obtain⟨w25a,w25b,w25c,w25d,p9⟩:=jy pw;replace p9:List.take (Int.toNat dW) (cT.map enc)++[iI dZ]++List.drop (Int.toNat dW+1) (cT.map enc)=List.map enc ly:=p9;obtain⟨iV,kE,ho⟩:=bS ho;have fe:=qu kE;cases ho;simp only[simprocAttr,R0,b80_2, *];refine ai rfl (ei _ (ei _ (ai rfl ?_)));simp only[simprocAttr,R0, *]
  ·rw[if_neg c11]at ho
   cases ho;simp only[simprocAttr,R0,b80_2, *];intro ht; subst ht;simp only[simprocAttr,RR,RB];refine ai rfl (ei _ (ei _ (ai rfl ?_)));simp only[simprocAttr,R0, *]
def I80_1(a0:Int)(a1:L2)(a2:L1)(aJ:Int)(aC:L1)(e:Env)(h:Heap):Prop:=
 ∃u4 k5:Nat,h=⟨[(u4,some (aC.map enc))],k5⟩∧e.length=49∧e.at 0=iI a0∧e.at 1=iL a1∧e.at 2=iL a2∧e.at 9=V.sl 0 u4 0 aC.length 1∧e.at 10=iI aJ
def P80_1(a0:Int)(a1:L2)(a2:L1)(aD:L1)(x:Ex)(e:Env)(h:Heap):Prop:=
 x= .normal∧∃u4 k5:Nat,h=⟨[(u4,some (aD.map enc))],k5⟩∧e.length=49∧e.at 9=V.sl 0 u4 0 aD.length 1
theorem l80_1(a0:Int)(a1:L2)(a2:L1){lo:Int}{s:L1}{t:L1}(hF:forR lo (a2.length:Int) (F80_1_B a0 a1 a2) (F80_1_D a0 a1 a2) s=some t){e:Env}{h:Heap}(hI:I80_1 a0 a1 a2 lo s e h):W A c80_1 e h (P80_1 a0 a1 a2 t):=by
 show W A (.block 0 (.loop false b80_1)) e h _;rw[qj];refine qz hF 1 (by obtain⟨_,_,rfl,_⟩:=hI; rfl) (I80_1 a0 a1 a2) hI ?_ ?_
 ·rintro aJ aC e h ⟨u4,k5,rfl,h_3⟩ hlt hw o ho
  unfold F80_1_B at ho;obtain⟨eO,pf,ho⟩:=bS ho;simp only[simprocAttr,R0,b80_1, *];refine W.mono (l80_2 a0 a1 a2 aJ pf (ei _ (ei _ (ai rfl ?_)))) ?_
  ·simp only[simprocAttr,R0, *]
  rintro _ e _ ⟨rfl,u8,k9,rfl,h_10⟩;cases ho;simp only[simprocAttr,R0, *];refine ai rfl (ei _ (ei _ (ai rfl ?_)));simp only[simprocAttr,R0, *]
 ·rintro aJ aC e h ⟨u4,k5,rfl,h_3⟩ hge t1 ho
  unfold F80_1_D at ho;cases ho;simp only[simprocAttr,R0,b80_1, *];intro ht; subst ht;refine ai rfl (ei _ (ei _ (ai rfl ?_)));simp only[simprocAttr,R0, *]
theorem s80(a0:Int)(a1:L2)(a2:L1)(a3:Int){r:L1}(hF:F80 a0 a1 a2 a3=some r):ans A 80 [iI a0,iL a1,iL a2,iI a3]=some (enc r):=by
 refine qv (f:=p80) rfl rfl rfl fun e hl he=>?_;have aA:=he 0 _ rfl;have aB:=he 1 _ rfl;have aN:=he 2 _ rfl;have bR:=he 3 _ rfl;have hl_0:e.length=49:=hl;clear he hl;show W A b80 e ⟨[],0⟩ _;unfold F80 at hF;obtain⟨l1,oW,hF⟩:=bS hF;obtain⟨nK,nJ,rD,pA,kK⟩:=mkL_w oW;replace kK:(List.replicate (Int.toNat a3) [iI 0]).flatten=List.map enc l1:=kK;obtain⟨aD,kH,hF⟩:=bS hF;simp only[simprocAttr, -Int.reduceNatCast',R0,b80, *];refine W.mono (l80_1 a0 a1 a2 kH (ei _ (ei _ (ai rfl ?_)))) ?_
 ·simp only[simprocAttr, -Int.reduceNatCast',R0, *]
 rintro _ e _ ⟨rfl,u4,k5,rfl,hl_6,tP⟩;have hE:=wA hF; subst hE;simp only[simprocAttr, -Int.reduceNatCast',R0, *];exact qc (by simp only[simprocAttr, -Int.reduceNatCast',R0,qe,p80,Rs.ev,qb,frzs (α:=Int) aD,qM (α:=Int) aD, *])
theorem t80(a0:Int)(a1:L2)(a2:L1)(a3:Int){r:L1}(hF:F80 a0 a1 a2 a3=some r):tans A 80 [1] [iI a0,iL a1,iL a2,iI a3]=some (enc r):=by
 refine tans_of (f:=p80) rfl rfl rfl fun e hl he=>?_;have aA:=he 0 _ rfl;have aB:=he 1 _ rfl;have aN:=he 2 _ rfl;have bR:=he 3 _ rfl;have hl_0:e.length=49:=hl;clear he hl;show W A b80 e ⟨[],0⟩ _;unfold F80 at hF;obtain⟨l1,oW,hF⟩:=bS hF;obtain⟨nK,nJ,rD,pA,kK⟩:=mkL_w oW;replace kK:(List.replicate (Int.toNat a3) [iI 0]).flatten=List.map enc l1:=kK;obtain⟨aD,kH,hF⟩:=bS hF;simp only[simprocAttr, -Int.reduceNatCast',R0,b80, *];refine W.mono (l80_1 a0 a1 a2 kH (ei _ (ei _ (ai rfl ?_)))) ?_
 ·simp only[simprocAttr, -Int.reduceNatCast',R0, *]
 rintro _ e _ ⟨rfl,u4,k5,rfl,hl_6,tP⟩;have hE:=wA hF; subst hE;simp only[simprocAttr, -Int.reduceNatCast',R0, *];exact jF (by simp only[simprocAttr, -Int.reduceNatCast',R0,qe,p80,Rs.ev,qb,frzs (α:=Int) aD,qM (α:=Int) aD, *])
def F54(a0:Int)(a1:Int)(a2:Int):Option Bool:=
 if a1≤a0 then
  some (decide (a0≤a2))
 else
  some false
theorem s54(a0:Int)(a1:Int)(a2:Int){r:Bool}(hF:F54 a0 a1 a2=some r):ans A 54 [iI a0,iI a1,iI a2]=some (enc r):=by
 refine qv (f:=p54) rfl rfl rfl fun e hl he=>?_;have aA:=he 0 _ rfl;have aB:=he 1 _ rfl;have aN:=he 2 _ rfl;have hl_0:e.length=15:=hl;clear he hl;have h_0:=ai hl_0 (ai aA (ai aB aN));show W A b54 e ⟨[],0⟩ _;unfold F54 at hF;by_cases c1:a1≤a0
 ·rw[if_pos c1]at hF
  cases hF;simp only[simprocAttr,R0,b54, *];exact qc (by simp only[simprocAttr,R0,qe,p54,Rs.ev,qb, *])
 ·rw[if_neg c1]at hF
  cases hF;simp only[simprocAttr,R0,b54, *];exact qc (by simp only[simprocAttr,R0,qe,p54,Rs.ev,qb, *])
def F99(a0:qa)(a1:Int):Option Int:=
 (chk ((a0.D.length:Int) - 1)).bind fun x1=>
 (F54 a1 0 x1).bind fun x2=>
 if x2=true then
  (getI a0.D a1).bind fun x4=>
  some x4
 else
  some 0
theorem s99(a0:qa)(a1:Int){r:Int}(hF:F99 a0 a1=some r):ans A 99 [(eC a0),iI a1]=some (enc r):=by
 refine qv (f:=p99) rfl rfl rfl fun e hl he=>?_;have aA:=he 0 _ rfl;have aB:=he 1 _ rfl;have hl_0:e.length=17:=hl;clear he hl;have h_0:=ai hl_0 (ai aA aB);show W A b99 e ⟨[],0⟩ _;unfold F99 at hF;obtain⟨x1,bI,hF⟩:=bS hF;have fi:=qu bI;obtain⟨x2,fK,hF⟩:=bS hF;have w3:=s54 a1 0 x1 fK;cases x2 with
 |true=>
  rw[if_pos rfl]at hF;obtain⟨x4,dK,hF⟩:=bS hF;obtain⟨sI,sG⟩:=qg dK;cases hF;simp only[simprocAttr,R0,b99, *];exact qc (by simp only[simprocAttr,R0,qe,p99,Rs.ev,qb, *])
 |false=>
  rw[if_neg wD]at hF;cases hF;simp only[simprocAttr,R0,b99, *];exact qc (by simp only[simprocAttr,R0,qe,p99,Rs.ev,qb, *])
def F76_1_S(a0:qa)(a1:Int)(s:L2×Int):Option ((L2×Int)⊕(L2)):=
 match s with
 |(bJ,mU)=>
  (F99 a0 a1).bind fun bA=>
  if mU < bA then
   (app 24 bJ ([([]:L1)])).bind fun iR=>
   (chk (mU+1)).bind fun cC=>
   some (.inl (iR,cC))
  else
   some (.inr bJ)
def F76(a0:qa)(a1:Int):Option L2:=
 (chk ((a0.D.length:Int) - 1)).bind fun x1=>
 (F54 a1 1 x1).bind fun x2=>
 if x2=true then
  (chk (a1 - 1)).bind fun x4=>
  (getI a0.M x4).bind fun x5=>
  some x5
 else
  (qA (F76_1_S a0 a1) ([],0)).bind fun bZ=>
  some bZ
def I76_1(a0:qa)(a1:Int)(s:L2×Int)(e:Env)(h:Heap):Prop:=
 match s with
 |(bJ,mU)=>
  ∃u8 k9:Nat,h=⟨[(0,none),(u8,some (bJ.map enc))],k9⟩∧e.length=32∧e.at 1=iI a1∧e.at 2=eP a0∧e.at 5=V.sl 1 u8 0 bJ.length 1∧e.at 6=iI mU
def P76_1(a0:qa)(a1:Int)(bZ:L2)(x:Ex)(e:Env)(h:Heap):Prop:=
 x= .normal∧∃u8 k9:Nat,h=⟨[(0,none),(u8,some (bZ.map enc))],k9⟩∧e.length=32∧e.at 5=V.sl 1 u8 0 bZ.length 1
theorem l76_1(a0:qa)(a1:Int){s:L2×Int}{t:L2}(hF:qA (F76_1_S a0 a1) s=some t){e:Env}{h:Heap}(hI:I76_1 a0 a1 s e h):W A c76_1 e h (P76_1 a0 a1 t):=by
 show W A (.block 0 (.loop false b76_1)) e h _;rw[qj];refine zi hF 2 (by rcases s with⟨_,_⟩; obtain⟨_,_,rfl,_⟩:=hI; rfl) (I76_1 a0 a1) hI ?_
 ·rintro⟨bJ,mU⟩ e h ⟨u8,k9,rfl,h_7⟩ o ho
  unfold F76_1_S at ho;dsimp only at ho;obtain⟨bA,cM,ho⟩:=bS ho;have pB:=s99 a0 a1 cM;by_cases c13:mU < bA
  ·rw[if_pos c13]at ho
   obtain⟨iR,lC,ho⟩:=bS ho;have mT:=fun a b c d e=> qF (α:=L1) (n:=bJ.length) (m:=1) (ds:=[V.isl []]) lC (by first|rfl|simp) (by first|rfl|simp) rfl a b c d e;have w14l:=qZ lC;obtain⟨cC,dM,ho⟩:=bS ho;have m8:=qu dM;cases ho;simp only[simprocAttr,R0,b76_1, *];refine ai rfl (ei _ (ei _ (ai rfl ?_)));simp only[simprocAttr,R0, *]
  ·rw[if_neg c13]at ho
   cases ho;simp only[simprocAttr,R0,b76_1, *];intro ht; subst ht;simp only[simprocAttr,RR,RB];refine ai rfl (ei _ (ei _ (ai rfl ?_)));simp only[simprocAttr,R0, *]
theorem s76(a0:qa)(a1:Int){r:L2}(hF:F76 a0 a1=some r):ans A 76 [(eC a0),iI a1]=some (enc r):=by
 refine qv (f:=p76) rfl rfl rfl fun e hl he=>?_;have aA:=he 0 _ rfl;have aB:=he 1 _ rfl;have hl_0:e.length=32:=hl;clear he hl;show W A b76 e ⟨[],0⟩ _;unfold F76 at hF;obtain⟨x1,bI,hF⟩:=bS hF;have fi:=qu bI;obtain⟨x2,fK,hF⟩:=bS hF;have w3:=s54 a1 1 x1 fK;cases x2 with
 |true=>
  rw[if_pos rfl]at hF;obtain⟨x4,dK,hF⟩:=bS hF;have fb:=qu dK;obtain⟨x5,dC,hF⟩:=bS hF;obtain⟨iE,iD⟩:=qg dC;have hE:=wA hF; subst hE;simp only[simprocAttr, -Int.reduceNatCast',R0,b76, *];exact qc (by simp only[simprocAttr, -Int.reduceNatCast',R0,qe,p76,Rs.ev,qb, *])
 |false=>
  rw[if_neg wD]at hF;obtain⟨bZ,lA,hF⟩:=bS hF;simp only[simprocAttr, -Int.reduceNatCast',R0,b76, *];refine W.mono (l76_1 a0 a1 lA (ei _ (ei _ (ai rfl ?_)))) ?_
  ·simp only[simprocAttr, -Int.reduceNatCast',R0, *]
  rintro _ e _ ⟨rfl,u8,k9,rfl,hl_10,h5_10⟩;have hE:=wA hF; subst hE;simp only[simprocAttr, -Int.reduceNatCast',R0, *];exact qc (by simp only[simprocAttr, -Int.reduceNatCast',R0,qe,p76,Rs.ev,qb,frzs (α:=L1) bZ,qM (α:=L1) bZ, *])
def F81_1_B(a0:L1)(bT:Int)(s:Unit):Option ((Unit)⊕((Unit)⊕Int)):=
 (getI a0 bT).bind fun x4=>
if x4=0 then
 some (.inl ())
else
 some (.inr (.inr bT))
def F81_1_D(a0:L1)(bT:Int)(s:Unit):Option ((Unit)⊕Int):=
 some (.inl ())
def F81(a0:L1):Option Int:=
 (forR 0 (a0.length:Int) (F81_1_B a0) (F81_1_D a0) ()).bind fun t7=> match t7 with
  | .inl _=>
   some (-1)
  | .inr r8=> some r8
def I81_1(a0:L1)(bT:Int)(s:Unit)(e:Env)(h:Heap):Prop:=
 ∃k2:Nat,h=⟨[],k2⟩∧e.length=16∧e.at 0=iL a0∧e.at 3=iI bT
def P81_1(a0:L1)(t:(Unit)⊕Int)(x:Ex)(e:Env)(h:Heap):Prop:=
 match t with
 | .inl _=> x= .normal∧∃k2:Nat,h=⟨[],k2⟩∧e.length=16
 | .inr r=> x= .ret∧Fin p81 (enc r) .ret e h
theorem l81_1(a0:L1){lo:Int}{s:Unit}{t:(Unit)⊕Int}(hF:forR lo (a0.length:Int) (F81_1_B a0) (F81_1_D a0) s=some t){e:Env}{h:Heap}(hI:I81_1 a0 lo s e h):W A c81_1 e h (P81_1 a0 t):=by
 show W A (.block 0 (.loop false b81_1)) e h _;rw[qj];refine qz hF 0 (by obtain⟨_,rfl,_⟩:=hI; rfl) (I81_1 a0) hI ?_ ?_
 ·rintro bT _ e h ⟨k2,rfl,h_1⟩ hlt hw o ho
  unfold F81_1_B at ho;obtain⟨x4,dK,ho⟩:=bS ho;obtain⟨sI,sG⟩:=qg dK;by_cases c6:x4=0
  ·rw[if_pos c6]at ho
   cases ho;simp only[simprocAttr,R0,b81_1, *];refine ai rfl (ei _ (ai rfl ?_));simp only[simprocAttr,R0, *]
  ·rw[if_neg c6]at ho
   cases ho;simp only[simprocAttr,R0,b81_1, *];intro ht; subst ht;simp only[simprocAttr,RR,RB];exact ai rfl (qc (by simp only[simprocAttr,R0,qe,p81,Rs.ev,qb, *]))
 ·rintro bT _ e h ⟨k2,rfl,h_1⟩ hge t1 ho
  unfold F81_1_D at ho;cases ho;simp only[simprocAttr,R0,b81_1, *];intro ht; subst ht;refine ai rfl (ei _ (ai rfl ?_));simp only[simprocAttr,R0, *]
theorem s81(a0:L1){r:Int}(hF:F81 a0=some r):ans A 81 [iL a0]=some (enc r):=by
 refine qv (f:=p81) rfl rfl rfl fun e hl he=>?_;have aA:=he 0 _ rfl;have hl_0:e.length=16:=hl;clear he hl;have h_0:=ai hl_0 aA;show W A b81 e ⟨[],0⟩ _;unfold F81 at hF;obtain⟨t7,gt7,hF⟩:=bS hF;rcases t7 with _|r8
 ·dsimp only at hF
  simp only[simprocAttr,R0,b81, *];refine W.mono (l81_1 a0 gt7 (ei _ (ai rfl ?_))) ?_
  ·simp only[simprocAttr,R0, *]
  rintro _ e _ ⟨rfl,k2,rfl,hl_3⟩;cases hF;simp only[simprocAttr,R0, *];exact qc (by simp only[simprocAttr,R0,qe,p81,Rs.ev,qb, *])
 ·dsimp only at hF
  cases hF;simp only[simprocAttr,R0,b81, *];refine W.mono (l81_1 a0 gt7 (ei _ (ai rfl ?_))) ?_
  ·simp only[simprocAttr,R0, *]
  rintro _ e h ⟨rfl,hq⟩;simp only[simprocAttr,RR,RB];exact hq
def F127(a0:Int)(a1:Int):Option Int:=
 (remI a1 a0).bind fun x1=>
 (chk (x1+a0)).bind fun x3=>
 (remI x3 a0).bind fun x4=>
 some x4
theorem s127(a0:Int)(a1:Int){r:Int}(hF:F127 a0 a1=some r):ans A 127 [iI a0,iI a1]=some (enc r):=by
 refine qv (f:=p127) rfl rfl rfl fun e hl he=>?_;have aA:=he 0 _ rfl;have aB:=he 1 _ rfl;have hl_0:e.length=12:=hl;clear he hl;show W A b127 e ⟨[],0⟩ _;unfold F127 at hF;obtain⟨x1,bI,hF⟩:=bS hF;obtain⟨nK,nJ⟩:=rem_w bI;obtain⟨x3,dO,hF⟩:=bS hF;have wx3:=qu dO;obtain⟨x4,dK,hF⟩:=bS hF;obtain⟨sI,sG⟩:=rem_w dK;cases hF;simp only[simprocAttr,R0,b127, *];exact qc (by simp only[simprocAttr,R0,qe,p127,Rs.ev,qb, *])
def F136_1_B(a0:Int)(a1:L1)(a2:L1)(a3:Int)(aJ:Int)(aC:L1):Option ((L1)⊕(L1)):=
 (getI a1 aJ).bind fun x5=>
(getI a2 aJ).bind fun x7=>
(chk (a3*x7)).bind fun x9=>
(chk (x5 - x9)).bind fun dI=>
(F127 a0 dI).bind fun bA=>
(app 8 aC [bA]).bind fun fC=>
some (.inl fC)
def F136_1_D(a0:Int)(a1:L1)(a2:L1)(a3:Int)(aJ:Int)(aC:L1):Option (L1):=
 some aC
def F136(a0:Int)(a1:L1)(a2:L1)(a3:Int):Option L1:=
 (forR 0 (a1.length:Int) (F136_1_B a0 a1 a2 a3) (F136_1_D a0 a1 a2 a3) ([]:L1)).bind fun aD=>
 some aD
def I136_1(a0:Int)(a1:L1)(a2:L1)(a3:Int)(aJ:Int)(aC:L1)(e:Env)(h:Heap):Prop:=
 ∃u2 k3:Nat,h=⟨[(u2,some (aC.map enc))],k3⟩∧e.length=35∧e.at 0=iI a0∧e.at 1=iL a1∧e.at 2=iL a2∧e.at 3=iI a3∧e.at 9=V.sl 0 u2 0 aC.length 1∧e.at 10=iI aJ
def P136_1(a0:Int)(a1:L1)(a2:L1)(a3:Int)(aD:L1)(x:Ex)(e:Env)(h:Heap):Prop:=
 x= .normal∧∃u2 k3:Nat,h=⟨[(u2,some (aD.map enc))],k3⟩∧e.length=35∧e.at 9=V.sl 0 u2 0 aD.length 1
theorem l136_1(a0:Int)(a1:L1)(a2:L1)(a3:Int){lo:Int}{s:L1}{t:L1}(hF:forR lo (a1.length:Int) (F136_1_B a0 a1 a2 a3) (F136_1_D a0 a1 a2 a3) s=some t){e:Env}{h:Heap}(hI:I136_1 a0 a1 a2 a3 lo s e h):W A c136_1 e h (P136_1 a0 a1 a2 a3 t):=by
 show W A (.block 0 (.loop false b136_1)) e h _;rw[qj];refine qz hF 1 (by obtain⟨_,_,rfl,_⟩:=hI; rfl) (I136_1 a0 a1 a2 a3) hI ?_ ?_
 ·rintro aJ aC e h ⟨u2,k3,rfl,h_1⟩ hlt hw o ho
  unfold F136_1_B at ho;obtain⟨x5,dC,ho⟩:=bS ho;obtain⟨iE,iD⟩:=qg dC;obtain⟨x7,dF,ho⟩:=bS ho;obtain⟨mR,mE⟩:=qg dF;obtain⟨x9,eJ,ho⟩:=bS ho;have wx9:=qu eJ;obtain⟨dI,dY,ho⟩:=bS ho;have wx10:=qu dY;obtain⟨bA,cM,ho⟩:=bS ho;have pB:=s127 a0 dI cM;obtain⟨fC,mB,ho⟩:=bS ho;have de:=fun a b c d e=> qF (α:=Int) (n:=aC.length) (m:=1) (ds:=[iI bA]) mB (by first|rfl|simp) (by first|rfl|simp) rfl a b c d e;have km:=qZ mB;cases ho;simp only[simprocAttr,R0,b136_1, *];refine ai rfl (ei _ (ei _ (ai rfl ?_)));simp only[simprocAttr,R0, *]
 ·rintro aJ aC e h ⟨u2,k3,rfl,h_1⟩ hge t1 ho
  unfold F136_1_D at ho;cases ho;simp only[simprocAttr,R0,b136_1, *];intro ht; subst ht;refine ai rfl (ei _ (ei _ (ai rfl ?_)));simp only[simprocAttr,R0, *]
theorem t136(a0:Int)(a1:L1)(a2:L1)(a3:Int){r:L1}(hF:F136 a0 a1 a2 a3=some r):tans A 136 [1] [iI a0,iL a1,iL a2,iI a3]=some (enc r):=by
 refine tans_of (f:=p136) rfl rfl rfl fun e hl he=>?_;have aA:=he 0 _ rfl;have aB:=he 1 _ rfl;have aN:=he 2 _ rfl;have bR:=he 3 _ rfl;have hl_0:e.length=35:=hl;clear he hl;show W A b136 e ⟨[],0⟩ _;unfold F136 at hF;obtain⟨aD,uR,hF⟩:=bS hF;simp only[simprocAttr, -Int.reduceNatCast',R0,b136, *];refine W.mono (l136_1 a0 a1 a2 a3 uR (ei _ (ei _ (ai rfl ?_)))) ?_
 ·simp only[simprocAttr, -Int.reduceNatCast',R0, *]
 rintro _ e _ ⟨rfl,u2,k3,rfl,hl_4,mi⟩;have hE:=wA hF; subst hE;simp only[simprocAttr, -Int.reduceNatCast',R0, *];exact jF (by simp only[simprocAttr, -Int.reduceNatCast',R0,qe,p136,Rs.ev,qb,frzs (α:=Int) aD,qM (α:=Int) aD, *])
def F134_1_B(a0:Int)(a1:L2)(aE:Int)(aR:L1):Option ((L1)⊕(L1)):=
 (getI a1 aE).bind fun x6=>
(F81 x6).bind fun x8=>
(getI aR x8).bind fun dI=>
(F136 a0 aR x6 dI).bind fun dG=>
some (.inl dG)
def F134_1_D(a0:Int)(a1:L2)(aE:Int)(aR:L1):Option (L1):=
 some aR
def F134(a0:Int)(a1:L2)(a2:L1):Option L1:=
 (F94 a2).bind fun x1=>
 (forR 0 (a1.length:Int) (F134_1_B a0 a1) (F134_1_D a0 a1) x1).bind fun j6=>
 some j6
theorem d134(a0:Int)(a1:L2)(a2:L1){r:L1}(hF:F134 a0 a1 a2=some r):∃v h',res A 134 [iI a0,iL a1,iL a2] Heap.empty=some (v,h')∧∃K,Deep.rep h' v r K:=by
 refine res_dp (f:=p134) rfl rfl rfl fun e hl he=>?_;have aA:=he 0 _ rfl;have aB:=he 1 _ rfl;have aN:=he 2 _ rfl;have hl_0:e.length=33:=hl;clear he hl;show W A b134 e ⟨[],0⟩ _;unfold F134 at hF;obtain⟨o,go,hF⟩:=bS hF;have wo:tans A 94 [1] [iL a2]=some (iL o):=t94 a2 go;obtain⟨t,gt,hF⟩:=bS hF;cases hF;simp only[simprocAttr,R1,b134,qN,qX, *];show W A (.block 0 (.loop true b134_1)) _ _ _;rw[qj];refine qz gt _ rfl (fun i q e h=>∃k u,h.ents[k]? =some (u,some (q.map enc))∧e.length=33∧e.at 0=iI a0∧e.at 1=iL a1∧e.at 7=V.sl k u 0 q.length 1∧e.at 8=iI i) ?_ ?_ ?_
 ·refine⟨0,0,rfl,?_⟩
  simp only[simprocAttr,R1, *]
 ·clear hl_0 aA aB aN
  rintro i q e ⟨E,c⟩ ⟨k,u,g1,h_1⟩ hlt hw s' ho;unfold F134_1_B at ho;simp only at g1;obtain⟨x6,fH,ho⟩:=bS ho;obtain⟨x6a,x6b⟩:=qg fH;obtain⟨x8,kC,ho⟩:=bS ho;have w8:=s81 x6 kC;obtain⟨dI,dY,ho⟩:=bS ho;obtain⟨eo,en⟩:=qg dY;have em:=qY dY;obtain⟨dG,dQ,ho⟩:=bS ho;have pB:tans A 136 [1] [iI a0,iL q,iL x6,iI dI]=some (iL dG):=t136 a0 q x6 dI dQ;cases ho;have wfz:frz ⟨E,c⟩ 16 (V.sl k u 0 q.length 1)=some (iL q):=frz_row g1;have wbr:=bare_one (α:=Int) dG;have o10:ze none (List.drop x8.toNat (q.map enc))=some (iI dI):=qw (by rw[gG,en]; rfl);simp only[simprocAttr,R1,b134_1,x6a,x6b,eo,eq_true em,o10,qN,qX, *];refine ai rfl ⟨_,_,qI _ _,?_⟩;simp only[simprocAttr,R1, *]
 ·clear hl_0 aA aB aN
  rintro i q e ⟨E,c⟩ ⟨k,u,g1,h_1⟩ hge t1 ho;unfold F134_1_D at ho;cases ho;simp only at g1;simp only[simprocAttr,R1,b134_1, *];intro ht; subst ht;refine ai (fun _=> trivial) ⟨_,?_,fun x=> x=k,jT (l:=q) g1 fun x=> yA⟩;simp only[simprocAttr,R1,qe,p134,Rs.ev, *]
theorem t134(a0:Int)(a1:L2)(a2:L1){r:L1}(hF:F134 a0 a1 a2=some r):tans A 134 [1] [iI a0,iL a1,iL a2]=some (enc r):=jw (α:=L1) (by decide) (d134 a0 a1 a2 hF)
def F135_1_B(a0:Int)(a1:Int)(bC:Int)(s:Unit):Option ((Unit)⊕((Unit)⊕Int)):=
 (F127 a0 a1).bind fun x4=>
(chk (bC*x4)).bind fun x6=>
(remI x6 a0).bind fun x7=>
if x7=1 then
 some (.inr (.inr bC))
else
 some (.inl ())
def F135_1_D(a0:Int)(a1:Int)(bC:Int)(s:Unit):Option ((Unit)⊕Int):=
 some (.inl ())
def F135(a0:Int)(a1:Int):Option Int:=
 (forR 1 a0 (F135_1_B a0 a1) (F135_1_D a0 a1) ()).bind fun nN=> match nN with
  | .inl _=>
   some 0
  | .inr pE=> some pE
def I135_1(a0:Int)(a1:Int)(bC:Int)(s:Unit)(e:Env)(h:Heap):Prop:=
 ∃k2:Nat,h=⟨[],k2⟩∧e.length=20∧e.at 0=iI a0∧e.at 1=iI a1∧e.at 5=iI bC
def P135_1(a0:Int)(a1:Int)(t:(Unit)⊕Int)(x:Ex)(e:Env)(h:Heap):Prop:=
 match t with
 | .inl _=> x= .normal∧∃k2:Nat,h=⟨[],k2⟩∧e.length=20
 | .inr r=> x= .ret∧Fin p135 (enc r) .ret e h
theorem l135_1(a0:Int)(a1:Int){lo:Int}{s:Unit}{t:(Unit)⊕Int}(hF:forR lo a0 (F135_1_B a0 a1) (F135_1_D a0 a1) s=some t){e:Env}{h:Heap}(hI:I135_1 a0 a1 lo s e h):W A c135_1 e h (P135_1 a0 a1 t):=by
 show W A (.block 0 (.loop false b135_1)) e h _;rw[qj];refine qz hF 0 (by obtain⟨_,rfl,_⟩:=hI; rfl) (I135_1 a0 a1) hI ?_ ?_
 ·rintro bC _ e h ⟨k2,rfl,h_1⟩ hlt hw o ho
  unfold F135_1_B at ho;obtain⟨x4,dK,ho⟩:=bS ho;have w5:=s127 a0 a1 dK;obtain⟨x6,fH,ho⟩:=bS ho;have wx6:=qu fH;obtain⟨x7,dF,ho⟩:=bS ho;obtain⟨mR,mE⟩:=rem_w dF;by_cases c9:x7=1
  ·rw[if_pos c9]at ho
   cases ho;simp only[simprocAttr,R0,b135_1, *];intro ht; subst ht;simp only[simprocAttr,RR,RB];exact ai rfl (qc (by simp only[simprocAttr,R0,qe,p135,Rs.ev,qb, *]))
  ·rw[if_neg c9]at ho
   cases ho;simp only[simprocAttr,R0,b135_1, *];refine ai rfl (ei _ (ai rfl ?_));simp only[simprocAttr,R0, *]
 ·rintro bC _ e h ⟨k2,rfl,h_1⟩ hge t1 ho
  unfold F135_1_D at ho;cases ho;simp only[simprocAttr,R0,b135_1, *];intro ht; subst ht;refine ai rfl (ei _ (ai rfl ?_));simp only[simprocAttr,R0, *]
theorem s135(a0:Int)(a1:Int){r:Int}(hF:F135 a0 a1=some r):ans A 135 [iI a0,iI a1]=some (enc r):=by
 refine qv (f:=p135) rfl rfl rfl fun e hl he=>?_;have aA:=he 0 _ rfl;have aB:=he 1 _ rfl;have hl_0:e.length=20:=hl;clear he hl;have h_0:=ai hl_0 (ai aA aB);show W A b135 e ⟨[],0⟩ _;unfold F135 at hF;obtain⟨nN,lB,hF⟩:=bS hF;rcases nN with _|pE
 ·dsimp only at hF
  simp only[simprocAttr,R0,b135, *];refine W.mono (l135_1 a0 a1 lB (ei _ (ai rfl ?_))) ?_
  ·simp only[simprocAttr,R0, *]
  rintro _ e _ ⟨rfl,k2,rfl,hl_3⟩;cases hF;simp only[simprocAttr,R0, *];exact qc (by simp only[simprocAttr,R0,qe,p135,Rs.ev,qb, *])
 ·dsimp only at hF
  cases hF;simp only[simprocAttr,R0,b135, *];refine W.mono (l135_1 a0 a1 lB (ei _ (ai rfl ?_))) ?_
  ·simp only[simprocAttr,R0, *]
  rintro _ e h ⟨rfl,hq⟩;simp only[simprocAttr,RR,RB];exact hq
def F131_2_B(p b:Int)(k:Int)(row:L1):Option (L1⊕L1):=(getI row k).bind fun x=>(chk (x*b)).bind fun m=>(remI m p).bind fun z=>(setI row k z).bind fun r=> some (.inl r)
def F131_2_D(k:Int)(row:L1):Option L1:=some row
def F131_3_C(out:L2)(at_:Int)(k:Int)(put:Bool):Option Bool:=if put=true then some false else(getI out k).bind fun o=>(F81 o).bind fun ld=> some (decide (at_ < ld))
def F131_3_B(p:Int)(out:L2)(own:L1)(at_:Int)(k:Int)(s:L2×Bool):Option ((L2×Bool)⊕(L2×Bool)):=
 (F131_3_C out at_ k s.2).bind fun c=>(if c=true then(app 24 s.1 [own]).bind fun n=> some (n,true)else some s).bind fun s2=>
 (getI out k).bind fun o=>(getI o at_).bind fun y=>(F136 p o own y).bind fun q=>(app 24 s2.1 [q]).bind fun n=> some (.inl (n,s2.2))
def F131_3_D(k:Int)(s:L2×Bool):Option (L2×Bool):=some s
def F131_1_B(p:Int)(rows:L2)(i:Int)(out:L2):Option (L2⊕L2):=
 (getI rows i).bind fun row=>(F134 p out row).bind fun own=>(F81 own).bind fun at_=> if at_ < 0 then some (.inl out)else
 (getI own at_).bind fun x=>(F135 p x).bind fun inv=>(forR 0 (own.length:Int) (F131_2_B p inv) F131_2_D own).bind fun own'=>
 (forR 0 (out.length:Int) (F131_3_B p out own' at_) F131_3_D ([],false)).bind fun s=> if s.2=true then some (.inl s.1)else(app 24 s.1 [own']).bind fun n=> some (.inl n)
def F131_1_D(i:Int)(out:L2):Option L2:=some out
def F131(p:Int)(rows:L2):Option L2:=forR 0 (rows.length:Int) (F131_1_B p rows) F131_1_D []
set_option maxHeartbeats 8000000 in
theorem d131(p:Int)(rows:L2){r:L2}(hF:F131 p rows=some r):∃v h',res A 131 [iI p,iL rows] Heap.empty=some (v,h')∧
  ∃k u vs,v=V.sl k u 0 r.length 1∧h'.ents[k]? =some (u,some vs)∧Rws h'.ents (fun _=> True) vs r:=by
 refine res_dp (f:=p131) rfl rfl rfl fun e hl he=>?_;have aA:=he 0 _ rfl;have aB:=he 1 _ rfl;have hl_0:e.length=102:=hl;clear he hl;show W A b131 e ⟨[],0⟩ _;unfold F131 at hF;simp only[simprocAttr, -Int.reduceNatCast',R1,b131,hl_0,aA,aB];show W A (.block 0 (.loop true b131_1)) _ _ _;rw[qj];refine qz hF _ rfl (fun i out e h=>∃ko uo vs,h.ents[ko]? =some (uo,some vs)∧Rws h.ents (fun _=> True) vs out∧e.length=102∧e.at 0=iI p∧e.at 1=iL rows∧e.at 5=V.sl ko uo 0 out.length 1∧e.at 6=iI i) ?_ ?_ ?_
 ·refine⟨0,0,[],rfl,.nil,?_⟩
  simp only[simprocAttr, -Int.reduceNatCast',R1,hl_0,aA,aB]
 ·clear hl_0 aA aB
  rintro i out e ⟨E,c⟩ ⟨ko,uo,vs,g1,g2,hl_1,aF,bN,aH,bB⟩ hlt hw s' ho;unfold F131_1_B at ho;simp only at g1 g2;have hko:ko < E.length:=gA g1;obtain⟨row,gr,ho⟩:=bS ho;obtain⟨ra,rb⟩:=qg gr;obtain⟨own,gown,ho⟩:=bS ho;have wown:tans A 134 [1] [iI p,iL out,iL row]=some (iL own):=t134 p out row gown;obtain⟨at_,gat,ho⟩:=bS ho;have wat:ans A 81 [iL own]=some (iI at_):=s81 own gat;have wfo:=g2.fz c g1;have wbr:=bare_one (α:=Int) own;have wfr:∀z:L1,∀c',frz ⟨E++[(c,some (z.map enc))],c'⟩ 16 (V.sl E.length c 0 z.length 1)=some (iL z):=fun z c'=> frz_row (qI _ _);have n5:=wfr own;by_cases hat:at_ < 0
  ·rw[if_pos hat]at ho
   have hE:=wA ho; subst hE;simp only[simprocAttr, -Int.reduceNatCast',R1,b131_1,hl_1,aF,bN,aH,bB,eq_true hlt,hw,ra,rb,wfo,wown,wbr,qN,qX,n5,wat,eq_true hat];refine ai rfl ⟨ko,uo,vs,(gC hko).trans g1,g2.frame fun k hk _=>⟨gC hk,trivial⟩,?_⟩;simp only[simprocAttr, -Int.reduceNatCast',R1,hl_1,aF,bN,aH,bB,hw]
  ·rw[if_neg hat]at ho
   obtain⟨x,gx,ho⟩:=bS ho;obtain⟨xa,xb⟩:=qg gx;have xc:=qY gx;obtain⟨inv,ginv,ho⟩:=bS ho;have winv:ans A 135 [iI p,iI x]=some (iI inv):=s135 p x ginv;obtain⟨own',gown',ho⟩:=bS ho;obtain⟨s,gs,ho⟩:=bS ho;have ox:ze none (List.drop at_.toNat (own.map enc))=some (iI x):=qw (by rw[gG,xb]; rfl);simp only[simprocAttr, -Int.reduceNatCast',R1,b131_1,hl_1,aF,bN,aH,bB,eq_true hlt,hw,ra,rb,wfo,wown,wbr,qN,qX,n5,wat,eq_false hat,xa,eq_true xc,qI,ox,winv];show W A (.block 2 (.loop true b131_2)) _ _ _;rw[qj];refine qz gown' _ rfl (fun k q e h=> q.length=own.length∧h=⟨E++[(c,some (q.map enc))],c+1⟩∧e.length=102∧e.at 0=iI p∧e.at 1=iL rows∧e.at 5=V.sl ko uo 0 out.length 1∧e.at 6=iI i∧e.at 7=V.sl E.length c 0 own.length 1∧e.at 8=iI at_∧e.at 9=iI inv∧e.at 10=iI k) ?_ ?_ ?_
   ·refine⟨rfl,rfl,?_⟩
    simp only[simprocAttr, -Int.reduceNatCast',R1,hl_1,aF,bN,aH,bB]
   ·clear hl_1 aF bN aH bB
    rintro k q e h ⟨hq,rfl,hl_1,aF,bN,aH,bB,bY,aP,bF,bQ⟩ aq hw2 s2 eY;unfold F131_2_B at eY;obtain⟨x3,dO,eY⟩:=bS eY;obtain⟨ej,eg⟩:=qg dO;obtain⟨m3,pl,eY⟩:=bS eY;have fj:=qu pl;obtain⟨z3,ng,eY⟩:=bS eY;obtain⟨sA,ep⟩:=rem_w ng;obtain⟨q2,pj,eY⟩:=bS eY;obtain⟨s31,s32,lm,s34,ll⟩:=jy pj;have hE:=wA eY; subst hE;have o3:ze none (List.drop k.toNat (q.map enc))=some (iI x3):=qw (by rw[gG,eg]; rfl);have dk:k < (own.length:Int):=aq;have tI:List.take k.toNat (q.map enc)++[iI z3]++List.drop (k.toNat+1) (q.map enc)=List.map enc q2:=ll;simp only[simprocAttr, -Int.reduceNatCast',R1,b131_2,hl_1,aF,bN,aH,bB,bY,aP,bF,bQ,hw2,eq_true aq,qI,set_last,ej,o3,fj,sA,ep,lm,tI];refine ai rfl ⟨by omega,rfl,?_⟩;simp only[simprocAttr, -Int.reduceNatCast',R1,hl_1,aF,bN,aH,bB,bY,aP,bF,bQ,hw2]
   ·clear hl_1 aF bN aH bB
    rintro k q e h ⟨hq,rfl,hl_1,aF,bN,aH,bB,bY,aP,bF,bQ⟩ mg t2 eY;unfold F131_2_D at eY;have hE:=wA eY; subst hE;simp only[simprocAttr, -Int.reduceNatCast',R1,b131_2,hl_1,aF,bN,aH,bB,bY,aP,bF,bQ,eq_false mg,le1];intro ht; subst ht;show W A (.block 4 (.loop true b131_3)) _ _ _;rw[qj];refine qz gs _ rfl (fun k s e h=>∃un vn,h.ents[E.length+1]? =some (un,some vn)∧Rws h.ents (fun k=> k≠E.length+1) vn s.1∧h.ents[E.length]? =some (c,some (q.map enc))∧(∀k,k < E.length→h.ents[k]? =E[k]?)∧e.length=102∧e.at 0=iI p∧e.at 1=iL rows∧e.at 5=V.sl ko uo 0 out.length 1∧e.at 6=iI i∧e.at 7=V.sl E.length c 0 q.length 1∧e.at 8=iI at_∧e.at 11=V.sl (E.length+1) un 0 s.1.length 1∧e.at 12=V.bool s.2∧e.at 13=iI k) ?_ ?_ ?_
    ·refine⟨c+1,[],ge2b ..,.nil,ge2a ..,fun k hk=> by rw[vE]; exact gC hk,?_⟩
     simp only[simprocAttr, -Int.reduceNatCast',R1,hl_1,aF,bN,aH,bB,bY,aP,bF,bQ,hq]
    ·clear hl_1 aF bN aH bB bY aP bF bQ
     rintro k ⟨nx,put⟩ e ⟨E3,c3⟩ ⟨un,vn,f1,f2,f3,f4,hl_1,aF,bN,aH,bB,bY,aP,aU,dE,dS⟩ mY pR s3 eX;unfold F131_3_B at eX;simp only at f1 f2 f3 f4 aU dE eX;obtain⟨cnd,gcnd,eX⟩:=bS eX;obtain⟨st,gst,eX⟩:=bS eX;obtain⟨o,go,eX⟩:=bS eX;obtain⟨oa,ob⟩:=qg go;have oc:=qY go;obtain⟨y,gy,eX⟩:=bS eX;obtain⟨ya,yb⟩:=qg gy;have yc:=qY gy;obtain⟨qq,gqq,eX⟩:=bS eX;have wqq:tans A 136 [1] [iI p,iL o,iL q,iI y]=some (iL qq):=t136 p o q y gqq;have wbq:=bare_one (α:=Int) qq;obtain⟨nn,gnn,eX⟩:=bS eX;have hE:=wA eX; subst hE;have hN1:E.length+1 < E3.length:=gA f1;have k1:E3[ko]? =some (uo,some vs):=(f4 ko hko).trans g1;obtain⟨v,v1,v2⟩:=g2.get ob;have ov:=qw v1;have oy:ze none (List.drop at_.toNat (o.map enc))=some (iI y):=qw (by rw[gG,yb]; rfl);have v3:RRep E3 (fun k=> k < E.length) v o:=v2.frame fun k hk _=>⟨f4 k hk,hk⟩
     -- in any memory that keeps the rows
     have step:∀ (E4:List (nO)) (c4 kq:Nat) (pD:List V),E4[E.length+1]? =some (kq,some pD)→Rws E4 (fun k=> k≠E.length+1) pD st.1→E4[E.length]? =some (c,some (q.map enc))→(∀k,k < E.length→E4[k]? =E[k]?)→
       E4[ko]? =some (uo,some vs)∧frz ⟨E4,c4⟩ 16 v=some (iL o)∧frz ⟨E4,c4⟩ 16 (V.sl E.length c 0 q.length 1)=some (iL q)∧
       za 1 24 (.sl (E.length+1) kq 0 st.1.length 1) 1 [V.sl E4.length c4 0 qq.length 1] ⟨E4++[(c4,some (qq.map enc))]++[(c4+1,some [V.sl E4.length c4 0 qq.length 1])],c4+1+1⟩=some (.sl (E.length+1) (c4+1+1) 0 (st.1.length+1) 1,⟨(E4++[(c4,some (qq.map enc))]++[(c4+1,some [V.sl E4.length c4 0 qq.length 1])]).set (E.length+1) (c4+1+1,some (pD++[V.sl E4.length c4 0 qq.length 1])),c4+1+1+1⟩)∧
       RRep E4 (fun k=> k < E.length) v o∧
       (((E4++[(c4,some (qq.map enc))]++[(c4+1,some [V.sl E4.length c4 0 qq.length 1])]).set (E.length+1) (c4+1+1,some (pD++[V.sl E4.length c4 0 qq.length 1])))[E.length+1]? =some (c4+1+1,some (pD++[V.sl E4.length c4 0 qq.length 1]))∧
       Rws ((E4++[(c4,some (qq.map enc))]++[(c4+1,some [V.sl E4.length c4 0 qq.length 1])]).set (E.length+1) (c4+1+1,some (pD++[V.sl E4.length c4 0 qq.length 1]))) (fun k=> k≠E.length+1) (pD++[V.sl E4.length c4 0 qq.length 1]) nn∧
       ((E4++[(c4,some (qq.map enc))]++[(c4+1,some [V.sl E4.length c4 0 qq.length 1])]).set (E.length+1) (c4+1+1,some (pD++[V.sl E4.length c4 0 qq.length 1])))[E.length]? =some (c,some (q.map enc))∧
       (∀k,k < E.length→((E4++[(c4,some (qq.map enc))]++[(c4+1,some [V.sl E4.length c4 0 qq.length 1])]).set (E.length+1) (c4+1+1,some (pD++[V.sl E4.length c4 0 qq.length 1])))[k]? =E[k]?)∧nn.length=st.1.length+1):=by
      intro E4 c4 kq pD a1 a2 a3 a4;have hN4:E.length+1 < E4.length:=gA a1;obtain⟨p1,p2,rfl⟩:=app_w gnn;have pre:∀x y (k:Nat),k < E4.length→(E4++[x]++[y])[k]? =E4[k]?:=fun x y k hk=> by rw[vE]; exact gC hk
      refine⟨(a4 ko hko).trans g1,(v2.frame (B':=fun _=> True) fun k hk _=>⟨a4 k hk,trivial⟩).fz c4 10,frz_row a3,zn (E:=E4++[(c4,some (qq.map enc))]++[(c4+1,some [V.sl E4.length c4 0 qq.length 1])]) ((pre _ _ _ hN4).trans a1) a2.len (by simpa using p1) (by simpa using p2),v2.frame fun k hk _=>⟨a4 k hk,hk⟩,qr (by simp; omega),?_,?_,fun k hk=>?_,by simp⟩
      ·exact(a2.frame fun k hk hne=>⟨(qt hne).trans (pre _ _ k hk),hne⟩).snoc ⟨_,_,rfl,(qt (by omega)).trans (ge2a ..),by omega⟩
      ·exact(qt (by omega)).trans ((pre _ _ _ (by omega)).trans a3)
      ·exact(qt (by omega)).trans ((pre _ _ k (by omega)).trans (a4 k hk))
     have hoc:k < (out.length:Int):=oc;cases put with
     |true=>
      unfold F131_3_C at gcnd;rw[if_pos rfl]at gcnd;cases gcnd;rw[if_neg wD]at gst;cases gst;obtain⟨b1,b2,b3,b4,b5,b6,b7,b8,b9,rU⟩:=step E3 c3 un vn f1 f2 f3 f4;simp only at b4 rU;obtain⟨kv,uv,rfl,w2,w3⟩:=b5;simp only[simprocAttr, -Int.reduceNatCast',R1,b131_3,hl_1,aF,bN,aH,bB,bY,aP,aU,dE,dS,pR,eq_true mY,oa,k1,ov,ya,eq_true yc,oy,w2,b2,b3,wqq,wbq,qN,qX,le1,qI,ge2a,ge2b,b4];refine ai rfl ⟨_,_,b6,b7,b8,b9,?_⟩;simp only[simprocAttr, -Int.reduceNatCast',R1,hl_1,aF,bN,aH,bB,bY,aP,aU,dE,dS,pR,rU]
     |false=>
      unfold F131_3_C at gcnd;rw[if_neg wD,go,Option.bind_some]at gcnd;obtain⟨ld,gld,gcnd⟩:=bS gcnd;have wld:ans A 81 [iL o]=some (iI ld):=s81 o gld;have hE:=wA gcnd; subst hE;have wfv:=(v2.frame (E':=E3) (B':=fun _=> True) fun k hk _=>⟨f4 k hk,trivial⟩).fz c3 10;by_cases hld:at_ < ld
      ·rw[if_pos (by simpa using hld)]at gst
       obtain⟨n1,pk,gst⟩:=bS gst;obtain⟨p1,p2,rfl⟩:=app_w pk;have hE:=wA gst; subst hE;have wap:za 1 24 (.sl (E.length+1) un 0 nx.length 1) 1 [V.sl E.length c 0 q.length 1] ⟨E3++[(c3,some [V.sl E.length c 0 q.length 1])],c3+1⟩=_:=zn (E:=E3++[(c3,some [V.sl E.length c 0 q.length 1])]) (by rw[gC hN1]; exact f1) f2.len (by simpa using p1) (by simpa using p2);have r1:Rws ((E3++[(c3,some [V.sl E.length c 0 q.length 1])]).set (E.length+1) (c3+1,some (vn++[V.sl E.length c 0 q.length 1]))) (fun k=> k≠E.length+1) (vn++[V.sl E.length c 0 q.length 1]) (nx++[q]):=
        (f2.frame fun k hk hne=>⟨(qt hne).trans (gC hk),hne⟩).snoc ⟨_,_,rfl,(qt (by omega)).trans ((gC (by omega)).trans f3),by omega⟩
       have hln:(nx++[q]).length=nx.length+1:=by simp
       obtain⟨b1,b2,b3,b4,b5,b6,b7,b8,b9,rU⟩:=step ((E3++[(c3,some [V.sl E.length c 0 q.length 1])]).set (E.length+1) (c3+1,some (vn++[V.sl E.length c 0 q.length 1]))) (c3+1+1) (c3+1) (vn++[V.sl E.length c 0 q.length 1]) (qr (by simp; omega)) r1 ((qt (by omega)).trans ((gC (by omega)).trans f3)) (fun k hk=>(qt (by omega)).trans ((gC (by omega)).trans (f4 k hk)));have hlb:((E3++[(c3,some [V.sl E.length c 0 q.length 1])]).set (E.length+1) (c3+1,some (vn++[V.sl E.length c 0 q.length 1]))).length=E3.length+1:=by simp
       have hge:=fun y z=> ge2b ((E3++[(c3,some [V.sl E.length c 0 q.length 1])]).set (E.length+1) (c3+1,some (vn++[V.sl E.length c 0 q.length 1]))) y z;simp only[hlb]at hge;simp only[hln,hlb]at b4 b6 b7 b8 b9 rU;obtain⟨kv,uv,rfl,w2,w3⟩:=b5;simp only[simprocAttr, -Int.reduceNatCast',R1,b131_3,hl_1,aF,bN,aH,bB,bY,aP,aU,dE,dS,pR,eq_true mY,oa,k1,ov,wfv,wld,eq_true hld,ya,eq_true yc,oy,w2,b1,b2,b3,wap,wqq,wbq,qN,qX,le1,hlb,hge,qI,ge2a,ge2b,b4];refine ai rfl ⟨_,_,b6,b7,b8,b9,?_⟩;simp only[simprocAttr, -Int.reduceNatCast',R1,hl_1,aF,bN,aH,bB,bY,aP,aU,dE,dS,pR,rU]
      ·rw[if_neg (by simpa using hld)]at gst
       have hE:=wA gst; subst hE;obtain⟨b1,b2,b3,b4,b5,b6,b7,b8,b9,rU⟩:=step E3 c3 un vn f1 f2 f3 f4;simp only at b4 rU;obtain⟨kv,uv,rfl,w2,w3⟩:=b5;simp only[simprocAttr, -Int.reduceNatCast',R1,b131_3,hl_1,aF,bN,aH,bB,bY,aP,aU,dE,dS,pR,eq_true mY,oa,k1,ov,wfv,wld,eq_false hld,ya,eq_true yc,oy,w2,b2,b3,wqq,wbq,qN,qX,le1,qI,ge2a,ge2b,b4];refine ai rfl ⟨_,_,b6,b7,b8,b9,?_⟩;simp only[simprocAttr, -Int.reduceNatCast',R1,hl_1,aF,bN,aH,bB,bY,aP,aU,dE,dS,pR,rU]
    ·clear hl_1 aF bN aH bB bY aP bF bQ
     rintro k ⟨nx,put⟩ e ⟨E3,c3⟩ ⟨un,vn,f1,f2,f3,f4,hl_1,aF,bN,aH,bB,bY,aP,aU,dE,dS⟩ nS t3 eX;unfold F131_3_D at eX;have hE:=wA eX; subst hE;simp only at f1 f2 f3 f4 aU dE;have hN1:E.length+1 < E3.length:=gA f1;cases put with
     |true=>
      simp only[simprocAttr, -Int.reduceNatCast',R1,b131_3,hl_1,aF,bN,aH,bB,bY,aP,aU,dE,dS,eq_false nS,hw];intro ht; subst ht;simp only[if_true]at ho;have hE:=wA ho; subst hE;refine ai rfl ⟨E.length+1,un,vn,f1,f2.frame fun k hk _=>⟨rfl,trivial⟩,?_⟩;simp only[simprocAttr, -Int.reduceNatCast',R1,hl_1,aF,bN,aH,bB,bY,aP,aU,dE,dS]
     |false=>
      simp only[simprocAttr, -Int.reduceNatCast',R1,b131_3,hl_1,aF,bN,aH,bB,bY,aP,aU,dE,dS,eq_false nS,hw,le1,qI];intro ht; subst ht;rw[if_neg wD]at ho;obtain⟨n1,pk,ho⟩:=bS ho;obtain⟨p1,p2,rfl⟩:=app_w pk;have hE:=wA ho; subst hE;have wap:za 1 24 (.sl (E.length+1) un 0 nx.length 1) 1 [V.sl E.length c 0 q.length 1] ⟨E3++[(c3,some [V.sl E.length c 0 q.length 1])],c3+1⟩=_:=zn (E:=E3++[(c3,some [V.sl E.length c 0 q.length 1])]) (by rw[gC hN1]; exact f1) f2.len (by simpa using p1) (by simpa using p2);have r1:Rws ((E3++[(c3,some [V.sl E.length c 0 q.length 1])]).set (E.length+1) (c3+1,some (vn++[V.sl E.length c 0 q.length 1]))) (fun k=> k≠E.length+1) (vn++[V.sl E.length c 0 q.length 1]) (nx++[q]):=
       (f2.frame fun k hk hne=>⟨(qt hne).trans (gC hk),hne⟩).snoc ⟨_,_,rfl,(qt (by omega)).trans ((gC (by omega)).trans f3),by omega⟩
      simp only[simprocAttr, -Int.reduceNatCast',R1,b131_3,hl_1,aF,bN,aH,bB,bY,aP,aU,dE,dS,eq_false nS,hw,le1,qI,wap];refine ai rfl ⟨E.length+1,c3+1,_,qr (by simp; omega),r1.frame fun k hk _=>⟨rfl,trivial⟩,?_⟩;simp only[simprocAttr, -Int.reduceNatCast',R1,hl_1,aF,bN,aH,bB,bY,aP,aU,dE,dS,wR]
 ·clear hl_0 aA aB
  rintro i out e ⟨E,c⟩ ⟨ko,uo,vs,g1,g2,hl_1,aF,bN,aH,bB⟩ hge t1 ho;unfold F131_1_D at ho;have hE:=wA ho; subst hE;simp only at g1 g2;simp only[simprocAttr, -Int.reduceNatCast',R1,b131_1,hl_1,aF,bN,aH,bB,eq_false hge];intro ht; subst ht;refine ai (fun _=> trivial) ⟨_,?_,ko,uo,vs,rfl,g1,g2⟩;simp only[simprocAttr, -Int.reduceNatCast',R1,qe,p131,Rs.ev,hl_1,aH]
theorem s131(p:Int)(rows:L2){r:L2}(hF:F131 p rows=some r):ans A 131 [iI p,iL rows]=some (enc r):=by
 obtain⟨_,h',h1,k,u,vs,rfl,h2,h3⟩:=d131 p rows hF;have:=h3.fz h'.clk h2;unfold ans;rw[h1];exact this
def F122_1_B(a0:Int)(a1:Int)(a2:L2)(aL:Int)(s:L2×Int):Option ((L2×Int)⊕(L2×Int)):=
 match s with
 |(aC,aE)=>
  (mkL 8 a1 0).bind fun l5=>
  (getI l5 aL).bind fun x7=>
  (setI l5 aL 1).bind fun l9=>
  (getI a2 aL).bind fun bA=>
  (F94 bA).bind fun bD=>
  (app 8 bD l9).bind fun rJ=>
  (app 24 aC [rJ]).bind fun rI=>
  some (.inl (rI,(bA.length:Int)))
def F122_1_D(a0:Int)(a1:Int)(a2:L2)(aL:Int)(s:L2×Int):Option (L2×Int):=
 match s with
 |(aC,aE)=>
  some (aC,aE)
def xl(eG:Int)(dN:L2)(rF:Int)(bX:L2):Option ((L2)⊕(L2)):=
 (getI dN rF).bind fun iV=>
(F81 iV).bind fun iU=>
if eG≤iU then
 (slI iV eG (iV.length:Int)).bind fun z7=>
 (F94 z7).bind fun fU=>
 (app 24 bX [fU]).bind fun l36=>
 some (.inl l36)
else
 some (.inl bX)
def xT(eG:Int)(dN:L2)(rF:Int)(bX:L2):Option (L2):=
 some bX
def F122(a0:Int)(a1:Int)(a2:L2):Option L2:=
 (forR 0 a1 (F122_1_B a0 a1 a2) (F122_1_D a0 a1 a2) ([],0)).bind fun t19=> match t19 with
  |(aD,eG)=>
   (F131 a0 aD).bind fun dN=>
   (forR 0 (dN.length:Int) (xl eG dN) (xT eG dN) ([]:L2)).bind fun cE=>
   some cE
def I122_1(a0:Int)(a1:Int)(a2:L2)(aL:Int)(s:L2×Int)(e:Env)(h:Heap):Prop:=
 match s with
 |(aC,aE)=>
  ∃u2 k3:Nat,h=⟨[(u2,some (aC.map enc))],k3⟩∧e.length=68∧e.at 0=iI a0∧e.at 1=iI a1∧e.at 2=iL a2∧e.at 7=V.sl 0 u2 0 aC.length 1∧e.at 8=iI aE∧e.at 9=iI aL
def P122_1(a0:Int)(a1:Int)(a2:L2)(t:L2×Int)(x:Ex)(e:Env)(h:Heap):Prop:=
 match t with
 |(aD,eG)=>
  x= .normal∧∃u2 k3:Nat,h=⟨[(u2,some (aD.map enc))],k3⟩∧e.length=68∧e.at 0=iI a0∧e.at 7=V.sl 0 u2 0 aD.length 1∧e.at 8=iI eG
theorem l122_1(a0:Int)(a1:Int)(a2:L2){lo:Int}{s:L2×Int}{t:L2×Int}(hF:forR lo a1 (F122_1_B a0 a1 a2) (F122_1_D a0 a1 a2) s=some t){e:Env}{h:Heap}(hI:I122_1 a0 a1 a2 lo s e h):W A c122_1 e h (P122_1 a0 a1 a2 t):=by
 show W A (.block 0 (.loop false b122_1)) e h _;rw[qj];refine qz hF 1 (by rcases s with⟨_,_⟩; obtain⟨_,_,rfl,_⟩:=hI; rfl) (I122_1 a0 a1 a2) hI ?_ ?_
 ·rintro aL ⟨aC,aE⟩ e h ⟨u2,k3,rfl,h_1⟩ hlt hw o ho
  unfold F122_1_B at ho;dsimp only at ho;obtain⟨l5,bv,ho⟩:=bS ho;obtain⟨iE,iD,rB,lG,mF⟩:=mkL_w bv;replace mF:(List.replicate (Int.toNat a1) [iI 0]).flatten=List.map enc l5:=mF;obtain⟨x7,dF,ho⟩:=bS ho;obtain⟨mR,mE⟩:=qg dF;have e7:=qY dF;replace e7:aL < (((Int.toNat a1):Nat):Int):=by first|exact e7|(simp only[lG]at e7 ⊢; exact e7)
  have w8d:List.drop (Int.toNat aL) (l5.map enc)=(iI x7)::List.drop ((Int.toNat aL)+1) (l5.map enc):=jf mE;obtain⟨l9,gl9,ho⟩:=bS ho;obtain⟨iZ,iK,sU,iJ,pQ⟩:=jy gl9;replace pQ:List.take (Int.toNat aL) (l5.map enc)++[iI 1]++List.drop (Int.toNat aL+1) (l5.map enc)=List.map enc l9:=pQ;obtain⟨bA,cM,ho⟩:=bS ho;obtain⟨fY,fX⟩:=qg cM;obtain⟨bD,cD,ho⟩:=bS ho;have mT:tans A 94 [1] [iL bA]=some (iL bD):=t94 bA cD;have s6:=qX (α:=Int) bD;obtain⟨rJ,oV,ho⟩:=bS ho;have g8:=fun a b c d e=> qF (α:=Int) (n:=bD.length) (m:=(Int.toNat a1)) (ds:=List.map enc l9) oV (by first|rfl|simp only[lG,iJ]) (by first|rfl|simp only[lG,iJ]) rfl a b c d e;have kj:=qZ oV;obtain⟨rI,lZ,ho⟩:=bS ho;have rE:=fun a b c d e=> qF (α:=L1) (n:=aC.length) (m:=1) (ds:=[iL rJ]) lZ (by first|rfl|simp only[lG,iJ]) (by first|rfl|simp only[lG,iJ]) rfl a b c d e;have kh:=qZ lZ;cases ho;simp only[simprocAttr, -Int.reduceNatCast',R0,b122_1,h_1,eq_true hlt,hw,iE,iD,rB,mF,mR,mE,e7,w8d,iZ,iK,sU,pQ,fY,fX,mT,s6,qK (α:=Int) (l:=l9) (n:=(Int.toNat a1)) (by first|rfl|simp only[lG,iJ]),eq_true (qH (l:=l9) (n:=(Int.toNat a1)) (by first|rfl|simp only[lG,iJ])),g8,qM (α:=Int) rJ,rE];refine ai rfl (ei _ (ei _ (ai rfl ?_)));simp only[simprocAttr, -Int.reduceNatCast',R0,h_1,eq_true hlt,hw,iE,iD,rB,mF,mR,mE,e7,w8d,iZ,iK,sU,pQ,fY,fX,mT,s6,qK (α:=Int) (l:=l9) (n:=(Int.toNat a1)) (by first|rfl|simp only[lG,iJ]),eq_true (qH (l:=l9) (n:=(Int.toNat a1)) (by first|rfl|simp only[lG,iJ])),g8,qM (α:=Int) rJ,rE,lG,iJ]
 ·rintro aL ⟨aC,aE⟩ e h ⟨u2,k3,rfl,h_1⟩ hge t1 ho
  unfold F122_1_D at ho;dsimp only at ho;cases ho;simp only[simprocAttr, -Int.reduceNatCast',R0,b122_1,h_1,eq_false hge];intro ht; subst ht;refine ai rfl (ei _ (ei _ (ai rfl ?_)));simp only[simprocAttr, -Int.reduceNatCast',R0,h_1,eq_false hge]
theorem d122(a0:Int)(a1:Int)(a2:L2){r:L2}(hF:F122 a0 a1 a2=some r):∃v h',res A 122 [iI a0,iI a1,iL a2] Heap.empty=some (v,h')∧∃K,Deep.rep h' v r K:=by
 refine res_dp (f:=p122) rfl rfl rfl fun e hl he=>?_;have aA:=he 0 _ rfl;have aB:=he 1 _ rfl;have aN:=he 2 _ rfl;have hl_0:e.length=68:=hl;clear he hl;show W A b122 e ⟨[],0⟩ _;unfold F122 at hF;obtain⟨⟨aD,eG⟩,oO,hF⟩:=bS hF;dsimp only at hF;simp only[simprocAttr, -Int.reduceNatCast',R0,b122, *];refine W.mono (l122_1 a0 a1 a2 oO (ei _ (ei _ (ai rfl ?_)))) ?_
 ·simp only[simprocAttr, -Int.reduceNatCast',R0, *]
 rintro _ e _ ⟨rfl,u2,k3,rfl,hl_4,az,tQ,au⟩;obtain⟨dN,eT,hF⟩:=bS hF;have w21:=s131 a0 aD eT;obtain⟨cE,pT,hF⟩:=bS hF;have hE:=wA hF; subst hE;simp only[simprocAttr, -Int.reduceNatCast',R0,qM (α:=L1) aD, *];show W A (.block 2 (.loop true b122_2)) _ _ _;rw[qj];refine qz pT _ rfl (fun i s e h=>∃v,∃K:Ks,Deep.rep h v s K∧e.length=68∧e.at 8=iI eG∧e.at 11=iL dN∧e.at 12=v∧e.at 13=iI i) ?_ ?_ ?_
 ·refine⟨V.sl 1 k3 0 0 1,fun k=> k=1∨False,rep_at (α:=L1) (l:=[]) (K:=fun _=> False) (h:=⟨[(0,none),(k3,some [])],k3+1⟩) rfl (fun _ x=> x) (fun x=> x),?_⟩
  simp only[simprocAttr, -Int.reduceNatCast',R0, *]
 ·clear hl_4 az tQ au hl_0 aA aB aN oO
  rintro i s e ⟨E,c⟩ ⟨v,K,g1,hl_1,aP,aU,dE,dS⟩ hlt hw oo ho;unfold xl at ho;obtain⟨iV,kE,ho⟩:=bS ho;obtain⟨iw,iv⟩:=qg kE;obtain⟨iU,lX,ho⟩:=bS ho;have w29:=s81 iV lX;by_cases c30:eG≤iU
  ·rw[if_pos c30]at ho
   obtain⟨z7,pt,ho⟩:=bS ho;have w32:sliceV 1 (iL iV) (some (iI eG)) none=some (iL z7):=sliceV_w (α:=Int) One.one pt (.inr rfl) (.inl ⟨rfl,rfl⟩);obtain⟨fU,iA,ho⟩:=bS ho;have w34:tans A 94 [1] [iL z7]=some (iL fU):=t94 z7 iA;obtain⟨l36,pq,ho⟩:=bS ho;have hE:=wA ho; subst hE;have ln:∀ (x y:nO) k,k < E.length→(E++[x]++[y])[k]? =E[k]?:=fun x y k q=> by rw[vE]; exact gC q
   obtain⟨v',E',c',K',p1,p2,p3,p4,p5⟩:=append_rep (E:=E++[(c,some (fU.map enc))]++[(c+1,some [V.sl E.length c 0 fU.length 1])]) (c:=c+1+1) (Deep.frame g1 fun k q=> ln _ _ k (Deep.bd g1 q)) (jT (l:=fU) (ge2a ..) fun k=> yA) (fun k q e=> by have:=Deep.bd g1 q; simp only at this; omega) pq;simp only[simprocAttr, -Int.reduceNatCast',R0,b122_2,qN,qX,qI,le1,ge2a,ge2b,p1, *];refine ai rfl ⟨v',K',p2,?_⟩;simp only[simprocAttr, -Int.reduceNatCast',R0, *]
  ·rw[if_neg c30]at ho
   have hE:=wA ho; subst hE;simp only[simprocAttr, -Int.reduceNatCast',R0,b122_2, *];refine ai rfl ⟨v,K,g1,?_⟩;simp only[simprocAttr, -Int.reduceNatCast',R0, *]
 ·clear hl_4 az tQ au hl_0 aA aB aN oO
  rintro i s e ⟨E,c⟩ ⟨v,K,g1,hl_1,aP,aU,dE,dS⟩ hge t1 ho;unfold xT at ho;have hE:=wA ho; subst hE;simp only[simprocAttr, -Int.reduceNatCast',R0,b122_2, *];intro ht; subst ht;refine ai (fun _=> trivial) ⟨v,?_,K,g1⟩;simp only[simprocAttr, -Int.reduceNatCast',R0,qe,p122,Rs.ev, *]
theorem x122(a0:Int)(a1:Int)(a2:L2){r:L2}(hF:F122 a0 a1 a2=some r):tans A 122 [1,1] [iI a0,iI a1,iL a2]=some (enc r):=jw (α:=L2) (by decide) (d122 a0 a1 a2 hF)
def F98(a0:qa)(a1:Int):Option L2:=
 (F99 a0 a1).bind fun x1=>
 (F76 a0 a1).bind fun x3=>
 (F122 a0.P x1 x3).bind fun x5=>
 some x5
theorem d98(a0:qa)(a1:Int){r:L2}(hF:F98 a0 a1=some r):∃v h',res A 98 [(eC a0),iI a1] Heap.empty=some (v,h')∧∃K,Deep.rep h' v r K:=by
 refine res_dp (f:=p98) rfl rfl rfl fun e hl he=>?_;have aA:=he 0 _ rfl;have aB:=he 1 _ rfl;have hl_0:e.length=14:=hl;clear he hl;show W A b98 e ⟨[],0⟩ _;unfold F98 at hF;obtain⟨x1,bI,hF⟩:=bS hF;have w1:=s99 a0 a1 bI;obtain⟨x2,fK,hF⟩:=bS hF;have w2:=s76 a0 a1 fK;obtain⟨x3,dO,hF⟩:=bS hF;have w3:tans A 122 [1,1] [iI a0.P,iI x1,iL x2]=some (iL x3):=x122 a0.P x1 x2 dO;have hE:=wA hF; subst hE;obtain⟨v,⟨E1,c1⟩,K,t1,t2,t3,t4,t5⟩:=thawD (α:=L2) (by decide) x3 ⟨[(0,none)],1⟩;have t1':thaw 16 [1,1] (iL x3) ⟨[(0,none)],1⟩=some (v,⟨E1,c1⟩):=t1;simp only[simprocAttr, -Int.reduceNatCast',R0,b98,qN,t1', *];refine ai (fun _=> trivial) ⟨v,?_,K,t2⟩;simp only[simprocAttr, -Int.reduceNatCast',R0,qe,p98,Rs.ev, *]
theorem x98(a0:qa)(a1:Int){r:L2}(hF:F98 a0 a1=some r):tans A 98 [1,1] [(eC a0),iI a1]=some (enc r):=jw (α:=L2) (by decide) (d98 a0 a1 hF)
theorem s98(a0:qa)(a1:Int){r:L2}(hF:F98 a0 a1=some r):ans A 98 [(eC a0),iI a1]=some (enc r):=ans_of_deep (α:=L2) (by decide) (d98 a0 a1 hF)
def F424_1_S(a1:Int)(x1:T2 Int qm)(s:(List U8)×Int×Int×L1×Int):Option (((List U8)×Int×Int×L1×Int)⊕((List U8)×Int×Int×L1)):=
 match s with
 |(bW,bV,bU,bJ,kS)=>
  if 0 < kS then
   if x1.a=0 then
    (F416 ⟨bW,bV,bU⟩ a1).bind fun x9=>
    (app 8 bJ [x9.a]).bind fun dg=>
    (chk (kS - 1)).bind fun bD=>
    some (.inl (x9.b.code,x9.b.at_,x9.b.hash,dg,bD))
   else
    (F416 ⟨bW,bV,bU⟩ 2).bind fun cO=>
    if cO.a=0 then
     (F416 cO.b a1).bind fun dU=>
     (app 8 bJ [dU.a]).bind fun z8=>
     (chk (kS - 1)).bind fun dA=>
     some (.inl (dU.b.code,dU.b.at_,dU.b.hash,z8,dA))
    else
     (app 8 bJ [0]).bind fun i6=>
     (chk (kS - 1)).bind fun iG=>
     some (.inl (cO.b.code,cO.b.at_,cO.b.hash,i6,iG))
  else
   some (.inr (bW,bV,bU,bJ))
def F424(src:qm)(a1:Int)(a2:Int):Option (T2 L1 qm):=
 (F416 src 3).bind fun x1=>
 (qA (F424_1_S a1 x1) (x1.b.code,x1.b.at_,x1.b.hash,[],a2)).bind fun u7=> match u7 with
  |(cJ,cI,cH,bZ)=>
   some ⟨bZ,⟨cJ,cI,cH⟩⟩
def I424_1(a1:Int)(x1:T2 Int qm)(s:(List U8)×Int×Int×L1×Int)(e:Env)(h:Heap):Prop:=
 match s with
 |(bW,bV,bU,bJ,kS)=>
  ∃u4 k5:Nat,h=⟨[(0,some [iL bW,iI bV,V.int .u64 bU]),(u4,some (bJ.map enc))],k5⟩∧e.length=33∧e.at 0=V.ptr 0 0 0∧e.at 1=iI a1∧e.at 2=iI kS∧e.at 7=V.sl 1 u4 0 bJ.length 1∧e.at 8=iI x1.a
def P424_1(a1:Int)(x1:T2 Int qm)(t:(List U8)×Int×Int×L1)(x:Ex)(e:Env)(h:Heap):Prop:=
 match t with
 |(cJ,cI,cH,bZ)=>
  x= .normal∧∃u4 k5:Nat,h=⟨[(0,some [iL cJ,iI cI,V.int .u64 cH]),(u4,some (bZ.map enc))],k5⟩∧e.length=33∧e.at 7=V.sl 1 u4 0 bZ.length 1
theorem l424_1(a1:Int)(x1:T2 Int qm){s:(List U8)×Int×Int×L1×Int}{t:(List U8)×Int×Int×L1}(hF:qA (F424_1_S a1 x1) s=some t){e:Env}{h:Heap}(hI:I424_1 a1 x1 s e h):W A c424_1 e h (P424_1 a1 x1 t):=by
 show W A (.block 0 (.loop false b424_1)) e h _;rw[qj];refine zi hF 2 (by rcases s with⟨_,_,_,_,_⟩; obtain⟨_,_,rfl,_⟩:=hI; rfl) (I424_1 a1 x1) hI ?_
 ·rintro⟨bW,bV,bU,bJ,kS⟩ e h ⟨u4,k5,rfl,h_3⟩ o ho
  unfold F424_1_S at ho;dsimp only at ho;by_cases c7:0 < kS
  ·rw[if_pos c7]at ho
   by_cases c8:x1.a=0
   ·rw[if_pos c8]at ho
    obtain⟨x9,eJ,ho⟩:=bS ho;have pC:xans A 416 [iL bW,iI bV,V.int .u64 bU] [iI a1]=some (iI x9.a,(eS x9.b)):=s416 ⟨bW,bV,bU⟩ a1 eJ;obtain⟨dg,ch,ho⟩:=bS ho;have pP:=fun a b c d e=> qF (α:=Int) (n:=bJ.length) (m:=1) (ds:=[iI x9.a]) ch (by first|rfl|simp) (by first|rfl|simp) rfl a b c d e;have w11l:=qZ ch;obtain⟨bD,cD,ho⟩:=bS ho;have fh:=qu cD;cases ho;simp only[simprocAttr,R0,b424_1,qf, *];refine ai rfl (ei _ (ei _ (ai rfl ?_)));simp only[simprocAttr,R0,qf, *]
   ·rw[if_neg c8]at ho
    obtain⟨cO,eF,ho⟩:=bS ho;have g8:xans A 416 [iL bW,iI bV,V.int .u64 bU] [iI 2]=some (iI cO.a,(eS cO.b)):=s416 ⟨bW,bV,bU⟩ 2 eF;by_cases cu:cO.a=0
    ·rw[if_pos cu]at ho
     obtain⟨dU,eL,ho⟩:=bS ho;have kg:xans A 416 (eS cO.b) [iI a1]=some (iI dU.a,(eS dU.b)):=s416 cO.b a1 eL;obtain⟨z8,oT,ho⟩:=bS ho;have e9:=fun a b c d e=> qF (α:=Int) (n:=bJ.length) (m:=1) (ds:=[iI dU.a]) oT (by first|rfl|simp) (by first|rfl|simp) rfl a b c d e;have kf:=qZ oT;obtain⟨dA,dL,ho⟩:=bS ho;have fg:=qu dL;cases ho;simp only[simprocAttr,R0,b424_1,qf,qf, *];refine ai rfl (ei _ (ei _ (ai rfl ?_)));simp only[simprocAttr,R0,qf,qf, *]
    ·rw[if_neg cu]at ho
     obtain⟨i6,pZ,ho⟩:=bS ho;have sL:=fun a b c d e=> qF (α:=Int) (n:=bJ.length) (m:=1) (ds:=[iI 0]) pZ (by first|rfl|simp) (by first|rfl|simp) rfl a b c d e;have w22l:=qZ pZ;obtain⟨iG,kF,ho⟩:=bS ho;have ff:=qu kF;cases ho;simp only[simprocAttr,R0,b424_1,qf, *];refine ai rfl (ei _ (ei _ (ai rfl ?_)));simp only[simprocAttr,R0,qf, *]
  ·rw[if_neg c7]at ho
   cases ho;simp only[simprocAttr,R0,b424_1, *];intro ht; subst ht;simp only[simprocAttr,RR,RB];refine ai rfl (ei _ (ei _ (ai rfl ?_)));simp only[simprocAttr,R0, *]
theorem s424(src:qm)(a1:Int)(a2:Int){r:T2 L1 qm}(hF:F424 src a1 a2=some r):xans A 424 (eS src) [iI a1,iI a2]=some (iL r.a,(eS r.b)):=by
 refine xC (f:=p424) rfl rfl rfl fun e hl h0 he=>?_;have aA:e.at 0=V.ptr 0 0 0:=h0;have aB:e.at 1=iI a1:=he 0 _ rfl;have aN:e.at 2=iI a2:=he 1 _ rfl;have hl_0:e.length=33:=hl;clear h0 he hl;show W A b424 e ⟨[(0,some (eS src))],1⟩ _;unfold F424 at hF;obtain⟨x1,bI,hF⟩:=bS hF;have w2:xans A 416 (eS src) [iI 3]=some (iI x1.a,(eS x1.b)):=s416 src 3 bI;obtain⟨⟨cJ,cI,cH,bZ⟩,nD,hF⟩:=bS hF;dsimp only at hF;simp only[simprocAttr,R0,b424,qf, *];refine W.mono (l424_1 a1 x1 nD (ei _ (ei _ (ai rfl ?_)))) ?_
 ·simp only[simprocAttr,R0,qf, *]
 rintro _ e _ ⟨rfl,u4,k5,rfl,h_6⟩;cases hF;simp only[simprocAttr,R0, *];exact zu (by simp only[simprocAttr,R0,qe,p424,Rs.ev,qb,frzs (α:=Int) bZ,qM (α:=Int) bZ, *])
def F417_2_S(p:Int)(dims:L1)(cyc:L2)(n:Int)(s:(qm×L2)×Int):Option (((qm×L2)×Int)⊕(qm×L2)):=
 (getI dims n).bind fun d=> if s.2 < d then(F424 s.1.1 p (cyc.length:Int)).bind fun x=>(chk (n - 1)).bind fun m=>(getI dims m).bind fun w=>(F80 p cyc x.a w).bind fun y=>(app 24 s.1.2 [y]).bind fun l=>(chk (s.2+1)).bind fun i=> some (.inl ((x.b,l),i))else some (.inr s.1)
def F417_1_B(p:Int)(dims:L1)(n:Int)(s:qm×qa):Option ((qm×qa)⊕(qm×qa)):=
 (chk (n - 1)).bind fun m=>(F98 s.2 m).bind fun cyc=>(qA (F417_2_S p dims cyc n) ((s.1,[]),0)).bind fun t=>(getI dims n).bind fun d=>(app 8 s.2.D [d]).bind fun ds=>(app 24 s.2.M [t.2]).bind fun ms=> some (.inl (t.1,⟨s.2.P,ds,ms⟩))
def F417_1_D(n:Int)(s:qm×qa):Option (qm×qa):=some s
def F417(src:qm)(a1:Int)(a2:L1):Option (T2 qa qm):=(getI a2 0).bind fun d0=>(forR 1 (a2.length:Int) (F417_1_B a1 a2) F417_1_D (src,⟨a1,[d0],[]⟩)).bind fun s=> some ⟨s.2,s.1⟩
set_option maxHeartbeats 8000000 in
theorem s417(src:qm)(a1:Int)(a2:L1){r:T2 qa qm}(hF:F417 src a1 a2=some r):xans A 417 (eS src) [iI a1,iL a2]=some ((eC r.a),(eS r.b)):=by
 refine xC (f:=p417) rfl rfl rfl fun e hl h0 he=>?_;have aA:e.at 0=V.ptr 0 0 0:=h0;have aB:e.at 1=iI a1:=he 0 _ rfl;have aN:e.at 2=iL a2:=he 1 _ rfl;have hl_0:e.length=70:=hl;clear h0 he hl;show W A b417 e ⟨[(0,some (eS src))],1⟩ _;unfold F417 at hF;obtain⟨d0,gd0,hF⟩:=bS hF;obtain⟨da,db⟩:=qg gd0;replace db:a2[0]? =some d0:=db;obtain⟨s1,gt,hF⟩:=bS hF;have hE:=wA hF; subst hE;simp only[simprocAttr, -Int.reduceNatCast',R0,b417,hl_0,aA,aB,aN,da,db];show W A (.block 0 (.loop true b417_1)) _ _ _;rw[qj];refine qz gt _ rfl (fun n s e h=> h.ents[0]? =some (0,some [V.isl (List.map enc s.1.code),iI s.1.at_,V.int .u64 s.1.hash])∧h.ents[1]? =some (1,some [iI 0,V.nils,V.nils])∧(∃ud um,h.ents[2]? =some (ud,some (List.map enc s.2.D))∧h.ents[3]? =some (um,some (List.map enc s.2.M))∧h.ents[4]? =some (4,some [iI s.2.P,V.sl 2 ud 0 s.2.D.length 1,V.sl 3 um 0 s.2.M.length 1]))∧e.length=70∧e.at 0=V.ptr 0 0 0∧e.at 1=iI a1∧e.at 2=iL a2∧e.at 6=V.ptr 1 1 0∧e.at 7=V.ptr 4 4 0∧e.at 8=iI n) ?_ ?_ ?_
 ·refine⟨rfl,rfl,⟨2,3,rfl,rfl,rfl⟩,?_⟩
  simp only[simprocAttr, -Int.reduceNatCast',R0,hl_0,aA,aB,aN]
 ·clear hl_0 aA aB aN gt
  rintro n ⟨s,x⟩ e ⟨E,c⟩ ⟨g0,g1,⟨ud,um,g2,g3,g4⟩,hl_1,aF,bN,cY,bB,bY,aP⟩ hlt hw oo ho;simp only at g0 g1 g2 g3 g4;unfold F417_1_B at ho;simp only at ho;obtain⟨m,gm,ho⟩:=bS ho;have wm:=qu gm;obtain⟨cyc,gc,ho⟩:=bS ho;have wc:tans A 98 [1,1] [(eC x),iI m]=some (iL cyc):=x98 x m gc;obtain⟨⟨s',rows⟩,gl,ho⟩:=bS ho;obtain⟨d,gd,ho⟩:=bS ho;obtain⟨dda,ddb⟩:=qg gd;obtain⟨ds,gds,ho⟩:=bS ho;obtain⟨ms,gms,ho⟩:=bS ho;have hE:=wA ho; subst hE;have hE4:4 < E.length:=gA g4;have z2:frz ⟨E,c⟩ 15 (V.sl 2 ud 0 x.D.length 1)=some (iL x.D):=frzE (α:=Int) g2 10;have z3:frz ⟨E,c⟩ 15 (V.sl 3 um 0 x.M.length 1)=some (iL x.M):=frzE (α:=L2) g3 10;obtain⟨v,⟨E1,c1⟩,K,t1,t2,t3,t4,t5⟩:=thawD (α:=L2) (by decide) cyc ⟨E,c⟩;have t1':thaw 16 [1,1] (iL cyc) ⟨E,c⟩=some (v,⟨E1,c1⟩):=t1;have bw:bare 16 [1,1] (iL cyc)=true:=bareD (α:=L2) (by decide) cyc;simp only at t3 t4 t5;simp only[simprocAttr, -Int.reduceNatCast',R0,b417_1,hl_1,aF,bN,cY,bB,bY,aP,eq_true hlt,hw,wm,g4,z2,z3,qN,wc,bw,Bool.or_true,t1',qI];refine W.mono (Q:=fun x' e h=> x'= .normal∧∃uq,h.ents[0]? =some (0,some [V.isl (List.map enc s'.code),iI s'.at_,V.int .u64 s'.hash])∧h.ents[1]? =E[1]?∧h.ents[2]? =E[2]?∧h.ents[3]? =E[3]?∧h.ents[4]? =E[4]?∧h.ents[E1.length]? =some (uq,some (rows.map enc))∧e.length=70∧e.at 0=V.ptr 0 0 0∧e.at 1=iI a1∧e.at 2=iL a2∧e.at 6=V.ptr 1 1 0∧e.at 7=V.ptr 4 4 0∧e.at 8=iI n∧e.at 10=V.sl E1.length uq 0 rows.length 1) ?_ ?_
  rotate_left
  ·rintro _ e ⟨E2,c2⟩ ⟨rfl,uq,q0,q1,q2,q3,q4,q6,hl_2,dH,ax,fJ,av,fI,gX,cZ⟩
   simp only at q0 q1 q2 q3 q4 q6;rw[g1]at q1; rw[g2]at q2; rw[g3]at q3; rw[g4]at q4;have hE2:E1.length < E2.length:=gA q6;have n4:∀y z,((E2++[y]).set 2 z)[4]? =_:=fun y z=>(qT (by omega) (by omega)).trans q4;have p1:∀y c,za 1 8 (.sl 2 ud 0 x.D.length 1) 1 [iI d] ⟨E2++[y],c⟩=_:=fun y c=> appE (α:=Int) (a:=d) (l2:=ds) ((gC (by omega)).trans q2) gds;have b4:∀ (y z w:nO),(((E2++[y]).set 2 z).set 4 w)[4]? =some w:=fun y z w=> qr (by simp; omega);have tq:∀y z w c,take 16 [] (.sl E1.length uq 0 rows.length 1) ⟨((E2++[y]).set 2 z).set 4 w,c⟩=_:=fun y z w c=> takeE (α:=L1) ((qt (by omega)).trans ((qT (by omega) (by omega)).trans q6)) 11;have p2:∀y z w u y' c,za 1 24 (.sl 3 um 0 x.M.length 1) 1 [iL rows] ⟨(((E2++[y]).set 2 z).set 4 w).set E1.length u++[y'],c⟩=_:=fun y z w u y' c=> appE (α:=L2) (a:=rows) (l2:=ms) ((gC (by simp; omega)).trans ((qt (by omega)).trans ((qt (by omega)).trans ((qT (by omega) (by omega)).trans q3)))) gms;have c4:∀ (y z w u y' z':nO),(((((E2++[y]).set 2 z).set 4 w).set E1.length u++[y']).set 3 z')[4]? =some w:=fun y z w u y' z'=>(qt (by omega)).trans ((gC (by simp; omega)).trans ((qt (by omega)).trans (b4 y z w)));simp only[simprocAttr, -Int.reduceNatCast',R0,hl_2,dH,ax,fJ,av,fI,gX,cZ,dda,ddb,q4,n4,p1,b4,tq,p2,c4,qI,hw];refine ai rfl ⟨?_,?_,⟨c2+1,c2+1+1+1,?_,?_,?_⟩,?_⟩
   ·exact(qt (by omega)).trans ((qt (by omega)).trans ((gC (by simp <;> omega)).trans ((qt (by omega)).trans ((qt (by omega)).trans ((qT (by omega) (by omega)).trans q0)))))
   ·exact(qt (by omega)).trans ((qt (by omega)).trans ((gC (by simp <;> omega)).trans ((qt (by omega)).trans ((qt (by omega)).trans ((qT (by omega) (by omega)).trans q1)))))
   ·exact(qt (by omega)).trans ((qt (by omega)).trans ((gC (by simp <;> omega)).trans ((qt (by omega)).trans ((qt (by omega)).trans (qr (by simp; omega))))))
   ·exact(qt (by omega)).trans (qr (by simp; omega))
   ·exact qr (by simp; omega)
   simp only[simprocAttr, -Int.reduceNatCast',R0,hl_2,dH,ax,fJ,av,fI,gX,cZ,hw]
  show W A (.block 2 (.loop true b417_2)) _ _ _;rw[qj];refine zi gl _ rfl (fun s e h=>∃uq,h.ents[0]? =some (0,some [V.isl (List.map enc s.1.1.code),iI s.1.1.at_,V.int .u64 s.1.1.hash])∧h.ents[1]? =E[1]?∧h.ents[2]? =E[2]?∧h.ents[3]? =E[3]?∧h.ents[4]? =E[4]?∧Deep.rep h v cyc K∧h.ents[E1.length]? =some (uq,some (List.map enc s.1.2))∧e.length=70∧e.at 0=V.ptr 0 0 0∧e.at 1=iI a1∧e.at 2=iL a2∧e.at 6=V.ptr 1 1 0∧e.at 7=V.ptr 4 4 0∧e.at 8=iI n∧e.at 9=v∧e.at 10=V.sl E1.length uq 0 s.1.2.length 1∧e.at 11=iI s.2) ?_ ?_
  ·have o:∀k,k < E.length→(E1++[(c1,some [])])[k]? =E[k]?:=fun k hk=>(gC (by omega)).trans (t5 k hk)
   refine⟨c1,(o 0 (by omega)).trans g0,o 1 (by omega),o 2 (by omega),o 3 (by omega),o 4 hE4,Deep.frame t2 fun k q=> gC (t3 k q).2,qI _ _,?_⟩;simp only[simprocAttr, -Int.reduceNatCast',R0,hl_1,aF,bN,cY,bB,bY,aP]
  ·clear g0 g2 g3 g4 z2 z3 hl_1 aF bN cY bB bY aP t1 t1' t2 t5 bw wc gl
   rintro⟨⟨s,rows⟩,i⟩ e ⟨E2,c2⟩ ⟨uq,g0,q1,q2,q3,q4,q5,q6,hl_1,aF,bN,cY,bB,bY,aP,bF,bQ,aU⟩ oo ho;simp only at g0 q1 q2 q3 q4 q6 bQ aU;unfold F417_2_S at ho;simp only at ho;obtain⟨d,gd,ho⟩:=bS ho;obtain⟨dda,ddb⟩:=qg gd;have hE2:E1.length < E2.length:=gA q6;by_cases c1:i < d
   ·rw[if_pos c1]at ho
    obtain⟨z,gz,ho⟩:=bS ho;have wz:xans A 424 (eS s) [iI a1,iI (cyc.length:Int)]=some (iL z.a,(eS z.b)):=s424 s a1 (cyc.length:Int) gz;obtain⟨m,gm,ho⟩:=bS ho;have wm:=qu gm;obtain⟨w,gw,ho⟩:=bS ho;obtain⟨wwa,wwb⟩:=qg gw;obtain⟨y,gy,ho⟩:=bS ho;have wy:tans A 80 [1] [iI a1,iL cyc,iL z.a,iI w]=some (iL y):=t80 a1 cyc z.a w gy;obtain⟨l,gl,ho⟩:=bS ho;obtain⟨i',gi,ho⟩:=bS ho;have wi:=qu gi;have hE:=wA ho; subst hE;have hlen:=rep_len q5;have zf:∀u c,frz ⟨E2.set 0 u,c⟩ 16 v=some (iL cyc):=fun u c=> Deep.fz (α:=L2) (K:=K) (Deep.frame q5 fun k q=> qt (by have:=t3 k q; omega)) 10;have tq:∀u c,take 16 [] (.sl (E2.set 0 u).length c2 0 y.length 1) ⟨E2.set 0 u++[(c2,some (y.map enc))],c⟩=_:=fun u c=> takeE (α:=Int) (qI _ _) 11;have p1:∀u a b c,za 1 24 (.sl E1.length uq 0 rows.length 1) 1 [iL y] ⟨E2.set 0 u++[a]++[b],c⟩=_:=fun u a b c=> appE (α:=L1) (a:=y) (l2:=l) (by rw[vE]; exact(gC (by simp; omega)).trans ((qt (by omega)).trans q6)) gl;simp only[simprocAttr, -Int.reduceNatCast',R0,b417_2,hl_1,aF,bN,cY,bB,bY,aP,bF,bQ,aU,dda,ddb,eq_true c1,hlen,qf,wz,g0,wm,wwa,wwb,qN,zf,wy,bare_one (α:=Int) y,Bool.or_true,qX,tq,set_last,qI,p1,wi];have o:∀u a b z k,k < E2.length→k≠E1.length→((E2.set 0 u++[a]++[b]).set E1.length z)[k]? =(E2.set 0 u)[k]?:=fun u a b z k h1 h2=>(qt h2).trans (by rw[vE]; exact gC (by simp; omega));refine ai rfl ⟨_,(o _ _ _ _ 0 (by omega) (by omega)).trans (qr (by omega)),(o _ _ _ _ 1 (by omega) (by omega)).trans ((qt (by omega)).trans q1),(o _ _ _ _ 2 (by omega) (by omega)).trans ((qt (by omega)).trans q2),(o _ _ _ _ 3 (by omega) (by omega)).trans ((qt (by omega)).trans q3),(o _ _ _ _ 4 (by omega) (by omega)).trans ((qt (by omega)).trans q4),Deep.frame q5 fun k q=>(o _ _ _ _ k (by have:=t3 k q; omega) (by have:=t3 k q; omega)).trans (qt (by have:=t3 k q; omega)),qr (by simp; omega),?_⟩;simp only[simprocAttr, -Int.reduceNatCast',R0,hl_1,aF,bN,cY,bB,bY,aP,bF,bQ,aU,wi]
   ·rw[if_neg c1]at ho
    have hE:=wA ho; subst hE;simp only[simprocAttr, -Int.reduceNatCast',R0,b417_2,hl_1,aF,bN,cY,bB,bY,aP,bF,bQ,aU,dda,ddb,eq_false c1];intro ht; cases ht;refine ai rfl ⟨uq,g0,q1,q2,q3,q4,q6,?_⟩;simp only[simprocAttr, -Int.reduceNatCast',R0,hl_1,aF,bN,cY,bB,bY,aP,bF,bQ,aU]
 ·clear hl_0 aA aB aN
  rintro n ⟨s,x⟩ e ⟨E,c⟩ ⟨g0,g1,⟨ud,um,g2,g3,g4⟩,hl_1,aF,bN,cY,bB,bY,aP⟩ hge t1 ho;simp only at g0 g1 g2 g3 g4;unfold F417_1_D at ho;have hE:=wA ho; subst hE;have hE4:4 < E.length:=gA g4;simp only[simprocAttr, -Int.reduceNatCast',R0,b417_1,hl_1,aF,bN,cY,bB,bY,aP,eq_false hge,g4,g1];intro ht; subst ht;have r1:∀w:nO,(E.set 1 w)[1]? =some w:=fun w=> qr (by omega);have r0:∀w:nO,(E.set 1 w)[0]? =_:=fun w=>(qt (by omega)).trans g0;have r2:∀ (w u:nO) c,frz ⟨(E.set 1 w).set 0 u,c⟩ 15 (V.sl 2 ud 0 x.D.length 1)=some (iL x.D):=fun w u c=> frzE (α:=Int) ((qt (by omega)).trans ((qt (by omega)).trans g2)) 10;have r3:∀ (w u:nO) c,frz ⟨(E.set 1 w).set 0 u,c⟩ 15 (V.sl 3 um 0 x.M.length 1)=some (iL x.M):=fun w u c=> frzE (α:=L2) ((qt (by omega)).trans ((qt (by omega)).trans g3)) 10;exact zu (by simp only[simprocAttr, -Int.reduceNatCast',R0,qe,p417,Rs.ev,hl_1,bB,r1,r0,r2,r3])
def F423(src:qm):Option (T2 Int qm):=
 (F412 src [2,2,3,3,5,7]).bind fun x1=>
 some ⟨x1.a,x1.b⟩
theorem s423(src:qm){r:T2 Int qm}(hF:F423 src=some r):xans A 423 (eS src) []=some (iI r.a,(eS r.b)):=by
 refine xC (f:=p423) rfl rfl rfl fun e hl h0 he=>?_;have aA:e.at 0=V.ptr 0 0 0:=h0;have hl_0:e.length=6:=hl;clear h0 he hl;show W A b423 e ⟨[(0,some (eS src))],1⟩ _;unfold F423 at hF;obtain⟨x1,bI,hF⟩:=bS hF;have w2:xans A 412 (eS src) [V.isl [iI 2,iI 2,iI 3,iI 3,iI 5,iI 7]]=some (iI x1.a,(eS x1.b)):=s412 src [2,2,3,3,5,7] bI;cases hF;simp only[simprocAttr,R0,b423,qf, *];exact zu (by simp only[simprocAttr,R0,qe,p423,Rs.ev,qb,qf, *])
def F415_1_S(x1:T2 Int qm)(s:(List U8)×Int×Int×L1×Int):Option (((List U8)×Int×Int×L1×Int)⊕((List U8)×Int×Int×L1)):=
 match s with
 |(bW,bV,bU,aK,bC)=>
  if 0 < bC then
   (F416 ⟨bW,bV,bU⟩ 9).bind fun bD=>
   (F412 bD.b [0,1,1,2,2,3,4,bD.a]).bind fun cQ=>
   (app 8 aK [cQ.a]).bind fun rI=>
   (chk (bC - 1)).bind fun eA=>
   some (.inl (cQ.b.code,cQ.b.at_,cQ.b.hash,rI,eA))
  else
   some (.inr (bW,bV,bU,aK))
def F415(src:qm):Option (T2 qa qm):=
 (F423 src).bind fun x1=>
 (F416 x1.b 6).bind fun x3=>
 (F412 x3.b [0,1,2,2,3,x3.a]).bind fun x5=>
 (chk (1+x5.a)).bind fun x7=>
 (qA (F415_1_S x1) (x5.b.code,x5.b.at_,x5.b.hash,[],x7)).bind fun v4=> match v4 with
  |(cJ,cI,cH,aS)=>
   (F417 ⟨cJ,cI,cH⟩ x1.a aS).bind fun dA=>
   some ⟨dA.a,dA.b⟩
def I415_1(x1:T2 Int qm)(s:(List U8)×Int×Int×L1×Int)(e:Env)(h:Heap):Prop:=
 match s with
 |(bW,bV,bU,aK,bC)=>
  ∃u9 kB:Nat,h=⟨[(0,some [iL bW,iI bV,V.int .u64 bU]),(1,some [iI 0,V.nils,V.nils]),(u9,some (aK.map enc))],kB⟩∧e.length=31∧e.at 0=V.ptr 0 0 0∧e.at 2=V.ptr 1 1 0∧e.at 3=iI x1.a∧e.at 4=V.sl 2 u9 0 aK.length 1∧e.at 5=iI bC
def P415_1(x1:T2 Int qm)(t:(List U8)×Int×Int×L1)(x:Ex)(e:Env)(h:Heap):Prop:=
 match t with
 |(cJ,cI,cH,aS)=>
  x= .normal∧∃u9 kB:Nat,h=⟨[(0,some [iL cJ,iI cI,V.int .u64 cH]),(1,some [iI 0,V.nils,V.nils]),(u9,some (aS.map enc))],kB⟩∧e.length=31∧e.at 0=V.ptr 0 0 0∧e.at 2=V.ptr 1 1 0∧e.at 3=iI x1.a∧e.at 4=V.sl 2 u9 0 aS.length 1
theorem l415_1(x1:T2 Int qm){s:(List U8)×Int×Int×L1×Int}{t:(List U8)×Int×Int×L1}(hF:qA (F415_1_S x1) s=some t){e:Env}{h:Heap}(hI:I415_1 x1 s e h):W A c415_1 e h (P415_1 x1 t):=by
 show W A (.block 0 (.loop false b415_1)) e h _;rw[qj];refine zi hF 3 (by rcases s with⟨_,_,_,_,_⟩; obtain⟨_,_,rfl,_⟩:=hI; rfl) (I415_1 x1) hI ?_
 ·rintro⟨bW,bV,bU,aK,bC⟩ e h ⟨u9,kB,rfl,h_8⟩ o ho
  unfold F415_1_S at ho;dsimp only at ho;by_cases c12:0 < bC
  ·rw[if_pos c12]at ho
   obtain⟨bD,cD,ho⟩:=bS ho;have mT:xans A 416 [iL bW,iI bV,V.int .u64 bU] [iI 9]=some (iI bD.a,(eS bD.b)):=s416 ⟨bW,bV,bU⟩ 9 cD;obtain⟨cQ,dP,ho⟩:=bS ho;have f0:xans A 412 (eS bD.b) [V.isl [iI 0,iI 1,iI 1,iI 2,iI 2,iI 3,iI 4,iI bD.a]]=some (iI cQ.a,(eS cQ.b)):=s412 bD.b [0,1,1,2,2,3,4,bD.a] dP;obtain⟨rI,lZ,ho⟩:=bS ho;have rE:=fun a b c d e=> qF (α:=Int) (n:=aK.length) (m:=1) (ds:=[iI cQ.a]) lZ (by first|rfl|simp) (by first|rfl|simp) rfl a b c d e;have kh:=qZ lZ;obtain⟨eA,dV,ho⟩:=bS ho;have sC:=qu dV;cases ho;simp only[simprocAttr,R0,b415_1,qf,qf, *];refine ai rfl (ei _ (ei _ (ai rfl ?_)));simp only[simprocAttr,R0,qf,qf, *]
  ·rw[if_neg c12]at ho
   cases ho;simp only[simprocAttr,R0,b415_1, *];intro ht; subst ht;simp only[simprocAttr,RR,RB];refine ai rfl (ei _ (ei _ (ai rfl ?_)));simp only[simprocAttr,R0, *]
theorem s415(src:qm){r:T2 qa qm}(hF:F415 src=some r):xans A 415 (eS src) []=some ((eC r.a),(eS r.b)):=by
 refine xC (f:=p415) rfl rfl rfl fun e hl h0 he=>?_;have aA:e.at 0=V.ptr 0 0 0:=h0;have hl_0:e.length=31:=hl;clear h0 he hl;show W A b415 e ⟨[(0,some (eS src))],1⟩ _;unfold F415 at hF;obtain⟨x1,bI,hF⟩:=bS hF;have w2:xans A 423 (eS src) []=some (iI x1.a,(eS x1.b)):=s423 src bI;obtain⟨x3,dO,hF⟩:=bS hF;have w4:xans A 416 (eS x1.b) [iI 6]=some (iI x3.a,(eS x3.b)):=s416 x1.b 6 dO;obtain⟨x5,dC,hF⟩:=bS hF;have w6:xans A 412 (eS x3.b) [V.isl [iI 0,iI 1,iI 2,iI 2,iI 3,iI x3.a]]=some (iI x5.a,(eS x5.b)):=s412 x3.b [0,1,2,2,3,x3.a] dC;obtain⟨x7,dF,hF⟩:=bS hF;have wx7:=qu dF;obtain⟨⟨cJ,cI,cH,aS⟩,pW,hF⟩:=bS hF;dsimp only at hF;simp only[simprocAttr,R0,b415,qf,qf,qf, *];refine W.mono (l415_1 x1 pW (ei _ (ei _ (ai rfl ?_)))) ?_
 ·simp only[simprocAttr,R0,qf,qf,qf, *]
 rintro _ e _ ⟨rfl,u9,kB,rfl,h_11⟩;obtain⟨dA,dL,hF⟩:=bS hF;have sL:xans A 417 [iL cJ,iI cI,V.int .u64 cH] [iI x1.a,iL aS]=some ((eC dA.a),(eS dA.b)):=s417 ⟨cJ,cI,cH⟩ x1.a aS dL;cases hF;simp only[simprocAttr,R0,qM (α:=Int) aS,qf, *];exact zu (by simp only[simprocAttr,R0,qe,p415,Rs.ev,qb,qM (α:=Int) aS,qf, *])
def F486_1_S(x:qa)(s:(qm×L1)×Int):Option (((qm×L1)×Int)⊕(qm×L1)):=
 if s.2 < (x.D.length:Int)then(F412 s.1.1 [0,1,1,2,3]).bind fun v=>(app 8 s.1.2 [v.a]).bind fun d=>(chk (s.2+1)).bind fun n=> some (.inl ((v.b,d),n))else some (.inr s.1)
def F486_3_S(k:Int)(s:L3×Int):Option ((L3×Int)⊕L3):=
 (getI s.1 k).bind fun t=> if s.2 < (t.length:Int)then(getI t s.2).bind fun row=>(mkL 8 (row.length:Int) 0).bind fun z=>(setI t s.2 z).bind fun t'=>(setI s.1 k t').bind fun ms=>(chk (s.2+1)).bind fun i=> some (.inl (ms,i))else some (.inr s.1)
def F486_2_S(s:L3×Int):Option ((L3×Int)⊕L3):=
 if s.2 < (s.1.length:Int)then(qA (F486_3_S s.2) (s.1,0)).bind fun ms=>(chk (s.2+1)).bind fun k=> some (.inl (ms,k))else some (.inr s.1)
def F486(src:qm):Option (T2 (T2 qa qa) qm):=(F415 src).bind fun x=>(qA (F486_1_S x.a) ((x.b,[]),0)).bind fun q=>(F417 q.1 x.a.P q.2).bind fun y=>(F416 y.b 3).bind fun k=>
 if k.a=0 then some ⟨⟨x.a,x.a⟩,k.b⟩
 else if k.a=1 then(F55 y.a).bind fun z=>(qA F486_2_S (z.M,0)).bind fun ms=> some ⟨⟨x.a,⟨z.P,z.D,ms⟩⟩,k.b⟩
 else some ⟨⟨x.a,y.a⟩,k.b⟩
set_option maxHeartbeats 8000000 in
theorem s486(src:qm){r:T2 (T2 qa qa) qm}(hF:F486 src=some r):xans A 486 (eS src) []=some (V.tup [(eC r.a.a),(eC r.a.b)],(eS r.b)):=by
 refine xC (f:=p486) rfl rfl rfl fun e hl h0 he=>?_;have aA:e.at 0=V.ptr 0 0 0:=h0;have hl_0:e.length=76:=hl;clear h0 he hl;show W A b486 e ⟨[(0,some (eS src))],1⟩ _;unfold F486 at hF;obtain⟨x,gx,hF⟩:=bS hF;have wx:xans A 415 (eS src) []=some ((eC x.a),(eS x.b)):=s415 src gx;obtain⟨⟨s1,d⟩,gl,hF⟩:=bS hF;obtain⟨y,gy,hF⟩:=bS hF;have wy:xans A 417 (eS s1) [iI x.a.P,iL d]=some ((eC y.a),(eS y.b)):=s417 s1 x.a.P d gy;obtain⟨k,gk,hF⟩:=bS hF;have wk:xans A 416 (eS y.b) [iI 3]=some (iI k.a,(eS k.b)):=s416 y.b 3 gk;simp only[simprocAttr, -Int.reduceNatCast',R0,b486,hl_0,aA,qf,wx];refine W.mono (Q:=fun x' e h=> x'= .normal∧∃u c,h=⟨[(0,some (eS s1)),(1,some [iI 0,V.nils,V.nils]),(2,some [iI 0,V.nils,V.nils]),(3,some [iI x.a.P,iL x.a.D,iL x.a.M]),(u,some (d.map enc))],c⟩∧e.length=76∧e.at 0=V.ptr 0 0 0∧e.at 2=V.ptr 1 1 0∧e.at 3=V.ptr 2 2 0∧e.at 4=V.ptr 3 3 0∧e.at 5=V.sl 4 u 0 d.length 1) ?_ ?_
 rotate_left
 ·rintro _ e _ ⟨rfl,u,c,rfl,hl_1,aF,cY,dX,eB,aH⟩
  by_cases c0:k.a=0
  ·rw[if_pos c0]at hF
   have hE:=wA hF; subst hE;simp only[simprocAttr, -Int.reduceNatCast',R0,hl_1,aF,cY,dX,eB,aH,qM (α:=Int) d,qf,wy,wk,eq_true c0];exact zu (by simp only[simprocAttr, -Int.reduceNatCast',R0,qe,p486,Rs.ev,hl_1,aF,cY,dX,eB,aH,qM (α:=Int) d,qf,wy,wk,eq_true c0])
  rw[if_neg c0]at hF;by_cases c1:k.a=1
  rotate_left
  ·rw[if_neg c1]at hF
   have hE:=wA hF; subst hE;simp only[simprocAttr, -Int.reduceNatCast',R0,hl_1,aF,cY,dX,eB,aH,qM (α:=Int) d,qf,wy,wk,eq_false c0,eq_false c1];exact zu (by simp only[simprocAttr, -Int.reduceNatCast',R0,qe,p486,Rs.ev,hl_1,aF,cY,dX,eB,aH,qM (α:=Int) d,qf,wy,wk,eq_false c0,eq_false c1])
  rw[if_pos c1]at hF;obtain⟨z,gz,hF⟩:=bS hF;have wz:=x55 y.a gz;obtain⟨ms',gm,hF⟩:=bS hF;have hE:=wA hF; subst hE;obtain⟨m,⟨E1,c1'⟩,t1,t2,t3,t4⟩:=thaw_agg z.P z.D z.M ⟨[(0,some (eS k.b)),(1,some [iI 0,V.nils,V.nils]),(2,some [iI 0,V.nils,V.nils]),(3,some [iI x.a.P,iL x.a.D,iL x.a.M]),(0,none),(c,some [iI y.a.P,iL y.a.D,iL y.a.M])],c+1⟩;simp only[vF,vH,wV,Nat.reduceAdd]at t2 t3 t4;have m0:E1[0]? =some (0,some (eS k.b)):=t4 0 (by decide);have m1:E1[1]? =some (1,some [iI 0,V.nils,V.nils]):=t4 1 (by decide);have m2:E1[2]? =some (2,some [iI 0,V.nils,V.nils]):=t4 2 (by decide);have m3:E1[3]? =some (3,some [iI x.a.P,iL x.a.D,iL x.a.M]):=t4 3 (by decide);have m5:E1[5]? =some (c,some [iI y.a.P,iL y.a.D,iL y.a.M]):=t4 5 (by decide);simp only[simprocAttr, -Int.reduceNatCast',R0,hl_1,aF,cY,dX,eB,aH,qM (α:=Int) d,qf,wy,wk,eq_false c0,eq_true c1,qN,wz,t1,m5];refine W.mono (Q:=fun x' e h=> x'= .normal∧h.ents[0]? =some (0,some (eS k.b))∧h.ents[1]? =some (1,some [iI 0,V.nils,V.nils])∧h.ents[2]? =some (2,some [iI 0,V.nils,V.nils])∧h.ents[3]? =some (3,some [iI x.a.P,iL x.a.D,iL x.a.M])∧h.ents[5]? =some (c,some [iI z.P,iL z.D,m])∧(∃K:Ks,Deep.rep h m ms' K∧∀q,K q→6≤q)∧e.length=76∧e.at 0=V.ptr 0 0 0∧e.at 2=V.ptr 1 1 0∧e.at 3=V.ptr 2 2 0∧e.at 4=V.ptr 3 3 0∧e.at 7=V.ptr 5 c 0) ?_ ?_
  rotate_left
  ·rintro _ e ⟨E,cc⟩ ⟨rfl,g0,g1,g2,g3,g5,⟨K,g6,g7⟩,hl_2,dH,fJ,hU,iM,fI⟩
   simp only at g0 g1 g2 g3 g5;have hE5:5 < E.length:=gA g5;have r1:∀w:nO,(E.set 1 w)[2]? =_:=fun w=>(qt (by omega)).trans g2;have r15:∀w:nO,(E.set 1 w)[5]? =_:=fun w=>(qt (by omega)).trans g5;have r0:∀w u:nO,((E.set 1 w).set 2 u)[0]? =_:=fun w u=>(qt (by omega)).trans ((qt (by omega)).trans g0);have r2:∀w u:nO,((E.set 1 w).set 2 u)[2]? =some u:=fun w u=> qr (by simp; omega);have pE:∀w u:nO,((E.set 1 w).set 2 u)[1]? =some w:=fun w u=>(qt (by omega)).trans (qr (by omega));have r3:∀ (w u v:nO) c f,frz ⟨((E.set 1 w).set 2 u).set 0 v,c⟩ (f+8) m=some (V.isl (List.map enc ms')):=fun w u v c f=> Deep.fz (α:=L3) (Deep.frame g6 fun k q=> by have:=g7 k q; exact(qt (by omega)).trans ((qt (by omega)).trans (qt (by omega)))) (f+1);simp only[simprocAttr, -Int.reduceNatCast',R0,hl_2,dH,fJ,hU,iM,fI,g3,g5,g1,r1,r15];exact zu (by simp only[simprocAttr, -Int.reduceNatCast',R0,qe,p486,Rs.ev,hl_2,dH,fJ,hU,iM,fI,r0,r2,pE,r3 _ _ _ _ 6])
  show W A (.block 3 (.loop true b486_2)) _ _ _;rw[qj];have hE5:5 < E1.length:=gA m5;refine zi gm _ rfl (fun s e h=> h.ents[0]? =some (0,some (eS k.b))∧h.ents[1]? =some (1,some [iI 0,V.nils,V.nils])∧h.ents[2]? =some (2,some [iI 0,V.nils,V.nils])∧h.ents[3]? =some (3,some [iI x.a.P,iL x.a.D,iL x.a.M])∧h.ents[5]? =some (c,some [iI z.P,iL z.D,m])∧(∃K:Ks,Deep.rep h m s.1 K∧∀q,K q→6≤q)∧e.length=76∧e.at 0=V.ptr 0 0 0∧e.at 2=V.ptr 1 1 0∧e.at 3=V.ptr 2 2 0∧e.at 4=V.ptr 3 3 0∧e.at 7=V.ptr 5 c 0∧e.at 8=iI s.2) ?_ ?_
  ·refine⟨(qt (by omega)).trans m0,(qt (by omega)).trans m1,(qt (by omega)).trans m2,(qt (by omega)).trans m3,qr (by omega),⟨_,Deep.frame t2 fun k q=> qt (by omega),fun q a=> a.1⟩,?_⟩
   simp only[simprocAttr, -Int.reduceNatCast',R0,hl_1,aF,cY,dX,eB,aH]
  ·clear t1 t2 t3 t4 m0 m1 m2 m3 m5 hl_1 aF cY dX eB aH wx wy wk wz gm gl gy gk
   rintro⟨ms,i⟩ e ⟨E,cc⟩ ⟨g0,g1,g2,g3,g5,⟨K,g6,g7⟩,hl_2,dH,fJ,hU,iM,fI,gX⟩ oo ho;simp only at g0 g1 g2 g3 g5 g6 gX;unfold F486_2_S at ho;simp only at ho;have hlen:=rep_len g6;by_cases q1:i < (ms.length:Int)
   ·rw[if_pos q1]at ho
    obtain⟨lu,gl,ho⟩:=bS ho;obtain⟨i',gi,ho⟩:=bS ho;have wi:=qu gi;have hE:=wA ho; subst hE;simp only[simprocAttr, -Int.reduceNatCast',R0,b486_2,hl_2,dH,fJ,hU,iM,fI,gX,g5,hlen,eq_true q1];refine W.mono (Q:=fun x' e h=> x'= .normal∧h.ents[0]? =some (0,some (eS k.b))∧h.ents[1]? =some (1,some [iI 0,V.nils,V.nils])∧h.ents[2]? =some (2,some [iI 0,V.nils,V.nils])∧h.ents[3]? =some (3,some [iI x.a.P,iL x.a.D,iL x.a.M])∧h.ents[5]? =some (c,some [iI z.P,iL z.D,m])∧(∃K:Ks,Deep.rep h m lu K∧∀q,K q→6≤q)∧e.length=76∧e.at 0=V.ptr 0 0 0∧e.at 2=V.ptr 1 1 0∧e.at 3=V.ptr 2 2 0∧e.at 4=V.ptr 3 3 0∧e.at 7=V.ptr 5 c 0∧e.at 8=iI i) ?_ ?_
    rotate_left
    ·rintro _ e ⟨E2,c2⟩ ⟨rfl,k0,k1,k2,k3,k5,k6,hl_3,kZ,kY,kX,kW,kV,kU⟩
     simp only[simprocAttr, -Int.reduceNatCast',R0,hl_3,kZ,kY,kX,kW,kV,kU,wi];refine ai rfl ⟨k0,k1,k2,k3,k5,k6,?_⟩;simp only[simprocAttr, -Int.reduceNatCast',R0,hl_3,kZ,kY,kX,kW,kV,kU,wi]
    show W A (.block 5 (.loop true b486_3)) _ _ _;rw[qj];refine zi gl _ rfl (fun s e h=> h.ents[0]? =some (0,some (eS k.b))∧h.ents[1]? =some (1,some [iI 0,V.nils,V.nils])∧h.ents[2]? =some (2,some [iI 0,V.nils,V.nils])∧h.ents[3]? =some (3,some [iI x.a.P,iL x.a.D,iL x.a.M])∧h.ents[5]? =some (c,some [iI z.P,iL z.D,m])∧(∃K:Ks,Deep.rep h m s.1 K∧∀q,K q→6≤q)∧e.length=76∧e.at 0=V.ptr 0 0 0∧e.at 2=V.ptr 1 1 0∧e.at 3=V.ptr 2 2 0∧e.at 4=V.ptr 3 3 0∧e.at 7=V.ptr 5 c 0∧e.at 8=iI i∧e.at 9=iI s.2) ?_ ?_
    ·refine⟨g0,g1,g2,g3,g5,⟨K,g6,g7⟩,?_⟩
     simp only[simprocAttr, -Int.reduceNatCast',R0,hl_2,dH,fJ,hU,iM,fI,gX]
    ·clear g0 g1 g2 g3 g5 g6 g7 hl_2 dH fJ hU iM fI gX hlen gl q1
     rintro⟨ms,j⟩ e ⟨E,cc⟩ ⟨g0,g1,g2,g3,g5,⟨K,g6,g7⟩,hl_3,kZ,kY,kX,kW,kV,kU,mZ⟩ oo ho;simp only at g0 g1 g2 g3 g5 g6 mZ;unfold F486_3_S at ho;simp only at ho;obtain⟨t,gt,ho⟩:=bS ho;obtain⟨ta,tb⟩:=qg gt;have tc:=qY gt;by_cases q2:j < (t.length:Int)
     ·rw[if_pos q2]at ho
      obtain⟨row,gr,ho⟩:=bS ho;obtain⟨ra,rb⟩:=qg gr;have rc:=qY gr;obtain⟨key,uid,vs,key2,uid2,vs2,x2,rfl,a1,a2,a3,a4,a5,a6,a7,a8,a9⟩:=rep_put2 g6 tb rb;have o1:=qw a2;have o2:=qw a4;have hlt:lenV (V.sl key2 uid2 0 t.length 1)=some t.length:=rfl;obtain⟨zr,gz2,ho⟩:=bS ho;obtain⟨kQ,iH,sR,fV,iY⟩:=mkL_w gz2;replace iY:(List.replicate (Int.toNat (row.length:Int)) [iI 0]).flatten=List.map enc zr:=iY;obtain⟨t',gt',ho⟩:=bS ho;have st:=setI_eq gt';obtain⟨ms3,gm',ho⟩:=bS ho;have sm:=setI_eq gm';obtain⟨j',gj,ho⟩:=bS ho;have wj:=qu gj;have hE:=wA ho; subst hE;obtain⟨s1',i4,s3',s4',g9⟩:=jy gt';obtain⟨K9,b1,b2⟩:=a9 zr;have hs:List.take j.toNat vs2++[V.sl E.length cc 0 zr.length 1]++List.drop (j.toNat+1) vs2=vs2.set j.toNat (V.sl E.length cc 0 zr.length 1):=by
       rw[List.set_eq_take_append_cons_drop,if_pos (by omega)]; simp
      have hle:j.toNat+1≤vs2.length:=by omega
      have p2:∀w:nO,(E++[w])[key2]? =_:=fun w=>(gC a8).trans a3;have k6:=g7 key2 a7;simp only[simprocAttr, -Int.reduceNatCast',R0,b486_3,hl_3,kZ,kY,kX,kW,kV,kU,mZ,g5,ta,eq_true tc,a1,o1,hlt,eq_true q2,ra,eq_true rc,a3,o2,a5,kQ,iH,sR,iY,p2,wj];simp only[←fV,hs,hle,if_true];simp only[simprocAttr, -Int.reduceNatCast',R0,hl_3,kZ,kY,kX,kW,kV,kU,mZ,wj];refine ai rfl ⟨(qT (by omega) (by omega)).trans g0,(qT (by omega) (by omega)).trans g1,(qT (by omega) (by omega)).trans g2,(qT (by omega) (by omega)).trans g3,(qT (by omega) (by omega)).trans g5,⟨K9,by rw[sm,st]; exact b1,fun q a=>(b2 q a).elim (g7 q) (by omega)⟩,?_⟩;simp only[simprocAttr, -Int.reduceNatCast',R0,hl_3,kZ,kY,kX,kW,kV,kU,mZ,wj]
     ·rw[if_neg q2]at ho
      have hE:=wA ho; subst hE;obtain⟨key,uid,vs,x1,K1,rfl,a1,a2,a3,a4,a5,a6⟩:=rep_focus g6 tb;have o1:=qw a2;simp only at a1;have hlt:=rep_len a4;simp only[simprocAttr, -Int.reduceNatCast',R0,b486_3,hl_3,kZ,kY,kX,kW,kV,kU,mZ,g5,ta,eq_true tc,a1,o1,hlt,eq_false q2];intro ht; cases ht;refine ai rfl ⟨g0,g1,g2,g3,g5,⟨K,g6,g7⟩,?_⟩;simp only[simprocAttr, -Int.reduceNatCast',R0,hl_3,kZ,kY,kX,kW,kV,kU,mZ]
   ·rw[if_neg q1]at ho
    have hE:=wA ho; subst hE;simp only[simprocAttr, -Int.reduceNatCast',R0,b486_2,hl_2,dH,fJ,hU,iM,fI,gX,g5,hlen,eq_false q1];intro ht; cases ht;refine ai rfl ⟨g0,g1,g2,g3,g5,⟨K,g6,g7⟩,?_⟩;simp only[simprocAttr, -Int.reduceNatCast',R0,hl_2,dH,fJ,hU,iM,fI,gX]
 show W A (.block 0 (.loop false b486_1)) _ _ _;rw[qj];refine zi gl 5 rfl (fun s e h=>∃u c,h=⟨[(0,some [V.isl (List.map enc s.1.1.code),iI s.1.1.at_,V.int .u64 s.1.1.hash]),(1,some [iI 0,V.nils,V.nils]),(2,some [iI 0,V.nils,V.nils]),(3,some [iI x.a.P,iL x.a.D,iL x.a.M]),(u,some (List.map enc s.1.2))],c⟩∧e.length=76∧e.at 0=V.ptr 0 0 0∧e.at 2=V.ptr 1 1 0∧e.at 3=V.ptr 2 2 0∧e.at 4=V.ptr 3 3 0∧e.at 5=V.sl 4 u 0 s.1.2.length 1∧e.at 6=iI s.2) ?_ ?_
 ·refine⟨_,_,rfl,?_⟩
  simp only[simprocAttr, -Int.reduceNatCast',R0,hl_0,aA]
 ·clear hl_0 aA wx wy wk gl
  rintro⟨⟨s,d⟩,n⟩ e _ ⟨u,c,rfl,hl_1,aF,cY,dX,eB,aH,bB⟩ oo ho;simp only at aH bB;unfold F486_1_S at ho;simp only at ho;by_cases q1:n < (x.a.D.length:Int)
  ·rw[if_pos q1]at ho
   obtain⟨v,gv,ho⟩:=bS ho;have wv:xans A 412 (eS s) [V.isl [iI 0,iI 1,iI 1,iI 2,iI 3]]=some (iI v.a,(eS v.b)):=s412 s [0,1,1,2,3] gv;obtain⟨d',gd,ho⟩:=bS ho;have wd:=fun ents key uid clk he=> qF (α:=Int) (n:=d.length) (m:=1) (ds:=[iI v.a]) gd rfl rfl rfl ents key uid clk he;have wdl:=qZ gd;obtain⟨n',gn,ho⟩:=bS ho;have wn:=qu gn;have hE:=wA ho; subst hE;simp only[simprocAttr, -Int.reduceNatCast',R0,b486_1,hl_1,aF,cY,dX,eB,aH,bB,eq_true q1,qf,wv,wd,wn];refine ai rfl ⟨_,_,rfl,?_⟩;simp only[simprocAttr, -Int.reduceNatCast',R0,hl_1,aF,cY,dX,eB,aH,bB,wv,wd,wdl,wn]
  ·rw[if_neg q1]at ho
   have hE:=wA ho; subst hE;simp only[simprocAttr, -Int.reduceNatCast',R0,b486_1,hl_1,aF,cY,dX,eB,aH,bB,eq_false q1];intro ht; cases ht;refine ai rfl ⟨_,_,rfl,?_⟩;simp only[simprocAttr, -Int.reduceNatCast',R0,hl_1,aF,cY,dX,eB,aH,bB]
def F498_2_S(a0:qa)(a1:qa)(a2:Int)(aK:L3)(aE:Int)(s:L2×Int):Option ((L2×Int)⊕(L2)):=
 match s with
 |(bH,aG)=>
  (getI a0.D aE).bind fun x9=>
  if aG < x9 then
   (chk (aE+a2)).bind fun dG=>
   (F99 a1 dG).bind fun bD=>
   (mkL 8 bD 0).bind fun iR=>
   (app 24 bH [iR]).bind fun rI=>
   (chk (aG+1)).bind fun eA=>
   some (.inl (rI,eA))
  else
   some (.inr bH)
def F498_1_B(a0:qa)(a1:qa)(a2:Int)(aE:Int)(aK:L3):Option ((L3)⊕(L3)):=
 (qA (F498_2_S a0 a1 a2 aK aE) ([],0)).bind fun eV=>
(app 24 aK [eV]).bind fun eR=>
some (.inl eR)
def F498_1_D(a0:qa)(a1:qa)(a2:Int)(aE:Int)(aK:L3):Option (L3):=
 some aK
def F498(a0:qa)(a1:qa)(a2:Int):Option L3:=
 (forR 0 (a0.D.length:Int) (F498_1_B a0 a1 a2) (F498_1_D a0 a1 a2) ([]:L3)).bind fun aS=>
 some aS
set_option maxHeartbeats 8000000 in
theorem d498(a0 a1:qa)(a2:Int){r:L3}(hF:F498 a0 a1 a2=some r):∃v h',res A 498 [(eC a0),(eC a1),iI a2] Heap.empty=some (v,h')∧∃K,Deep.rep h' v r K:=by
 refine res_dp (f:=p498) rfl rfl rfl fun e hl he=>?_;have aA:=he 0 _ rfl;have aB:=he 1 _ rfl;have aN:=he 2 _ rfl;have hl_0:e.length=43:=hl;clear he hl;show W A b498 e ⟨[],0⟩ _;unfold F498 at hF;obtain⟨t,gt,hF⟩:=bS hF;have hE:=wA hF; subst hE;simp only[simprocAttr, -Int.reduceNatCast',R0,b498, *];show W A (.block 0 (.loop true b498_1)) _ _ _;rw[qj];refine qz gt _ rfl (fun i s e h=>∃v,∃K:Ks,Deep.rep h v s K∧e.length=43∧e.at 2=iI a2∧e.at 3=eP a0∧e.at 4=eP a1∧e.at 7=v∧e.at 8=iI i) ?_ ?_ ?_
 ·refine⟨V.sl 2 2 0 0 1,fun k=> k=2∨False,rep_at (α:=L2) (l:=[]) (K:=fun _=> False) (h:=⟨[(0,none),(0,none),(2,some [])],3⟩) rfl (fun _ x=> x) (fun x=> x),?_⟩
  simp only[simprocAttr, -Int.reduceNatCast',R0, *]
 ·clear hl_0 aA aB aN
  rintro i s e ⟨E,c⟩ ⟨v,K,g1,hl_1,cY,dX,eB,bY,aP⟩ hlt hw s' ho;unfold F498_1_B at ho;obtain⟨row,grow,ho⟩:=bS ho;obtain⟨mG,mA,ho⟩:=bS ho;have hE:=wA ho; subst hE;simp only[simprocAttr, -Int.reduceNatCast',R0,b498_1, *];refine W.mono (Q:=fun x' e h=> x'= .normal∧∃w,∃K1:Ks,Deep.rep h v s K∧Deep.rep h w row K1∧(∀k,K k→¬K1 k)∧e.length=43∧e.at 2=iI a2∧e.at 3=eP a0∧e.at 4=eP a1∧e.at 7=v∧e.at 8=iI i∧e.at 9=w) ?_ ?_
  rotate_left
  ·rintro _ e ⟨E2,c2⟩ ⟨rfl,w,K1,rA,f2,f3,hl_2,fJ,hU,iM,fI,gX,fD⟩
   obtain⟨v1,v2⟩:=rep_one f2;have pre:∀ (y:nO) k,k < E2.length→(E2++[y])[k]? =E2[k]?:=fun y k q=> gC q;obtain⟨v',E',c',K',p1,p2,p3,p4,p5⟩:=append_rep (E:=E2++[(c2,some [w])]) (c:=c2+1) (Deep.frame rA fun k q=> pre _ k (Deep.bd rA q)) (Deep.frame f2 fun k q=> pre _ k (Deep.bd f2 q)) f3 mA;simp only[simprocAttr, -Int.reduceNatCast',R0,v1,v2,qI,p1, *];refine ai rfl ⟨v',K',p2,?_⟩;simp only[simprocAttr, -Int.reduceNatCast',R0, *]
  show W A (.block 2 (.loop true b498_2)) _ _ _;rw[qj];refine zi grow _ rfl (fun s2 e h=>∃w,∃K1:Ks,Deep.rep h v s K∧Deep.rep h w s2.1 K1∧(∀k,K k→¬K1 k)∧e.length=43∧e.at 2=iI a2∧e.at 3=eP a0∧e.at 4=eP a1∧e.at 7=v∧e.at 8=iI i∧e.at 9=w∧e.at 10=iI s2.2) ?_ ?_
  ·refine⟨V.sl E.length c 0 0 1,fun k=> k=E.length∨False,Deep.frame g1 fun k q=> gC (Deep.bd g1 q),rep_at (α:=L1) (l:=[]) (K:=fun _=> False) (qI _ _) (fun _ x=> x) (fun x=> x),fun k q e=> by have:=Deep.bd g1 q; simp only[or_false]at this e; omega,?_⟩
   simp only[simprocAttr, -Int.reduceNatCast',R0, *]
  ·clear hl_1 cY dX eB bY aP grow mA
   rintro⟨r,j⟩ e ⟨E2,c2⟩ ⟨w,K1,rA,f2,f3,hl_2,fJ,hU,iM,fI,gX,fD,cZ⟩ s2 eY;simp only at f2 cZ;unfold F498_2_S at eY;dsimp only at eY;obtain⟨x9,eJ,eY⟩:=bS eY;obtain⟨d9,d7⟩:=qg eJ;by_cases q1:j < x9
   ·rw[if_pos q1]at eY
    obtain⟨dG,dQ,eY⟩:=bS eY;have pM:=qu dQ;obtain⟨bD,cD,eY⟩:=bS eY;have de:=s99 a1 dG cD;obtain⟨iR,lC,eY⟩:=bS eY;obtain⟨kQ,iH,sR,fV,iY⟩:=mkL_w lC;replace iY:(List.replicate (Int.toNat bD) [iI 0]).flatten=List.map enc iR:=iY;obtain⟨rI,lZ,eY⟩:=bS eY;obtain⟨eA,dV,eY⟩:=bS eY;have sC:=qu dV;have hE:=wA eY; subst hE;have pre:∀ (y z:nO) k,k < E2.length→(E2++[y]++[z])[k]? =E2[k]?:=fun y z k q=>(gC (by simp; omega)).trans (gC q);have new:∀ (y z:nO),(E2++[y]++[z])[E2.length]? =some y:=fun y z=>(gC (by simp)).trans (qI _ _);obtain⟨w',E',c',K',p1,p2,p3,p4,p5⟩:=append_rep (E:=E2++[(c2,some (iR.map enc))]++[(c2+1,some [V.sl E2.length c2 0 iR.length 1])]) (c:=c2+1+1) (K1:=fun k=> k=E2.length) (Deep.frame f2 fun k q=> pre _ _ k (Deep.bd f2 q)) (jT (l:=iR) (new _ _) (fun k=> yA)) (fun k q e=> by have:=Deep.bd f2 q; simp only at this; omega) lZ;simp only[simprocAttr, -Int.reduceNatCast',R0,b498_2,eq_true q1,qI, *];simp only[←fV,p1];simp only[simprocAttr, -Int.reduceNatCast',R0, *];refine ai rfl ⟨w',K',Deep.frame rA fun k q=>(p4 k (by have:=Deep.bd rA q; simp only[wR,vF,vH]at this ⊢; omega) (f3 k q)).trans (pre _ _ k (Deep.bd rA q)),p2,fun k q x=>?_,?_⟩
    ·rcases p3 k x with y|y|y
     ·exact f3 k q y
     ·have:=Deep.bd rA q; simp only at this; omega
     ·have:=Deep.bd rA q; simp only[wR,vF,vH]at this y; omega
    ·simp only[simprocAttr, -Int.reduceNatCast',R0, *]
   ·rw[if_neg q1]at eY
    have hE:=wA eY; subst hE;simp only[simprocAttr, -Int.reduceNatCast',R0,b498_2,eq_false q1, *];intro ht; cases ht;refine ai rfl ⟨w,K1,rA,f2,f3,?_⟩;simp only[simprocAttr, -Int.reduceNatCast',R0, *]
 ·clear hl_0 aA aB aN
  rintro i s e ⟨E,c⟩ ⟨v,K,g1,hl_1,cY,dX,eB,bY,aP⟩ hge t1 ho;unfold F498_1_D at ho;have hE:=wA ho; subst hE;simp only[simprocAttr, -Int.reduceNatCast',R0,b498_1, *];intro ht; subst ht;refine ai (fun _=> trivial) ⟨v,?_,K,g1⟩;simp only[simprocAttr, -Int.reduceNatCast',R0,qe,p498,Rs.ev, *]
theorem x498(a0 a1:qa)(a2:Int){r:L3}(hF:F498 a0 a1 a2=some r):tans A 498 [1,1,1] [(eC a0),(eC a1),iI a2]=some (enc r):=jw (α:=L3) (by decide) (d498 a0 a1 a2 hF)
def F487_3_S(p:Int)(s:(qm×L1)×Int):Option (((qm×L1)×Int)⊕(qm×L1)):=
 if s.2 < (s.1.2.length:Int)then(F416 s.1.1 3).bind fun z=> if z.a=0 then(F416 z.b p).bind fun v=>(setI s.1.2 s.2 v.a).bind fun r=>(chk (s.2+1)).bind fun k=> some (.inl ((v.b,r),k))
  else(chk (s.2+1)).bind fun k=> some (.inl ((z.b,s.1.2),k))else some (.inr s.1)
def F487_2_S(p:Int)(n:Int)(s:(qm×L3)×Int):Option (((qm×L3)×Int)⊕(qm×L3)):=
 (getI s.1.2 n).bind fun t=> if s.2 < (t.length:Int)then(getI t s.2).bind fun row=>(qA (F487_3_S p) ((s.1.1,row),0)).bind fun q=>(setI t s.2 q.2).bind fun t'=>(setI s.1.2 n t').bind fun ms=>(chk (s.2+1)).bind fun i=> some (.inl ((q.1,ms),i))
  else some (.inr s.1)
def F487_1_S(p:Int)(s:(qm×L3)×Int):Option (((qm×L3)×Int)⊕(qm×L3)):=
 if s.2 < (s.1.2.length:Int)then(qA (F487_2_S p s.2) (s.1,0)).bind fun t=>(chk (s.2+1)).bind fun k=> some (.inl (t,k))else some (.inr s.1)
def F487(src:qm)(x y:qa)(d:Int):Option (T2 L3 qm):=(F498 x y d).bind fun z=>(qA (F487_1_S x.P) ((src,z),0)).bind fun s=> some ⟨s.2,s.1⟩
set_option maxHeartbeats 8000000 in
theorem s487(src:qm)(x y:qa)(d:Int){r:T2 L3 qm}(hF:F487 src x y d=some r):xans A 487 (eS src) [(eC x),(eC y),iI d]=some (iL r.a,(eS r.b)):=by
 refine xC (f:=p487) rfl rfl rfl fun e hl h0 he=>?_;have aA:e.at 0=V.ptr 0 0 0:=h0;have aB:e.at 1=(eC x):=he 0 _ rfl;have aN:e.at 2=(eC y):=he 1 _ rfl;have bR:e.at 3=iI d:=he 2 _ rfl;have hl_0:e.length=57:=hl;clear h0 he hl;show W A b487 e ⟨[(0,some (eS src))],1⟩ _;unfold F487 at hF;obtain⟨z,gz,hF⟩:=bS hF;have wz:tans A 498 [1,1,1] [(eC x),(eC y),iI d]=some (iL z):=x498 x y d gz;obtain⟨⟨s',ms'⟩,gl,hF⟩:=bS hF;have hE:=wA hF; subst hE;obtain⟨m,⟨E1,c1'⟩,t1,t2,t3,t4⟩:=thaw_deep (α:=L3) (by decide) z ⟨[(0,some (eS src)),(0,none),(0,none)],3⟩;simp only[vF,vH,wV,Nat.reduceAdd]at t2 t3 t4;have t1':thaw 16 [1,1,1] (iL z) ⟨[(0,some (eS src)),(0,none),(0,none)],3⟩=some (m,⟨E1,c1'⟩):=t1;have m0:E1[0]? =some (0,some (eS src)):=t4 0 (by decide);simp only[simprocAttr, -Int.reduceNatCast',R0,b487,hl_0,aA,aB,aN,bR,qN,wz,t1'];refine W.mono (Q:=fun x' e h=> x'= .normal∧h.ents[0]? =some (0,some [V.isl (List.map enc s'.code),iI s'.at_,V.int .u64 s'.hash])∧Deep.rep h m ms' (fun k=> 3≤k∧k < E1.length)∧e.length=57∧e.at 0=V.ptr 0 0 0∧e.at 5=eP x∧e.at 9=m) ?_ ?_
 rotate_left
 ·rintro _ e ⟨E,c⟩ ⟨rfl,g0,g3,hl_1,aF,aH,bF⟩
  simp only at g0;simp only[simprocAttr, -Int.reduceNatCast',R0,hl_1,aF,aH,bF,g0];have r3:∀ (u:nO) c,frz ⟨E.set 0 u,c⟩ 16 m=some (V.isl (List.map enc ms')):=fun u c=> Deep.fz (α:=L3) (Deep.frame g3 fun k q=> qt (by omega)) 9;exact zu (by simp only[simprocAttr, -Int.reduceNatCast',R0,qe,p487,Rs.ev,hl_1,aF,aH,bF,g0,r3])
 show W A (.block 0 (.loop true b487_1)) _ _ _;rw[qj];refine zi gl _ rfl (fun s e h=> h.ents[0]? =some (0,some [V.isl (List.map enc s.1.1.code),iI s.1.1.at_,V.int .u64 s.1.1.hash])∧Deep.rep h m s.1.2 (fun k=> 3≤k∧k < E1.length)∧e.length=57∧e.at 0=V.ptr 0 0 0∧e.at 5=eP x∧e.at 9=m∧e.at 10=iI s.2) ?_ ?_
 ·refine⟨m0,t2,?_⟩
  simp only[simprocAttr, -Int.reduceNatCast',R0,hl_0,aA,aB,aN,bR]
 ·clear t1 t1' t2 t4 m0 hl_0 aA aB aN bR wz gl
  rintro⟨⟨s,ms⟩,i⟩ e ⟨E,c⟩ ⟨g0,g3,hl_1,aF,aH,bF,bQ⟩ oo ho;simp only at g0 g3 bQ;unfold F487_1_S at ho;simp only at ho;have hlen:=rep_len g3;by_cases q1:i < (ms.length:Int)
  ·rw[if_pos q1]at ho
   obtain⟨⟨s2,lu⟩,gl,ho⟩:=bS ho;obtain⟨i',gi,ho⟩:=bS ho;have wi:=qu gi;have hE:=wA ho; subst hE;simp only[simprocAttr, -Int.reduceNatCast',R0,b487_1,hl_1,aF,aH,bF,bQ,hlen,eq_true q1];refine W.mono (Q:=fun x' e h=> x'= .normal∧h.ents[0]? =some (0,some (eS s2))∧Deep.rep h m lu (fun k=> 3≤k∧k < E1.length)∧e.length=57∧e.at 0=V.ptr 0 0 0∧e.at 5=eP x∧e.at 9=m∧e.at 10=iI i) ?_ ?_
   rotate_left
   ·rintro _ e ⟨E2,c2⟩ ⟨rfl,k0,k3,hl_2,dH,fW,fD,cZ⟩
    simp only at k0;simp only[simprocAttr, -Int.reduceNatCast',R0,hl_2,dH,fW,fD,cZ,wi];refine ai rfl ⟨k0,k3,?_⟩;simp only[simprocAttr, -Int.reduceNatCast',R0,hl_2,dH,fW,fD,cZ,wi]
   show W A (.block 2 (.loop true b487_2)) _ _ _;rw[qj];refine zi gl _ rfl (fun s e h=> h.ents[0]? =some (0,some [V.isl (List.map enc s.1.1.code),iI s.1.1.at_,V.int .u64 s.1.1.hash])∧Deep.rep h m s.1.2 (fun k=> 3≤k∧k < E1.length)∧e.length=57∧e.at 0=V.ptr 0 0 0∧e.at 5=eP x∧e.at 9=m∧e.at 10=iI i∧e.at 11=iI s.2) ?_ ?_
   ·refine⟨g0,g3,?_⟩
    simp only[simprocAttr, -Int.reduceNatCast',R0,hl_1,aF,aH,bF,bQ]
   ·clear g0 g3 hl_1 aF aH bF bQ hlen gl q1
    rintro⟨⟨s,ms⟩,j⟩ e ⟨E,c⟩ ⟨g0,g3,hl_1,aF,aH,bF,bQ,aU⟩ oo ho;simp only at g0 g3 aU;unfold F487_2_S at ho;simp only at ho;obtain⟨t,gt,ho⟩:=bS ho;obtain⟨ta,tb⟩:=qg gt;have tc:=qY gt;obtain⟨key,uid,vs,x1,K1,rfl,a1,a2,a3,a4,a5,a6⟩:=rep_focus g3 tb;have o1:=qw a2;simp only at a1;have hlt:=rep_len a4;by_cases q2:j < (t.length:Int)
    ·rw[if_pos q2]at ho
     obtain⟨row,gr,ho⟩:=bS ho;obtain⟨ra,rb⟩:=qg gr;have rc:=qY gr;obtain⟨key2,uid2,vs2,x2,K2,rfl,b1,b2,b3,b4,b5,b6⟩:=rep_focus a4 rb;have o2:=qw b2;simp only at b1;obtain⟨⟨s3,row'⟩,gq,ho⟩:=bS ho;obtain⟨t',gt',ho⟩:=bS ho;have st:=setI_eq gt';obtain⟨ms3,gm',ho⟩:=bS ho;have sm:=setI_eq gm';obtain⟨j',gj,ho⟩:=bS ho;have wj:=qu gj;have hE:=wA ho; subst hE;simp only[simprocAttr, -Int.reduceNatCast',R0,b487_2,hl_1,aF,aH,bF,bQ,aU,ta,eq_true tc,a1,o1,hlt,eq_true q2,ra,eq_true rc,b1,o2];refine W.mono (Q:=fun x' e h=> x'= .normal∧h.ents[0]? =some (0,some (eS s3))∧Deep.rep h x2 row' K2∧(∀k,k≠0→¬K2 k→h.ents[k]? =E[k]?)∧e.length=57∧e.at 0=V.ptr 0 0 0∧e.at 5=eP x∧e.at 9=V.sl key uid 0 ms.length 1∧e.at 10=iI i∧e.at 11=iI j∧e.at 12=x2) ?_ ?_
     rotate_left
     ·rintro _ e ⟨E2,c2⟩ ⟨rfl,k0,k3,k4,hl_2,dH,fW,fD,cZ,fG,fF⟩
      simp only at k0 k4;simp only[simprocAttr, -Int.reduceNatCast',R0,hl_2,dH,fW,fD,cZ,fG,fF,wj];have f2:Deep.rep ⟨E2,c2⟩ (V.sl key2 uid2 0 t.length 1) t' K1:=by rw[st]; exact b6 _ _ k3 fun k h1 h2=> k4 k (fun e0=> absurd (a5 k h1).1 (by rw[e0]; decide)) h2
      have f3:Deep.rep ⟨E2,c2⟩ (V.sl key uid 0 ms.length 1) ms3 (fun k=> 3≤k∧k < E1.length):=by rw[sm]; exact a6 _ _ f2 fun k h1 h2=> k4 k (fun e0=> absurd h1.1 (by rw[e0]; decide)) fun h3=> h2 (b5 k h3)
      refine ai rfl ⟨k0,f3,?_⟩;simp only[simprocAttr, -Int.reduceNatCast',R0,hl_2,dH,fW,fD,cZ,fG,fF,wj]
     show W A (.block 4 (.loop true b487_3)) _ _ _;rw[qj];refine zi gq _ rfl (fun s e h=> h.ents[0]? =some (0,some [V.isl (List.map enc s.1.1.code),iI s.1.1.at_,V.int .u64 s.1.1.hash])∧Deep.rep h x2 s.1.2 K2∧(∀k,k≠0→¬K2 k→h.ents[k]? =E[k]?)∧e.length=57∧e.at 0=V.ptr 0 0 0∧e.at 5=eP x∧e.at 9=V.sl key uid 0 ms.length 1∧e.at 10=iI i∧e.at 11=iI j∧e.at 12=x2∧e.at 13=iI s.2) ?_ ?_
     ·refine⟨g0,b4,fun k _ _=> rfl,?_⟩
      simp only[simprocAttr, -Int.reduceNatCast',R0,hl_1,aF,aH,bF,bQ,aU]
     ·have K0:¬K2 0:=fun h0=> absurd (a5 0 (b5 0 h0)).1 (by decide)
      clear hl_1 aF aH bF bQ aU hlt gq;rintro⟨⟨s,row⟩,l⟩ e ⟨E2,c2⟩ ⟨k0,k3,k4,hl_2,dH,fW,fD,cZ,fG,fF,hZ⟩ oo ho;simp only at k0 k3 k4 hZ;unfold F487_3_S at ho;simp only at ho;have hlr:=rep_len k3;by_cases q3:l < (row.length:Int)
      ·rw[if_pos q3]at ho
       obtain⟨z1,gz1,ho⟩:=bS ho;have wz1:xans A 416 (eS s) [iI 3]=some (iI z1.a,(eS z1.b)):=s416 s 3 gz1;by_cases q4:z1.a=0
       ·rw[if_pos q4]at ho
        obtain⟨v,gv,ho⟩:=bS ho;have wv:xans A 416 (eS z1.b) [iI x.P]=some (iI v.a,(eS v.b)):=s416 z1.b x.P gv;obtain⟨kT,gs,ho⟩:=bS ho;obtain⟨s1,i4,s3',s4,s5⟩:=jy gs;have g9:List.take l.toNat (row.map enc)++[iI v.a]++List.drop (l.toNat+1) (row.map enc)=List.map enc kT:=s5;obtain⟨l',py,ho⟩:=bS ho;have wl:=qu py;have hE:=wA ho; subst hE;rcases row_int k3 with⟨_,rfl,_⟩|⟨nQ,t9,rfl,d1,d2⟩
        ·exact absurd s1 (by have:=i4; simp at q3; omega)
        simp only at d1;have hk3E:nQ < E2.length:=gA d1;have tN:nQ≠0:=fun h0=> K0 ((d2 0).2 h0.symm);have n0:∀u:nO,(E2.set 0 u)[0]? =some u:=fun u=> qr (by have:=gA k0; omega);have nk:∀ (u z:nO),((E2.set 0 u).set 0 z)[nQ]? =_:=fun u z=>(qt tN).trans ((qt tN).trans d1);simp only[simprocAttr, -Int.reduceNatCast',R0,b487_3,hl_2,dH,fW,fD,cZ,fG,fF,hZ,hlr,eq_true q3,qf,k0,wz1,eq_true q4,n0,wv,s1,i4,nk,s3',g9,wl];have sl:kT.length=row.length:=s4;have f1:∀ (u z:nO) c,Deep.rep ⟨((E2.set 0 u).set 0 z).set nQ (t9,some (kT.map enc)),c⟩ (V.sl nQ t9 0 row.length 1) kT K2:=fun u z c=> by rw[←sl]; exact jT (qr (by simp; exact hk3E)) d2
        refine ai rfl ⟨(qt (fun e=> tN e.symm)).trans (qr (by simp; omega)),f1 _ _ _,fun k h1 h2=>(qt fun e=> h2 ((d2 k).2 e)).trans ((qt h1).trans ((qt h1).trans (k4 k h1 h2))),?_⟩;simp only[simprocAttr, -Int.reduceNatCast',R0,hl_2,dH,fW,fD,cZ,fG,fF,hZ,wl]
       ·rw[if_neg q4]at ho
        obtain⟨l',py,ho⟩:=bS ho;have wl:=qu py;have hE:=wA ho; subst hE;simp only[simprocAttr, -Int.reduceNatCast',R0,b487_3,hl_2,dH,fW,fD,cZ,fG,fF,hZ,hlr,eq_true q3,qf,k0,wz1,eq_false q4,wl];have fr:∀u:nO,∀k,k≠0→(E2.set 0 u)[k]? =E2[k]?:=fun u k h1=> qt h1;refine ai rfl ⟨qr (by have:=gA k0; omega),Deep.frame k3 fun k hk=> fr _ k fun e=> K0 (e▸hk),fun k h1 h2=>(fr _ k h1).trans (k4 k h1 h2),?_⟩;simp only[simprocAttr, -Int.reduceNatCast',R0,hl_2,dH,fW,fD,cZ,fG,fF,hZ,wl]
      ·rw[if_neg q3]at ho
       have hE:=wA ho; subst hE;simp only[simprocAttr, -Int.reduceNatCast',R0,b487_3,hl_2,dH,fW,fD,cZ,fG,fF,hZ,hlr,eq_false q3];intro ht; cases ht;refine ai rfl ⟨k0,k3,k4,?_⟩;simp only[simprocAttr, -Int.reduceNatCast',R0,hl_2,dH,fW,fD,cZ,fG,fF,hZ]
    ·rw[if_neg q2]at ho
     have hE:=wA ho; subst hE;simp only[simprocAttr, -Int.reduceNatCast',R0,b487_2,hl_1,aF,aH,bF,bQ,aU,ta,eq_true tc,a1,o1,hlt,eq_false q2];intro ht; cases ht;refine ai rfl ⟨g0,g3,?_⟩;simp only[simprocAttr, -Int.reduceNatCast',R0,hl_1,aF,aH,bF,bQ,aU]
  ·rw[if_neg q1]at ho
   have hE:=wA ho; subst hE;simp only[simprocAttr, -Int.reduceNatCast',R0,b487_1,hl_1,aF,aH,bF,bQ,hlen,eq_false q1];intro ht; cases ht;refine ai rfl ⟨g0,g3,?_⟩;simp only[simprocAttr, -Int.reduceNatCast',R0,hl_1,aF,aH,bF,bQ]
def F78(a0:Int):Option Bool:=
 if a0=2 then
  some true
 else
  if a0=3 then
   some true
  else
   if a0=5 then
    some true
   else
    some (decide (a0=7))
theorem s78(a0:Int){r:Bool}(hF:F78 a0=some r):ans A 78 [iI a0]=some (enc r):=by
 refine qv (f:=p78) rfl rfl rfl fun e hl he=>?_;have aA:=he 0 _ rfl;have hl_0:e.length=17:=hl;clear he hl;have h_0:=ai hl_0 aA;show W A b78 e ⟨[],0⟩ _;unfold F78 at hF;by_cases c1:a0=2
 ·rw[if_pos c1]at hF
  cases hF;simp only[simprocAttr,R0,b78, *];exact qc (by simp only[simprocAttr,R0,qe,p78,Rs.ev,qb, *])
 ·rw[if_neg c1]at hF
  by_cases c2:a0=3
  ·rw[if_pos c2]at hF
   cases hF;simp only[simprocAttr,R0,b78, *];exact qc (by simp only[simprocAttr,R0,qe,p78,Rs.ev,qb, *])
  ·rw[if_neg c2]at hF
   by_cases c3:a0=5
   ·rw[if_pos c3]at hF
    cases hF;simp only[simprocAttr,R0,b78, *];exact qc (by simp only[simprocAttr,R0,qe,p78,Rs.ev,qb, *])
   ·rw[if_neg c3]at hF
    cases hF;simp only[simprocAttr,R0,b78, *];exact qc (by simp only[simprocAttr,R0,qe,p78,Rs.ev,qb, *])
def F79_2_S(a0:Int)(a1:L2)(a3:Int)(aL:Int)(aG:Int):Option ((Int)⊕((Unit)⊕Bool)):=
 (getI a1 aL).bind fun bA=>
if aG < (bA.length:Int)then
 (getI bA aG).bind fun cO=>
 (chk (a0 - 1)).bind fun cC=>
 (F54 cO 0 cC).bind fun dU=>
 if dU=true then
  (chk (aG+1)).bind fun eA=>
  some (.inl eA)
 else
  some (.inr (.inr false))
else
 some (.inr (.inl ()))
def F79_1_B(a0:Int)(a1:L2)(a3:Int)(aL:Int)(s:Unit):Option ((Unit)⊕((Unit)⊕Bool)):=
 (getI a1 aL).bind fun x5=>
if(x5.length:Int)=a3 then
 (qA (F79_2_S a0 a1 a3 aL) 0).bind fun v4=> match v4 with
  | .inl _=>
   some (.inl ())
  | .inr r21=> some (.inr (.inr r21))
else
 some (.inr (.inr false))
def F79_1_D(a0:Int)(a1:L2)(a3:Int)(aL:Int)(s:Unit):Option ((Unit)⊕Bool):=
 some (.inl ())
def F79(a0:Int)(a1:L2)(a2:Int)(a3:Int):Option Bool:=
 if(a1.length:Int)=a2 then
  (forR 0 (a1.length:Int) (F79_1_B a0 a1 a3) (F79_1_D a0 a1 a3) ()).bind fun lg=> match lg with
   | .inl _=>
    some true
   | .inr r23=> some r23
 else
  some false
def I79_2(a0:Int)(a1:L2)(a3:Int)(aL:Int)(aG:Int)(e:Env)(h:Heap):Prop:=
 ∃k9:Nat,h=⟨[],k9⟩∧e.length=48∧e.at 0=iI a0∧e.at 1=iL a1∧e.at 3=iI a3∧e.at 9=iI aL∧e.at 10=iI aG
def P79_2(a0:Int)(a1:L2)(a3:Int)(aL:Int)(t:(Unit)⊕Bool)(x:Ex)(e:Env)(h:Heap):Prop:=
 match t with
 | .inl _=> x= .normal∧∃k9:Nat,h=⟨[],k9⟩∧e.length=48∧e.at 0=iI a0∧e.at 1=iL a1∧e.at 3=iI a3∧e.at 9=iI aL
 | .inr r=> x= .ret∧Fin p79 (enc r) .ret e h
theorem l79_2(a0:Int)(a1:L2)(a3:Int)(aL:Int){s:Int}{t:(Unit)⊕Bool}(hF:qA (F79_2_S a0 a1 a3 aL) s=some t){e:Env}{h:Heap}(hI:I79_2 a0 a1 a3 aL s e h):W A c79_2 e h (P79_2 a0 a1 a3 aL t):=by
 show W A (.block 2 (.loop false b79_2)) e h _;rw[qj];refine zi hF 0 (by obtain⟨_,rfl,_⟩:=hI; rfl) (I79_2 a0 a1 a3 aL) hI ?_
 ·rintro aG e h ⟨k9,rfl,h_8⟩ o ho
  unfold F79_2_S at ho;obtain⟨bA,cM,ho⟩:=bS ho;obtain⟨fY,fX⟩:=qg cM;by_cases c13:aG < (bA.length:Int)
  ·rw[if_pos c13]at ho
   obtain⟨cO,eF,ho⟩:=bS ho;obtain⟨kQ,iH⟩:=qg eF;obtain⟨cC,dM,ho⟩:=bS ho;have m8:=qu dM;obtain⟨dU,eL,ho⟩:=bS ho;have kg:=s54 cO 0 cC eL;cases dU with
   |true=>
    rw[if_pos rfl]at ho;obtain⟨eA,dV,ho⟩:=bS ho;have sC:=qu dV;cases ho;simp only[simprocAttr,R0,b79_2, *];refine ai rfl (ei _ (ai rfl ?_));simp only[simprocAttr,R0, *]
   |false=>
    rw[if_neg wD]at ho;cases ho;simp only[simprocAttr,R0,b79_2, *];intro ht; subst ht;simp only[simprocAttr,RR,RB];exact ai rfl (qc (by simp only[simprocAttr,R0,qe,p79,Rs.ev,qb, *]))
  ·rw[if_neg c13]at ho
   cases ho;simp only[simprocAttr,R0,b79_2, *];intro ht; subst ht;simp only[simprocAttr,RR,RB];refine ai rfl (ei _ (ai rfl ?_));simp only[simprocAttr,R0, *]
def I79_1(a0:Int)(a1:L2)(a3:Int)(aL:Int)(s:Unit)(e:Env)(h:Heap):Prop:=
 ∃k3:Nat,h=⟨[],k3⟩∧e.length=48∧e.at 0=iI a0∧e.at 1=iL a1∧e.at 3=iI a3∧e.at 9=iI aL
def P79_1(a0:Int)(a1:L2)(a3:Int)(t:(Unit)⊕Bool)(x:Ex)(e:Env)(h:Heap):Prop:=
 match t with
 | .inl _=> x= .normal∧∃k3:Nat,h=⟨[],k3⟩∧e.length=48
 | .inr r=> x= .ret∧Fin p79 (enc r) .ret e h
theorem l79_1(a0:Int)(a1:L2)(a3:Int){lo:Int}{s:Unit}{t:(Unit)⊕Bool}(hF:forR lo (a1.length:Int) (F79_1_B a0 a1 a3) (F79_1_D a0 a1 a3) s=some t){e:Env}{h:Heap}(hI:I79_1 a0 a1 a3 lo s e h):W A c79_1 e h (P79_1 a0 a1 a3 t):=by
 show W A (.block 0 (.loop false b79_1)) e h _;rw[qj];refine qz hF 0 (by obtain⟨_,rfl,_⟩:=hI; rfl) (I79_1 a0 a1 a3) hI ?_ ?_
 ·rintro aL _ e h ⟨k3,rfl,h_2⟩ hlt hw o ho
  unfold F79_1_B at ho;obtain⟨x5,dC,ho⟩:=bS ho;obtain⟨iE,iD⟩:=qg dC;by_cases c7:(x5.length:Int)=a3
  ·rw[if_pos c7]at ho
   obtain⟨v4,pW,ho⟩:=bS ho;rcases v4 with _|r21
   ·dsimp only at ho
    simp only[simprocAttr,R0,b79_1, *];refine W.mono (l79_2 a0 a1 a3 aL pW (ei _ (ai rfl ?_))) ?_
    ·simp only[simprocAttr,R0, *]
    rintro _ e _ ⟨rfl,k9,rfl,h_10⟩;cases ho;simp only[simprocAttr,R0, *];refine ai rfl (ei _ (ai rfl ?_));simp only[simprocAttr,R0, *]
   ·dsimp only at ho
    cases ho;simp only[simprocAttr,R0,b79_1, *];refine W.mono (l79_2 a0 a1 a3 aL pW (ei _ (ai rfl ?_))) ?_
    ·simp only[simprocAttr,R0, *]
    rintro _ e h ⟨rfl,hq⟩;simp only[simprocAttr,RR,RB];intro ht; subst ht;simp only[simprocAttr,RR,RB];exact ai rfl hq
  ·rw[if_neg c7]at ho
   cases ho;simp only[simprocAttr,R0,b79_1, *];intro ht; subst ht;simp only[simprocAttr,RR,RB];exact ai rfl (qc (by simp only[simprocAttr,R0,qe,p79,Rs.ev,qb, *]))
 ·rintro aL _ e h ⟨k3,rfl,h_2⟩ hge t1 ho
  unfold F79_1_D at ho;cases ho;simp only[simprocAttr,R0,b79_1, *];intro ht; subst ht;refine ai rfl (ei _ (ai rfl ?_));simp only[simprocAttr,R0, *]
theorem s79(a0:Int)(a1:L2)(a2:Int)(a3:Int){r:Bool}(hF:F79 a0 a1 a2 a3=some r):ans A 79 [iI a0,iL a1,iI a2,iI a3]=some (enc r):=by
 refine qv (f:=p79) rfl rfl rfl fun e hl he=>?_;have aA:=he 0 _ rfl;have aB:=he 1 _ rfl;have aN:=he 2 _ rfl;have bR:=he 3 _ rfl;have hl_0:e.length=48:=hl;clear he hl;have h_0:=ai hl_0 (ai aA (ai aB (ai aN bR)));show W A b79 e ⟨[],0⟩ _;unfold F79 at hF;by_cases c1:(a1.length:Int)=a2
 ·rw[if_pos c1]at hF
  obtain⟨lg,pV,hF⟩:=bS hF;rcases lg with _|r23
  ·dsimp only at hF
   simp only[simprocAttr,R0,b79, *];refine W.mono (l79_1 a0 a1 a3 pV (ei _ (ai rfl ?_))) ?_
   ·simp only[simprocAttr,R0, *]
   rintro _ e _ ⟨rfl,k3,rfl,hl_4⟩;cases hF;simp only[simprocAttr,R0, *];exact qc (by simp only[simprocAttr,R0,qe,p79,Rs.ev,qb, *])
  ·dsimp only at hF
   cases hF;simp only[simprocAttr,R0,b79, *];refine W.mono (l79_1 a0 a1 a3 pV (ei _ (ai rfl ?_))) ?_
   ·simp only[simprocAttr,R0, *]
   rintro _ e h ⟨rfl,hq⟩;simp only[simprocAttr,RR,RB];exact hq
 ·rw[if_neg c1]at hF
  cases hF;simp only[simprocAttr,R0,b79, *];exact qc (by simp only[simprocAttr,R0,qe,p79,Rs.ev,qb, *])
def F39_1_B(a0:qa)(bT:Int)(s:Unit):Option ((Unit)⊕((Unit)⊕Bool)):=
 (getI a0.D bT).bind fun dI=>
(F54 dI 0 8).bind fun dG=>
if dG=true then
 some (.inl ())
else
 some (.inr (.inr false))
def F39_1_D(a0:qa)(bT:Int)(s:Unit):Option ((Unit)⊕Bool):=
 some (.inl ())
def F39_3_S(a0:qa)(dB:Int)(lN:Int):Option ((Int)⊕((Unit)⊕Bool)):=
 (getI a0.M dB).bind fun rY=>
if lN < (rY.length:Int)then
 if 0 < dB then
  (chk (dB - 1)).bind fun fU=>
  (getI a0.M fU).bind fun eW=>
  (getI rY lN).bind fun nH=>
  (getI a0.D fU).bind fun fT=>
  (F80 a0.P eW nH fT).bind fun rX=>
  (F81 rX).bind fun lJ=>
  if 0≤lJ then
   some (.inr (.inr false))
  else
   (chk (lN+1)).bind fun pL=>
   some (.inl pL)
 else
  some (.inr (.inl ()))
else
 some (.inr (.inl ()))
def F39_2_B(a0:qa)(dB:Int)(s:Unit):Option ((Unit)⊕((Unit)⊕Bool)):=
 (getI a0.M dB).bind fun eM=>
(getI a0.D (dB+1)).bind fun dN=>
(getI a0.D dB).bind fun dZ=>
(F79 a0.P eM dN dZ).bind fun iG=>
if iG=true then
 (qA (F39_3_S a0 dB) 0).bind fun tA=> match tA with
  | .inl _=>
   some (.inl ())
  | .inr r47=> some (.inr (.inr r47))
else
 some (.inr (.inr false))
def F39_2_D(a0:qa)(dB:Int)(s:Unit):Option ((Unit)⊕Bool):=
 some (.inl ())
def F39(a0:qa):Option Bool:=
 (F78 a0.P).bind fun x1=>
 if x1=true then
  if(a0.D.length:Int) < 1 then
   some false
  else
   if 6 < (a0.D.length:Int)then
    some false
   else
    (chk ((a0.D.length:Int) - 1)).bind fun x5=>
    if(a0.M.length:Int)=x5 then
     (forR 0 (a0.D.length:Int) (F39_1_B a0) (F39_1_D a0) ()).bind fun lj=> match lj with
      | .inl _=>
       (forR 0 (a0.M.length:Int) (F39_2_B a0) (F39_2_D a0) ()).bind fun kt=> match kt with
        | .inl _=>
         some true
        | .inr r49=> some r49
      | .inr v6=> some v6
    else
     some false
 else
  some false
def I39_1(a0:qa)(bT:Int)(s:Unit)(e:Env)(h:Heap):Prop:=
 ∃k8:Nat,h=⟨[(0,none)],k8⟩∧e.length=112∧e.at 1=eP a0∧e.at 3=iI bT
def P39_1(a0:qa)(t:(Unit)⊕Bool)(x:Ex)(e:Env)(h:Heap):Prop:=
 match t with
 | .inl _=> x= .normal∧∃k8:Nat,h=⟨[(0,none)],k8⟩∧e.length=112∧e.at 1=eP a0
 | .inr r=> x= .ret∧Fin p39 (enc r) .ret e h
theorem l39_1(a0:qa){lo:Int}{s:Unit}{t:(Unit)⊕Bool}(hF:forR lo (a0.D.length:Int) (F39_1_B a0) (F39_1_D a0) s=some t){e:Env}{h:Heap}(hI:I39_1 a0 lo s e h):W A c39_1 e h (P39_1 a0 t):=by
 show W A (.block 0 (.loop false b39_1)) e h _;rw[qj];refine qz hF 1 (by obtain⟨_,rfl,_⟩:=hI; rfl) (I39_1 a0) hI ?_ ?_
 ·rintro bT _ e h ⟨k8,rfl,h_7⟩ hlt hw o ho
  unfold F39_1_B at ho;obtain⟨dI,dY,ho⟩:=bS ho;obtain⟨w11a,w11b⟩:=qg dY;obtain⟨dG,dQ,ho⟩:=bS ho;have de:=s54 dI 0 8 dQ;cases dG with
  |true=>
   rw[if_pos rfl]at ho;cases ho;simp only[simprocAttr,R0,b39_1, *];refine ai rfl (ei _ (ai rfl ?_));simp only[simprocAttr,R0, *]
  |false=>
   rw[if_neg wD]at ho;cases ho;simp only[simprocAttr,R0,b39_1, *];intro ht; subst ht;simp only[simprocAttr,RR,RB];exact ai rfl (qc (by simp only[simprocAttr,R0,qe,p39,Rs.ev,qb, *]))
 ·rintro bT _ e h ⟨k8,rfl,h_7⟩ hge t1 ho
  unfold F39_1_D at ho;cases ho;simp only[simprocAttr,R0,b39_1, *];intro ht; subst ht;refine ai rfl (ei _ (ai rfl ?_));simp only[simprocAttr,R0, *]
def I39_3(a0:qa)(dB:Int)(lN:Int)(e:Env)(h:Heap):Prop:=
 ∃nE:Nat,h=⟨[(0,none)],nE⟩∧e.length=112∧e.at 1=eP a0∧e.at 4=iI dB∧e.at 5=iI lN
def P39_3(a0:qa)(dB:Int)(t:(Unit)⊕Bool)(x:Ex)(e:Env)(h:Heap):Prop:=
 match t with
 | .inl _=> x= .normal∧∃nE:Nat,h=⟨[(0,none)],nE⟩∧e.length=112∧e.at 1=eP a0∧e.at 4=iI dB
 | .inr r=> x= .ret∧Fin p39 (enc r) .ret e h
theorem l39_3(a0:qa)(dB:Int){s:Int}{t:(Unit)⊕Bool}(hF:qA (F39_3_S a0 dB) s=some t){e:Env}{h:Heap}(hI:I39_3 a0 dB s e h):W A c39_3 e h (P39_3 a0 dB t):=by
 show W A (.block 4 (.loop false b39_3)) e h _;rw[qj];refine zi hF 1 (by obtain⟨_,rfl,_⟩:=hI; rfl) (I39_3 a0 dB) hI ?_
 ·rintro lN e h ⟨nE,rfl,h_26⟩ o ho
  unfold F39_3_S at ho;obtain⟨rY,uP,ho⟩:=bS ho;obtain⟨w30a,w30b⟩:=qg uP;by_cases c31:lN < (rY.length:Int)
  ·rw[if_pos c31]at ho
   by_cases rQ:0 < dB
   ·rw[if_pos rQ]at ho
    obtain⟨fU,iA,ho⟩:=bS ho;have m4:=qu iA;obtain⟨eW,lV,ho⟩:=bS ho;obtain⟨io,il⟩:=qg lV;obtain⟨nH,oA,ho⟩:=bS ho;obtain⟨w37a,w37b⟩:=qg oA;obtain⟨fT,lU,ho⟩:=bS ho;obtain⟨ij,ig⟩:=qg lU;obtain⟨rX,uN,ho⟩:=bS ho;have w41:=s80 a0.P eW nH fT uN;obtain⟨lJ,lS,ho⟩:=bS ho;have w43:=s81 rX lS;by_cases cn:0≤lJ
    ·rw[if_pos cn]at ho
     cases ho;simp only[simprocAttr,R0,b39_3, *];intro ht; subst ht;simp only[simprocAttr,RR,RB];exact ai rfl (qc (by simp only[simprocAttr,R0,qe,p39,Rs.ev,qb, *]))
    ·rw[if_neg cn]at ho
     obtain⟨pL,nC,ho⟩:=bS ho;have wx45:=qu nC;cases ho;simp only[simprocAttr,R0,b39_3, *];refine ai rfl (ei _ (ai rfl ?_));simp only[simprocAttr,R0, *]
   ·rw[if_neg rQ]at ho
    cases ho;simp only[simprocAttr,R0,b39_3, *];intro ht; subst ht;simp only[simprocAttr,RR,RB];refine ai rfl (ei _ (ai rfl ?_));simp only[simprocAttr,R0, *]
  ·rw[if_neg c31]at ho
   cases ho;simp only[simprocAttr,R0,b39_3, *];intro ht; subst ht;simp only[simprocAttr,RR,RB];refine ai rfl (ei _ (ai rfl ?_));simp only[simprocAttr,R0, *]
def I39_2(a0:qa)(dB:Int)(s:Unit)(e:Env)(h:Heap):Prop:=
 ∃j5:Nat,h=⟨[(0,none)],j5⟩∧e.length=112∧e.at 1=eP a0∧e.at 4=iI dB
def P39_2(a0:qa)(t:(Unit)⊕Bool)(x:Ex)(e:Env)(h:Heap):Prop:=
 match t with
 | .inl _=> x= .normal∧∃j5:Nat,h=⟨[(0,none)],j5⟩∧e.length=112
 | .inr r=> x= .ret∧Fin p39 (enc r) .ret e h
theorem l39_2(a0:qa){lo:Int}{s:Unit}{t:(Unit)⊕Bool}(hF:forR lo (a0.M.length:Int) (F39_2_B a0) (F39_2_D a0) s=some t){e:Env}{h:Heap}(hI:I39_2 a0 lo s e h):W A c39_2 e h (P39_2 a0 t):=by
 show W A (.block 2 (.loop false b39_2)) e h _;rw[qj];refine qz hF 1 (by obtain⟨_,rfl,_⟩:=hI; rfl) (I39_2 a0) hI ?_ ?_
 ·rintro dB _ e h ⟨j5,rfl,h_15⟩ hlt hw o ho
  unfold F39_2_B at ho;obtain⟨eM,eE,ho⟩:=bS ho;obtain⟨sN,sM⟩:=qg eE;obtain⟨dN,eT,ho⟩:=bS ho;obtain⟨ke,kd⟩:=qg eT;obtain⟨dZ,kG,ho⟩:=bS ho;obtain⟨sK,sJ⟩:=qg kG;obtain⟨iG,kF,ho⟩:=bS ho;have w25:=s79 a0.P eM dN dZ kF;cases iG with
  |true=>
   rw[if_pos rfl]at ho;obtain⟨tA,oK,ho⟩:=bS ho;rcases tA with _|r47
   ·dsimp only at ho
    simp only[simprocAttr,R0,b39_2, *];refine W.mono (l39_3 a0 dB oK (ei _ (ai rfl ?_))) ?_
    ·simp only[simprocAttr,R0, *]
    rintro _ e _ ⟨rfl,nE,rfl,h_28⟩;cases ho;simp only[simprocAttr,R0, *];refine ai rfl (ei _ (ai rfl ?_));simp only[simprocAttr,R0, *]
   ·dsimp only at ho
    cases ho;simp only[simprocAttr,R0,b39_2, *];refine W.mono (l39_3 a0 dB oK (ei _ (ai rfl ?_))) ?_
    ·simp only[simprocAttr,R0, *]
    rintro _ e h ⟨rfl,hq⟩;simp only[simprocAttr,RR,RB];intro ht; subst ht;simp only[simprocAttr,RR,RB];exact ai rfl hq
  |false=>
   rw[if_neg wD]at ho;cases ho;simp only[simprocAttr,R0,b39_2, *];intro ht; subst ht;simp only[simprocAttr,RR,RB];exact ai rfl (qc (by simp only[simprocAttr,R0,qe,p39,Rs.ev,qb, *]))
 ·rintro dB _ e h ⟨j5,rfl,h_15⟩ hge t1 ho
  unfold F39_2_D at ho;cases ho;simp only[simprocAttr,R0,b39_2, *];intro ht; subst ht;refine ai rfl (ei _ (ai rfl ?_));simp only[simprocAttr,R0, *]
theorem s39(a0:qa){r:Bool}(hF:F39 a0=some r):ans A 39 [(eC a0)]=some (enc r):=by
 refine qv (f:=p39) rfl rfl rfl fun e hl he=>?_;have aA:=he 0 _ rfl;have hl_0:e.length=112:=hl;clear he hl;have h_0:=ai hl_0 aA;show W A b39 e ⟨[],0⟩ _;unfold F39 at hF;obtain⟨x1,bI,hF⟩:=bS hF;have w2:=s78 a0.P bI;cases x1 with
 |true=>
  rw[if_pos rfl]at hF;by_cases c3:(a0.D.length:Int) < 1
  ·rw[if_pos c3]at hF
   cases hF;simp only[simprocAttr,R0,b39, *];exact qc (by simp only[simprocAttr,R0,qe,p39,Rs.ev,qb, *])
  ·rw[if_neg c3]at hF
   by_cases c4:6 < (a0.D.length:Int)
   ·rw[if_pos c4]at hF
    cases hF;simp only[simprocAttr,R0,b39, *];exact qc (by simp only[simprocAttr,R0,qe,p39,Rs.ev,qb, *])
   ·rw[if_neg c4]at hF
    obtain⟨x5,dC,hF⟩:=bS hF;have wx5:=qu dC;by_cases c6:(a0.M.length:Int)=x5
    ·rw[if_pos c6]at hF
     obtain⟨lj,bn,hF⟩:=bS hF;rcases lj with _|v6
     ·dsimp only at hF
      simp only[simprocAttr,R0,b39, *];refine W.mono (l39_1 a0 bn (ei _ (ai rfl ?_))) ?_
      ·simp only[simprocAttr,R0, *]
      rintro _ e _ ⟨rfl,k8,rfl,h_9⟩;obtain⟨kt,bh,hF⟩:=bS hF;rcases kt with _|r49
      ·dsimp only at hF
       simp only[simprocAttr,R0, *];refine W.mono (l39_2 a0 bh (ei _ (ai rfl ?_))) ?_
       ·simp only[simprocAttr,R0, *]
       rintro _ e _ ⟨rfl,j5,rfl,hl_17⟩;cases hF;simp only[simprocAttr,R0, *];exact qc (by simp only[simprocAttr,R0,qe,p39,Rs.ev,qb, *])
      ·dsimp only at hF
       cases hF;simp only[simprocAttr,R0, *];refine W.mono (l39_2 a0 bh (ei _ (ai rfl ?_))) ?_
       ·simp only[simprocAttr,R0, *]
       rintro _ e h ⟨rfl,hq⟩;simp only[simprocAttr,RR,RB];exact hq
     ·dsimp only at hF
      cases hF;simp only[simprocAttr,R0,b39, *];refine W.mono (l39_1 a0 bn (ei _ (ai rfl ?_))) ?_
      ·simp only[simprocAttr,R0, *]
      rintro _ e h ⟨rfl,hq⟩;simp only[simprocAttr,RR,RB];exact hq
    ·rw[if_neg c6]at hF
     cases hF;simp only[simprocAttr,R0,b39, *];exact qc (by simp only[simprocAttr,R0,qe,p39,Rs.ev,qb, *])
 |false=>
  rw[if_neg wD]at hF;cases hF;simp only[simprocAttr,R0,b39, *];exact qc (by simp only[simprocAttr,R0,qe,p39,Rs.ev,qb, *])
def F272(a0:Int)(a1:Int):Option L1:=
 (mkL 8 a0 0).bind fun l1=>
 (getI l1 a1).bind fun x3=>
 (setI l1 a1 1).bind fun l5=>
 some l5
theorem s272(a0:Int)(a1:Int){r:L1}(hF:F272 a0 a1=some r):ans A 272 [iI a0,iI a1]=some (enc r):=by
 refine qv (f:=p272) rfl rfl rfl fun e hl he=>?_;have aA:=he 0 _ rfl;have aB:=he 1 _ rfl;have hl_0:e.length=12:=hl;clear he hl;show W A b272 e ⟨[],0⟩ _;unfold F272 at hF;obtain⟨l1,oW,hF⟩:=bS hF;obtain⟨nK,nJ,rD,pA,kK⟩:=mkL_w oW;replace kK:(List.replicate (Int.toNat a0) [iI 0]).flatten=List.map enc l1:=kK;obtain⟨x3,dO,hF⟩:=bS hF;obtain⟨e8,rC⟩:=qg dO;have mS:=qY dO;replace mS:a1 < (((Int.toNat a0):Nat):Int):=by first|exact mS|(simp only[pA]at mS ⊢; exact mS)
 have o4:List.drop (Int.toNat a1) (l1.map enc)=(iI x3)::List.drop ((Int.toNat a1)+1) (l1.map enc):=jf rC;obtain⟨l5,bv,hF⟩:=bS hF;obtain⟨iE,iD,rB,lG,mF⟩:=jy bv;replace mF:List.take (Int.toNat a1) (l1.map enc)++[iI 1]++List.drop (Int.toNat a1+1) (l1.map enc)=List.map enc l5:=mF;have hE:=wA hF; subst hE;simp only[simprocAttr, -Int.reduceNatCast',R0,b272,hl_0,aA,aB,nK,nJ,rD,kK,e8,rC,mS,o4,iE,iD,rB,mF];exact qc (by simp only[simprocAttr, -Int.reduceNatCast',R0,qe,p272,Rs.ev,qb,hl_0,aA,aB,nK,nJ,rD,kK,e8,rC,mS,o4,iE,iD,rB,mF,frzs (α:=Int) l5,qM (α:=Int) l5,qK (α:=Int) (l:=l5) (n:=(Int.toNat a0)) (by first|rfl|simp only[pA,lG]),pA,lG])
def F474_2_S(a0:qa)(bJ:L3)(bC:Int)(s:L2×Int):Option ((L2×Int)⊕(L2)):=
 match s with
 |(lR,kR)=>
  (getI a0.D bC).bind fun bA=>
  if kR < bA then
   (F272 bA kR).bind fun cO=>
   (app 24 lR [cO]).bind fun mG=>
   (chk (kR+1)).bind fun eM=>
   some (.inl (mG,eM))
  else
   some (.inr lR)
def F474_1_B(a0:qa)(bC:Int)(bJ:L3):Option ((L3)⊕(L3)):=
 (qA (F474_2_S a0 bJ bC) ([],0)).bind fun fM=>
(app 24 bJ [fM]).bind fun l21=>
some (.inl l21)
def F474_1_D(a0:qa)(bC:Int)(bJ:L3):Option (L3):=
 some bJ
def F474(a0:qa):Option (T2 L3 Int):=
 (F39 a0).bind fun x1=>
 if x1=true then
  (forR 0 (a0.D.length:Int) (F474_1_B a0) (F474_1_D a0) ([]:L3)).bind fun bZ=>
  some ⟨bZ,0⟩
 else
  some ⟨([]:L3),1⟩
def I474_2(a0:qa)(bJ:L3)(bC:Int)(u4:Nat)(s:L2×Int)(e:Env)(h:Heap):Prop:=
 match s with
 |(lR,kR)=>
  ∃u8 k9:Nat,h=⟨[(0,none),(u4,some (bJ.map enc)),(u8,some (lR.map enc))],k9⟩∧e.length=44∧e.at 1=eP a0∧e.at 4=V.sl 1 u4 0 bJ.length 1∧e.at 5=iI bC∧e.at 6=V.sl 2 u8 0 lR.length 1∧e.at 7=iI kR
def P474_2(a0:qa)(bJ:L3)(bC:Int)(u4:Nat)(fM:L2)(x:Ex)(e:Env)(h:Heap):Prop:=
 x= .normal∧∃u8 k9:Nat,h=⟨[(0,none),(u4,some (bJ.map enc)),(u8,some (fM.map enc))],k9⟩∧e.length=44∧e.at 1=eP a0∧e.at 4=V.sl 1 u4 0 bJ.length 1∧e.at 5=iI bC∧e.at 6=V.sl 2 u8 0 fM.length 1
theorem l474_2(a0:qa)(bJ:L3)(bC:Int)(u4:Nat){s:L2×Int}{t:L2}(hF:qA (F474_2_S a0 bJ bC) s=some t){e:Env}{h:Heap}(hI:I474_2 a0 bJ bC u4 s e h):W A c474_2 e h (P474_2 a0 bJ bC u4 t):=by
 show W A (.block 2 (.loop false b474_2)) e h _;rw[qj];refine zi hF 3 (by rcases s with⟨_,_⟩; obtain⟨_,_,rfl,_⟩:=hI; rfl) (I474_2 a0 bJ bC u4) hI ?_
 ·rintro⟨lR,kR⟩ e h ⟨u8,k9,rfl,h_7⟩ o ho
  unfold F474_2_S at ho;dsimp only at ho;obtain⟨bA,cM,ho⟩:=bS ho;obtain⟨fY,fX⟩:=qg cM;by_cases c13:kR < bA
  ·rw[if_pos c13]at ho
   obtain⟨cO,eF,ho⟩:=bS ho;have g8:=s272 bA kR eF;obtain⟨mG,mA,ho⟩:=bS ho;have f0:=fun a b c d e=> qF (α:=L1) (n:=lR.length) (m:=1) (ds:=[iL cO]) mA (by first|rfl|simp) (by first|rfl|simp) rfl a b c d e;have w16l:=qZ mA;obtain⟨eM,eE,ho⟩:=bS ho;have m7:=qu eE;cases ho;simp only[simprocAttr,R0,b474_2, *];refine ai rfl (ei _ (ei _ (ai rfl ?_)));simp only[simprocAttr,R0, *]
  ·rw[if_neg c13]at ho
   cases ho;simp only[simprocAttr,R0,b474_2, *];intro ht; subst ht;simp only[simprocAttr,RR,RB];refine ai rfl (ei _ (ei _ (ai rfl ?_)));simp only[simprocAttr,R0, *]
def I474_1(a0:qa)(bC:Int)(bJ:L3)(e:Env)(h:Heap):Prop:=
 ∃u4 k5:Nat,h=⟨[(0,none),(u4,some (bJ.map enc))],k5⟩∧e.length=44∧e.at 1=eP a0∧e.at 4=V.sl 1 u4 0 bJ.length 1∧e.at 5=iI bC
def P474_1(a0:qa)(bZ:L3)(x:Ex)(e:Env)(h:Heap):Prop:=
 x= .normal∧∃u4 k5:Nat,h=⟨[(0,none),(u4,some (bZ.map enc))],k5⟩∧e.length=44∧e.at 4=V.sl 1 u4 0 bZ.length 1
theorem l474_1(a0:qa){lo:Int}{s:L3}{t:L3}(hF:forR lo (a0.D.length:Int) (F474_1_B a0) (F474_1_D a0) s=some t){e:Env}{h:Heap}(hI:I474_1 a0 lo s e h):W A c474_1 e h (P474_1 a0 t):=by
 show W A (.block 0 (.loop false b474_1)) e h _;rw[qj];refine qz hF 2 (by obtain⟨_,_,rfl,_⟩:=hI; rfl) (I474_1 a0) hI ?_ ?_
 ·rintro bC bJ e h ⟨u4,k5,rfl,h_3⟩ hlt hw o ho
  unfold F474_1_B at ho;obtain⟨fM,oO,ho⟩:=bS ho;simp only[simprocAttr,R0,b474_1, *];refine W.mono (l474_2 a0 bJ bC u4 oO (ei _ (ei _ (ai rfl ?_)))) ?_
  ·simp only[simprocAttr,R0, *]
  rintro _ e _ ⟨rfl,u8,k9,rfl,h_10⟩;obtain⟨l21,cg,ho⟩:=bS ho;have cz:=fun a b c d e=> qF (α:=L2) (n:=bJ.length) (m:=1) (ds:=[iL fM]) cg (by first|rfl|simp) (by first|rfl|simp) rfl a b c d e;have w20l:=qZ cg;cases ho;simp only[simprocAttr,R0,qM (α:=L1) fM, *];refine ai rfl (ei _ (ei _ (ai rfl ?_)));simp only[simprocAttr,R0,qM (α:=L1) fM, *]
 ·rintro bC bJ e h ⟨u4,k5,rfl,h_3⟩ hge t1 ho
  unfold F474_1_D at ho;cases ho;simp only[simprocAttr,R0,b474_1, *];intro ht; subst ht;refine ai rfl (ei _ (ei _ (ai rfl ?_)));simp only[simprocAttr,R0, *]
theorem s474(a0:qa){r:T2 L3 Int}(hF:F474 a0=some r):ans A 474 [(eC a0)]=some (EncR.enc r):=by
 refine qv (f:=p474) rfl rfl rfl fun e hl he=>?_;have aA:=he 0 _ rfl;have hl_0:e.length=44:=hl;clear he hl;have h_0:=ai hl_0 aA;show W A b474 e ⟨[],0⟩ _;unfold F474 at hF;obtain⟨x1,bI,hF⟩:=bS hF;have w2:=s39 a0 bI;cases x1 with
 |true=>
  rw[if_pos rfl]at hF;obtain⟨bZ,pV,hF⟩:=bS hF;simp only[simprocAttr,R0,b474, *];refine W.mono (l474_1 a0 pV (ei _ (ei _ (ai rfl ?_)))) ?_
  ·simp only[simprocAttr,R0, *]
  rintro _ e _ ⟨rfl,u4,k5,rfl,h_6⟩;cases hF;simp only[simprocAttr,R0, *];exact qc (by simp only[simprocAttr,R0,qe,p474,Rs.ev,qb,frzs (α:=L2) bZ,qM (α:=L2) bZ, *])
 |false=>
  rw[if_neg wD]at hF;cases hF;simp only[simprocAttr,R0,b474, *];exact qc (by simp only[simprocAttr,R0,qe,p474,Rs.ev,qb, *])
def F273(a0:qa)(a1:Int)(a2:L1):Option L1:=
 if a1=0 then
  some []
 else
  (F76 a0 a1).bind fun x2=>
  (chk (a1 - 1)).bind fun x4=>
  (F99 a0 x4).bind fun x5=>
  (F80 a0.P x2 a2 x5).bind fun x7=>
  some x7
theorem s273(a0:qa)(a1:Int)(a2:L1){r:L1}(hF:F273 a0 a1 a2=some r):ans A 273 [(eC a0),iI a1,iL a2]=some (enc r):=by
 refine qv (f:=p273) rfl rfl rfl fun e hl he=>?_;have aA:=he 0 _ rfl;have aB:=he 1 _ rfl;have aN:=he 2 _ rfl;have hl_0:e.length=21:=hl;clear he hl;show W A b273 e ⟨[],0⟩ _;unfold F273 at hF;by_cases c1:a1=0
 ·rw[if_pos c1]at hF
  have hE:=wA hF; subst hE;simp only[simprocAttr, -Int.reduceNatCast',R0,b273, *];exact qc (by simp only[simprocAttr, -Int.reduceNatCast',R0,qe,p273,Rs.ev,qb, *])
 ·rw[if_neg c1]at hF
  obtain⟨x2,fK,hF⟩:=bS hF;have w3:=s76 a0 a1 fK;obtain⟨x4,dK,hF⟩:=bS hF;have fb:=qu dK;obtain⟨x5,dC,hF⟩:=bS hF;have w6:=s99 a0 x4 dC;obtain⟨x7,dF,hF⟩:=bS hF;have w8:tans A 80 [1] [iI a0.P,iL x2,iL a2,iI x5]=some (iL x7):=t80 a0.P x2 a2 x5 dF;have fq:=qX (α:=Int) x7;have hE:=wA hF; subst hE;simp only[simprocAttr, -Int.reduceNatCast',R0,b273, *];exact qc (by simp only[simprocAttr, -Int.reduceNatCast',R0,qe,p273,Rs.ev,qb,frzs (α:=Int) x7,qM (α:=Int) x7, *])
theorem t273(a0:qa)(a1:Int)(a2:L1){r:L1}(hF:F273 a0 a1 a2=some r):tans A 273 [1] [(eC a0),iI a1,iL a2]=some (enc r):=by
 refine tans_of (f:=p273) rfl rfl rfl fun e hl he=>?_;have aA:=he 0 _ rfl;have aB:=he 1 _ rfl;have aN:=he 2 _ rfl;have hl_0:e.length=21:=hl;clear he hl;show W A b273 e ⟨[],0⟩ _;unfold F273 at hF;by_cases c1:a1=0
 ·rw[if_pos c1]at hF
  have hE:=wA hF; subst hE;simp only[simprocAttr, -Int.reduceNatCast',R0,b273, *];exact jF (by simp only[simprocAttr, -Int.reduceNatCast',R0,qe,p273,Rs.ev,qb, *])
 ·rw[if_neg c1]at hF
  obtain⟨x2,fK,hF⟩:=bS hF;have w3:=s76 a0 a1 fK;obtain⟨x4,dK,hF⟩:=bS hF;have fb:=qu dK;obtain⟨x5,dC,hF⟩:=bS hF;have w6:=s99 a0 x4 dC;obtain⟨x7,dF,hF⟩:=bS hF;have w8:tans A 80 [1] [iI a0.P,iL x2,iL a2,iI x5]=some (iL x7):=t80 a0.P x2 a2 x5 dF;have fq:=qX (α:=Int) x7;have hE:=wA hF; subst hE;simp only[simprocAttr, -Int.reduceNatCast',R0,b273, *];exact jF (by simp only[simprocAttr, -Int.reduceNatCast',R0,qe,p273,Rs.ev,qb,frzs (α:=Int) x7,qM (α:=Int) x7, *])
def F304(a0:qa)(a1:qa)(a2:L3)(a3:Int)(a4:Int)(a5:L1):Option L1:=
 (getI a2 a3).bind fun x1=>
 (chk (a3+a4)).bind fun x3=>
 (F99 a1 x3).bind fun x4=>
 (F80 a0.P x1 a5 x4).bind fun x6=>
 some x6
theorem s304(a0:qa)(a1:qa)(a2:L3)(a3:Int)(a4:Int)(a5:L1){r:L1}(hF:F304 a0 a1 a2 a3 a4 a5=some r):ans A 304 [(eC a0),(eC a1),iL a2,iI a3,iI a4,iL a5]=some (enc r):=by
 refine qv (f:=p304) rfl rfl rfl fun e hl he=>?_;have aA:=he 0 _ rfl;have aB:=he 1 _ rfl;have aN:=he 2 _ rfl;have bR:=he 3 _ rfl;have nT:=he 4 _ rfl;have mm:=he 5 _ rfl;have hl_0:e.length=26:=hl;clear he hl;show W A b304 e ⟨[],0⟩ _;unfold F304 at hF;obtain⟨x1,bI,hF⟩:=bS hF;obtain⟨nK,nJ⟩:=qg bI;obtain⟨x3,dO,hF⟩:=bS hF;have wx3:=qu dO;obtain⟨x4,dK,hF⟩:=bS hF;have w5:=s99 a1 x3 dK;obtain⟨x6,fH,hF⟩:=bS hF;have w7:=s80 a0.P x1 a5 x4 fH;cases hF;simp only[simprocAttr,R0,b304, *];exact qc (by simp only[simprocAttr,R0,qe,p304,Rs.ev,qb, *])
def F489_3_S(a0:qa)(a1:qa)(a2:L3)(aK:L3)(aE:Int)(bH:L2)(aG:Int)(fC:L1)(cW:L1)(s:L1×Int):Option ((L1×Int)⊕(L1)):=
 match s with
 |(cR,bM)=>
  if bM < ((cR.length:Nat):Int)then
   (getI cR bM).bind fun xY=>
   (getI cW bM).bind fun lF=>
   (chk (xY+lF)).bind fun mD=>
   (remI mD a0.P).bind fun lJ=>
   (setI cR bM lJ).bind fun lx=>
   (chk (bM+1)).bind fun x46=>
   some (.inl (lx,x46))
  else
   some (.inr cR)
def F489_3v1_S(a0:qa)(a1:qa)(a2:L3)(aK:L3)(aE:Int)(bH:L2)(aG:Int)(iF:L1)(s:L1×Int):Option ((L1×Int)⊕(L1)):=
 match s with
 |(cS,bM)=>
  if bM < ((cS.length:Nat):Int)then
   (getI cS bM).bind fun nG=>
   (getI iF bM).bind fun pJ=>
   (chk (nG+pJ)).bind fun uZ=>
   (remI uZ a0.P).bind fun nF=>
   (setI cS bM nF).bind fun lw=>
   (chk (bM+1)).bind fun lE=>
   some (.inl (lw,lE))
  else
   some (.inr cS)
def F489_2_S(a0:qa)(a1:qa)(a2:L3)(aK:L3)(aE:Int)(s:L2×Int):Option ((L2×Int)⊕(L2)):=
 match s with
 |(bH,aG)=>
  (getI a0.D aE).bind fun x9=>
  if aG < x9 then
   (F99 a1 aE).bind fun dG=>
   (mkL 8 dG 0).bind fun fC=>
   (chk (aE+1)).bind fun cC=>
   if cC < (a0.D.length:Int)then
    (getI a2 aE).bind fun eM=>
    (getI eM aG).bind fun dN=>
    (F273 a1 cC dN).bind fun dZ=>
    if 0 < aE then
     (chk (aE - 1)).bind fun iW=>
     (F272 x9 aG).bind fun iV=>
     (F273 a0 aE iV).bind fun iU=>
     (F304 a0 a1 a2 iW 1 iU).bind fun cW=>
     (qA (F489_3_S a0 a1 a2 aK aE bH aG fC cW) (dZ,0)).bind fun cK=>
     (app 24 bH [cK]).bind fun l49=>
     (chk (aG+1)).bind fun xX=>
     some (.inl (l49,xX))
    else
     (app 24 bH [dZ]).bind fun i5=>
     (chk (aG+1)).bind fun xW=>
     some (.inl (i5,xW))
   else
    if 0 < aE then
     (chk (aE - 1)).bind fun x55=>
     (F272 x9 aG).bind fun oY=>
     (F273 a0 aE oY).bind fun oX=>
     (F304 a0 a1 a2 x55 1 oX).bind fun iF=>
     (qA (F489_3v1_S a0 a1 a2 aK aE bH aG iF) (fC,0)).bind fun cL=>
     (app 24 bH [cL]).bind fun l79=>
     (chk (aG+1)).bind fun x80=>
     some (.inl (l79,x80))
    else
     (app 24 bH [fC]).bind fun l82=>
     (chk (aG+1)).bind fun pI=>
     some (.inl (l82,pI))
  else
   some (.inr bH)
def F489_1_B(a0:qa)(a1:qa)(a2:L3)(aE:Int)(aK:L3):Option ((L3)⊕(L3)):=
 (qA (F489_2_S a0 a1 a2 aK aE) ([],0)).bind fun eV=>
(app 24 aK [eV]).bind fun l86=>
some (.inl l86)
def F489_1_D(a0:qa)(a1:qa)(a2:L3)(aE:Int)(aK:L3):Option (L3):=
 some aK
def F489(a0:qa)(a1:qa)(a2:L3):Option L3:=
 (forR 0 (a0.D.length:Int) (F489_1_B a0 a1 a2) (F489_1_D a0 a1 a2) ([]:L3)).bind fun aS=>
 some aS
def I489_3(a0:qa)(a1:qa)(a2:L3)(aK:L3)(aE:Int)(bH:L2)(aG:Int)(fC:L1)(cW:L1)(u2 u6 k7:Nat)(s:L1×Int)(e:Env)(h:Heap):Prop:=
 match s with
 |(cR,bM)=>
  ∃sY ah:Nat,h=⟨[(0,none),(0,none),(u2,some (aK.map enc)),(u6,some (bH.map enc)),(k7,some (fC.map enc)),(sY,some (cR.map enc))],ah⟩∧e.length=101∧e.at 2=iL a2∧e.at 3=eP a0∧e.at 4=eP a1∧e.at 7=V.sl 2 u2 0 aK.length 1∧e.at 8=iI aE∧e.at 9=V.sl 3 u6 0 bH.length 1∧e.at 10=iI aG∧e.at 11=V.sl 5 sY 0 cR.length 1∧e.at 12=iL cW∧e.at 13=iI bM
def P489_3(a0:qa)(a1:qa)(a2:L3)(aK:L3)(aE:Int)(bH:L2)(aG:Int)(fC:L1)(cW:L1)(u2 u6 k7:Nat)(cK:L1)(x:Ex)(e:Env)(h:Heap):Prop:=
 x= .normal∧∃sY ah:Nat,h=⟨[(0,none),(0,none),(u2,some (aK.map enc)),(u6,some (bH.map enc)),(k7,some (fC.map enc)),(sY,some (cK.map enc))],ah⟩∧e.length=101∧e.at 2=iL a2∧e.at 3=eP a0∧e.at 4=eP a1∧e.at 7=V.sl 2 u2 0 aK.length 1∧e.at 8=iI aE∧e.at 9=V.sl 3 u6 0 bH.length 1∧e.at 10=iI aG∧e.at 11=V.sl 5 sY 0 cK.length 1
theorem l489_3(a0:qa)(a1:qa)(a2:L3)(aK:L3)(aE:Int)(bH:L2)(aG:Int)(fC:L1)(cW:L1)(u2 u6 k7:Nat){s:L1×Int}{t:L1}(hF:qA (F489_3_S a0 a1 a2 aK aE bH aG fC cW) s=some t){e:Env}{h:Heap}(hI:I489_3 a0 a1 a2 aK aE bH aG fC cW u2 u6 k7 s e h):W A c489_3 e h (P489_3 a0 a1 a2 aK aE bH aG fC cW u2 u6 k7 t):=by
 show W A (.block 4 (.loop false b489_3)) e h _;rw[qj];refine zi hF 6 (by rcases s with⟨_,_⟩; obtain⟨_,_,rfl,_⟩:=hI; rfl) (I489_3 a0 a1 a2 aK aE bH aG fC cW u2 u6 k7) hI ?_
 ·rintro⟨cR,bM⟩ e h ⟨sY,ah,rfl,h_32⟩ o ho
  unfold F489_3_S at ho;dsimp only at ho;by_cases cp:bM < ((cR.length:Nat):Int)
  ·rw[if_pos cp]at ho
   obtain⟨xY,pS,ho⟩:=bS ho;obtain⟨w38a,ik⟩:=qg pS;have w38c:=qY pS;have w38d:List.drop (Int.toNat bM) (cR.map enc)=(iI xY)::List.drop ((Int.toNat bM)+1) (cR.map enc):=jf ik;obtain⟨lF,kD,ho⟩:=bS ho;obtain⟨ie,ic⟩:=qg kD;obtain⟨mD,lT,ho⟩:=bS ho;have fa:=qu lT;obtain⟨lJ,lS,ho⟩:=bS ho;obtain⟨w43a,w43b⟩:=rem_w lS;obtain⟨lx,po,ho⟩:=bS ho;obtain⟨w45a,w45b,w45c,w45d,o7⟩:=jy po;replace o7:List.take (Int.toNat bM) (cR.map enc)++[iI lJ]++List.drop (Int.toNat bM+1) (cR.map enc)=List.map enc lx:=o7;obtain⟨x46,oe,ho⟩:=bS ho;have wx46:=qu oe;cases ho;simp only[simprocAttr,R0,b489_3, *];refine ai rfl (ei _ (ei _ (ai rfl ?_)));simp only[simprocAttr,R0, *]
  ·rw[if_neg cp]at ho
   cases ho;simp only[simprocAttr,R0,b489_3, *];intro ht; subst ht;simp only[simprocAttr,RR,RB];refine ai rfl (ei _ (ei _ (ai rfl ?_)));simp only[simprocAttr,R0, *]
def I489_3v1(a0:qa)(a1:qa)(a2:L3)(aK:L3)(aE:Int)(bH:L2)(aG:Int)(iF:L1)(u2 u6:Nat)(s:L1×Int)(e:Env)(h:Heap):Prop:=
 match s with
 |(cS,bM)=>
  ∃sW ae:Nat,h=⟨[(0,none),(0,none),(u2,some (aK.map enc)),(u6,some (bH.map enc)),(sW,some (cS.map enc))],ae⟩∧e.length=101∧e.at 2=iL a2∧e.at 3=eP a0∧e.at 4=eP a1∧e.at 7=V.sl 2 u2 0 aK.length 1∧e.at 8=iI aE∧e.at 9=V.sl 3 u6 0 bH.length 1∧e.at 10=iI aG∧e.at 11=V.sl 4 sW 0 cS.length 1∧e.at 12=iL iF∧e.at 13=iI bM
def P489_3v1(a0:qa)(a1:qa)(a2:L3)(aK:L3)(aE:Int)(bH:L2)(aG:Int)(iF:L1)(u2 u6:Nat)(cL:L1)(x:Ex)(e:Env)(h:Heap):Prop:=
 x= .normal∧∃sW ae:Nat,h=⟨[(0,none),(0,none),(u2,some (aK.map enc)),(u6,some (bH.map enc)),(sW,some (cL.map enc))],ae⟩∧e.length=101∧e.at 2=iL a2∧e.at 3=eP a0∧e.at 4=eP a1∧e.at 7=V.sl 2 u2 0 aK.length 1∧e.at 8=iI aE∧e.at 9=V.sl 3 u6 0 bH.length 1∧e.at 10=iI aG∧e.at 11=V.sl 4 sW 0 cL.length 1
theorem l489_3v1(a0:qa)(a1:qa)(a2:L3)(aK:L3)(aE:Int)(bH:L2)(aG:Int)(iF:L1)(u2 u6:Nat){s:L1×Int}{t:L1}(hF:qA (F489_3v1_S a0 a1 a2 aK aE bH aG iF) s=some t){e:Env}{h:Heap}(hI:I489_3v1 a0 a1 a2 aK aE bH aG iF u2 u6 s e h):W A c489_3 e h (P489_3v1 a0 a1 a2 aK aE bH aG iF u2 u6 t):=by
 show W A (.block 4 (.loop false b489_3)) e h _;rw[qj];refine zi hF 5 (by rcases s with⟨_,_⟩; obtain⟨_,_,rfl,_⟩:=hI; rfl) (I489_3v1 a0 a1 a2 aK aE bH aG iF u2 u6) hI ?_
 ·rintro⟨cS,bM⟩ e h ⟨sW,ae,rfl,h_62⟩ o ho
  unfold F489_3v1_S at ho;dsimp only at ho;by_cases c66:bM < ((cS.length:Nat):Int)
  ·rw[if_pos c66]at ho
   obtain⟨nG,nB,ho⟩:=bS ho;obtain⟨w68a,fy⟩:=qg nB;have w68c:=qY nB;have w68d:List.drop (Int.toNat bM) (cS.map enc)=(iI nG)::List.drop ((Int.toNat bM)+1) (cS.map enc):=jf fy;obtain⟨pJ,nV,ho⟩:=bS ho;obtain⟨w70a,w70b⟩:=qg nV;obtain⟨uZ,uG,ho⟩:=bS ho;have ey:=qu uG;obtain⟨nF,nU,ho⟩:=bS ho;obtain⟨w73a,w73b⟩:=rem_w nU;obtain⟨lw,pn,ho⟩:=bS ho;obtain⟨w75a,w75b,w75c,w75d,n9⟩:=jy pn;replace n9:List.take (Int.toNat bM) (cS.map enc)++[iI nF]++List.drop (Int.toNat bM+1) (cS.map enc)=List.map enc lw:=n9;obtain⟨lE,tZ,ho⟩:=bS ho;have wx76:=qu tZ;cases ho;simp only[simprocAttr,R0,b489_3, *];refine ai rfl (ei _ (ei _ (ai rfl ?_)));simp only[simprocAttr,R0, *]
  ·rw[if_neg c66]at ho
   cases ho;simp only[simprocAttr,R0,b489_3, *];intro ht; subst ht;simp only[simprocAttr,RR,RB];refine ai rfl (ei _ (ei _ (ai rfl ?_)));simp only[simprocAttr,R0, *]
def I489_2(a0:qa)(a1:qa)(a2:L3)(aK:L3)(aE:Int)(u2:Nat)(s:L2×Int)(e:Env)(h:Heap):Prop:=
 match s with
 |(bH,aG)=>
  ∃u6 k7:Nat,h=⟨[(0,none),(0,none),(u2,some (aK.map enc)),(u6,some (bH.map enc))],k7⟩∧e.length=101∧e.at 2=iL a2∧e.at 3=eP a0∧e.at 4=eP a1∧e.at 7=V.sl 2 u2 0 aK.length 1∧e.at 8=iI aE∧e.at 9=V.sl 3 u6 0 bH.length 1∧e.at 10=iI aG
def P489_2(a0:qa)(a1:qa)(a2:L3)(aK:L3)(aE:Int)(u2:Nat)(eV:L2)(x:Ex)(e:Env)(h:Heap):Prop:=
 x= .normal∧∃u6 k7:Nat,h=⟨[(0,none),(0,none),(u2,some (aK.map enc)),(u6,some (eV.map enc))],k7⟩∧e.length=101∧e.at 2=iL a2∧e.at 3=eP a0∧e.at 4=eP a1∧e.at 7=V.sl 2 u2 0 aK.length 1∧e.at 8=iI aE∧e.at 9=V.sl 3 u6 0 eV.length 1
set_option maxHeartbeats 8000000 in
theorem l489_2(a0:qa)(a1:qa)(a2:L3)(aK:L3)(aE:Int)(u2:Nat){s:L2×Int}{t:L2}(hF:qA (F489_2_S a0 a1 a2 aK aE) s=some t){e:Env}{h:Heap}(hI:I489_2 a0 a1 a2 aK aE u2 s e h):W A c489_2 e h (P489_2 a0 a1 a2 aK aE u2 t):=by
 show W A (.block 2 (.loop false b489_2)) e h _;rw[qj];refine zi hF 4 (by rcases s with⟨_,_⟩; obtain⟨_,_,rfl,_⟩:=hI; rfl) (I489_2 a0 a1 a2 aK aE u2) hI ?_
 ·rintro⟨bH,aG⟩ e h ⟨u6,k7,rfl,h_5⟩ o ho
  unfold F489_2_S at ho;dsimp only at ho;obtain⟨x9,eJ,ho⟩:=bS ho;obtain⟨iZ,iK⟩:=qg eJ;by_cases c11:aG < x9
  ·rw[if_pos c11]at ho
   obtain⟨dG,dQ,ho⟩:=bS ho;have de:=s99 a1 aE dQ;obtain⟨fC,mB,ho⟩:=bS ho;obtain⟨kQ,iH,sR,fV,iY⟩:=mkL_w mB;replace iY:(List.replicate (Int.toNat dG) [iI 0]).flatten=List.map enc fC:=iY;obtain⟨cC,dM,ho⟩:=bS ho;have m8:=qu dM;by_cases rT:cC < (a0.D.length:Int)
   ·rw[if_pos rT]at ho
    obtain⟨eM,eE,ho⟩:=bS ho;obtain⟨sN,sM⟩:=qg eE;obtain⟨dN,eT,ho⟩:=bS ho;obtain⟨ke,kd⟩:=qg eT;obtain⟨dZ,kG,ho⟩:=bS ho;have w23:tans A 273 [1] [(eC a1),iI cC,iL dN]=some (iL dZ):=t273 a1 cC dN kG;have w23t:=qX (α:=Int) dZ;by_cases uU:0 < aE
    ·rw[if_pos uU]at ho
     obtain⟨iW,iB,ho⟩:=bS ho;have m6:=qu iB;obtain⟨iV,kE,ho⟩:=bS ho;have w27:=s272 x9 aG kE;obtain⟨iU,lX,ho⟩:=bS ho;have w29:=s273 a0 aE iV lX;obtain⟨cW,fB,ho⟩:=bS ho;have o8:=s304 a0 a1 a2 iW 1 iU fB;obtain⟨cK,pa,ho⟩:=bS ho;simp only[simprocAttr, -Int.reduceNatCast',R0,b489_2, *];refine W.mono (l489_3 a0 a1 a2 aK aE bH aG fC cW u2 u6 k7 pa (ei _ (ei _ (ai rfl ?_)))) ?_
     ·simp only[simprocAttr, -Int.reduceNatCast',R0, *]
     rintro _ e _ ⟨rfl,sY,ah,rfl,h_35⟩;obtain⟨l49,bx,ho⟩:=bS ho;have w48:=fun a b c d e=> qF (α:=L1) (n:=bH.length) (m:=1) (ds:=[iL cK]) bx (by first|rfl|simp) (by first|rfl|simp) rfl a b c d e;have w48l:=qZ bx;obtain⟨xX,uK,ho⟩:=bS ho;have wx50:=qu uK;cases ho;simp only[simprocAttr, -Int.reduceNatCast',R0,qM (α:=Int) cK, *];refine ai rfl (ei _ (ei _ (ai rfl ?_)));simp only[simprocAttr, -Int.reduceNatCast',R0,qM (α:=Int) cK, *]
    ·rw[if_neg uU]at ho
     obtain⟨i5,pX,ho⟩:=bS ho;have w51:=fun a b c d e=> qF (α:=L1) (n:=bH.length) (m:=1) (ds:=[iL dZ]) pX (by first|rfl|simp only[fV]) (by first|rfl|simp only[fV]) rfl a b c d e;have w51l:=qZ pX;obtain⟨xW,uJ,ho⟩:=bS ho;have ez:=qu uJ;cases ho;simp only[simprocAttr, -Int.reduceNatCast',R0,b489_2,qM (α:=Int) dZ, *];refine ai rfl (ei _ (ei _ (ai rfl ?_)));simp only[simprocAttr, -Int.reduceNatCast',R0,qM (α:=Int) dZ, *]
   ·rw[if_neg rT]at ho
    by_cases c54:0 < aE
    ·rw[if_pos c54]at ho
     obtain⟨x55,ny,ho⟩:=bS ho;have wx55:=qu ny;obtain⟨oY,nY,ho⟩:=bS ho;have w57:=s272 x9 aG nY;obtain⟨oX,nX,ho⟩:=bS ho;have w59:=s273 a0 aE oY nX;obtain⟨iF,nW,ho⟩:=bS ho;have w61:=s304 a0 a1 a2 x55 1 oX nW;obtain⟨cL,oq,ho⟩:=bS ho;simp only[simprocAttr, -Int.reduceNatCast',R0,b489_2, *];refine W.mono (l489_3v1 a0 a1 a2 aK aE bH aG iF u2 u6 oq (ei _ (ei _ (ai rfl ?_)))) ?_
     ·simp only[simprocAttr, -Int.reduceNatCast',R0, *]
     rintro _ e _ ⟨rfl,sW,ae,rfl,h_65⟩;obtain⟨l79,bu,ho⟩:=bS ho;have w78:=fun a b c d e=> qF (α:=L1) (n:=bH.length) (m:=1) (ds:=[iL cL]) bu (by first|rfl|simp) (by first|rfl|simp) rfl a b c d e;have w78l:=qZ bu;obtain⟨x80,nj,ho⟩:=bS ho;have wx80:=qu nj;cases ho;simp only[simprocAttr, -Int.reduceNatCast',R0,qM (α:=Int) cL, *];refine ai rfl (ei _ (ei _ (ai rfl ?_)));simp only[simprocAttr, -Int.reduceNatCast',R0,qM (α:=Int) cL, *]
    ·rw[if_neg c54]at ho
     obtain⟨l82,bt,ho⟩:=bS ho;have w81:=fun a b c d e=> qF (α:=L1) (n:=bH.length) (m:=1) (ds:=[iL fC]) bt (by first|rfl|simp only[fV]) (by first|rfl|simp only[fV]) rfl a b c d e;have w81l:=qZ bt;obtain⟨pI,nA,ho⟩:=bS ho;have wx83:=qu nA;cases ho;simp only[simprocAttr, -Int.reduceNatCast',R0,b489_2,qM (α:=Int) fC,qK (α:=Int) (l:=fC) (n:=(Int.toNat dG)) (by first|rfl|simp only[fV]),qH (α:=Int) (l:=fC) (n:=(Int.toNat dG)) (by first|rfl|simp only[fV]), *];refine ai rfl (ei _ (ei _ (ai rfl ?_)));simp only[simprocAttr, -Int.reduceNatCast',R0,qM (α:=Int) fC,qK (α:=Int) (l:=fC) (n:=(Int.toNat dG)) (by first|rfl|simp only[fV]),qH (α:=Int) (l:=fC) (n:=(Int.toNat dG)) (by first|rfl|simp only[fV]), *]
  ·rw[if_neg c11]at ho
   cases ho;simp only[simprocAttr, -Int.reduceNatCast',R0,b489_2, *];intro ht; subst ht;simp only[simprocAttr, -Int.reduceNatCast',RR,RB];refine ai rfl (ei _ (ei _ (ai rfl ?_)));simp only[simprocAttr, -Int.reduceNatCast',R0, *]
def I489_1(a0:qa)(a1:qa)(a2:L3)(aE:Int)(aK:L3)(e:Env)(h:Heap):Prop:=
 ∃u2 k3:Nat,h=⟨[(0,none),(0,none),(u2,some (aK.map enc))],k3⟩∧e.length=101∧e.at 2=iL a2∧e.at 3=eP a0∧e.at 4=eP a1∧e.at 7=V.sl 2 u2 0 aK.length 1∧e.at 8=iI aE
def P489_1(a0:qa)(a1:qa)(a2:L3)(aS:L3)(x:Ex)(e:Env)(h:Heap):Prop:=
 x= .normal∧∃u2 k3:Nat,h=⟨[(0,none),(0,none),(u2,some (aS.map enc))],k3⟩∧e.length=101∧e.at 7=V.sl 2 u2 0 aS.length 1
theorem l489_1(a0:qa)(a1:qa)(a2:L3){lo:Int}{s:L3}{t:L3}(hF:forR lo (a0.D.length:Int) (F489_1_B a0 a1 a2) (F489_1_D a0 a1 a2) s=some t){e:Env}{h:Heap}(hI:I489_1 a0 a1 a2 lo s e h):W A c489_1 e h (P489_1 a0 a1 a2 t):=by
 show W A (.block 0 (.loop false b489_1)) e h _;rw[qj];refine qz hF 3 (by obtain⟨_,_,rfl,_⟩:=hI; rfl) (I489_1 a0 a1 a2) hI ?_ ?_
 ·rintro aE aK e h ⟨u2,k3,rfl,h_1⟩ hlt hw o ho
  unfold F489_1_B at ho;obtain⟨eV,om,ho⟩:=bS ho;simp only[simprocAttr,R0,b489_1, *];refine W.mono (l489_2 a0 a1 a2 aK aE u2 om (ei _ (ei _ (ai rfl ?_)))) ?_
  ·simp only[simprocAttr,R0, *]
  rintro _ e _ ⟨rfl,u6,k7,rfl,h_8⟩;obtain⟨l86,bq,ho⟩:=bS ho;have w85:=fun a b c d e=> qF (α:=L2) (n:=aK.length) (m:=1) (ds:=[iL eV]) bq (by first|rfl|simp) (by first|rfl|simp) rfl a b c d e;have w85l:=qZ bq;cases ho;simp only[simprocAttr,R0,qM (α:=L1) eV, *];refine ai rfl (ei _ (ei _ (ai rfl ?_)));simp only[simprocAttr,R0,qM (α:=L1) eV, *]
 ·rintro aE aK e h ⟨u2,k3,rfl,h_1⟩ hge t1 ho
  unfold F489_1_D at ho;cases ho;simp only[simprocAttr,R0,b489_1, *];intro ht; subst ht;refine ai rfl (ei _ (ei _ (ai rfl ?_)));simp only[simprocAttr,R0, *]
theorem s489(a0:qa)(a1:qa)(a2:L3){r:L3}(hF:F489 a0 a1 a2=some r):ans A 489 [(eC a0),(eC a1),iL a2]=some (enc r):=by
 refine qv (f:=p489) rfl rfl rfl fun e hl he=>?_;have aA:=he 0 _ rfl;have aB:=he 1 _ rfl;have aN:=he 2 _ rfl;have hl_0:e.length=101:=hl;clear he hl;show W A b489 e ⟨[],0⟩ _;unfold F489 at hF;obtain⟨aS,ol,hF⟩:=bS hF;simp only[simprocAttr, -Int.reduceNatCast',R0,b489, *];refine W.mono (l489_1 a0 a1 a2 ol (ei _ (ei _ (ai rfl ?_)))) ?_
 ·simp only[simprocAttr, -Int.reduceNatCast',R0, *]
 rintro _ e _ ⟨rfl,u2,k3,rfl,hl_4,tQ⟩;have hE:=wA hF; subst hE;simp only[simprocAttr, -Int.reduceNatCast',R0, *];exact qc (by simp only[simprocAttr, -Int.reduceNatCast',R0,qe,p489,Rs.ev,qb,frzs (α:=L2) aS,qM (α:=L2) aS, *])
def F490_3_S(a0:Int)(a1:L3)(a2:L3)(a3:Int)(aC:L3)(aJ:Int)(bX:L2)(cF:Int)(s:L1×Int):Option ((L1×Int)⊕(L1)):=
 match s with
 |(lQ,fP)=>
  (getI a1 aJ).bind fun cC=>
  (getI cC cF).bind fun eM=>
  if fP < (eM.length:Int)then
   (getI eM fP).bind fun dA=>
   (getI a2 aJ).bind fun cU=>
   (getI cU cF).bind fun iW=>
   (getI iW fP).bind fun lK=>
   (chk (a3*lK)).bind fun rY=>
   (chk (dA+rY)).bind fun cW=>
   (F127 a0 cW).bind fun xZ=>
   (app 8 lQ [xZ]).bind fun tK=>
   (chk (fP+1)).bind fun nI=>
   some (.inl (tK,nI))
  else
   some (.inr lQ)
def F490_2_S(a0:Int)(a1:L3)(a2:L3)(a3:Int)(aC:L3)(aJ:Int)(s:L2×Int):Option ((L2×Int)⊕(L2)):=
 match s with
 |(bX,cF)=>
  (getI a1 aJ).bind fun x9=>
  if cF < (x9.length:Int)then
   (qA (F490_3_S a0 a1 a2 a3 aC aJ bX cF) ([],0)).bind fun fL=>
   (app 24 bX [fL]).bind fun l38=>
   (chk (cF+1)).bind fun lF=>
   some (.inl (l38,lF))
  else
   some (.inr bX)
def F490_1_B(a0:Int)(a1:L3)(a2:L3)(a3:Int)(aJ:Int)(aC:L3):Option ((L3)⊕(L3)):=
 (qA (F490_2_S a0 a1 a2 a3 aC aJ) ([],0)).bind fun cE=>
(app 24 aC [cE]).bind fun l42=>
some (.inl l42)
def F490_1_D(a0:Int)(a1:L3)(a2:L3)(a3:Int)(aJ:Int)(aC:L3):Option (L3):=
 some aC
def F490(a0:Int)(a1:L3)(a2:L3)(a3:Int):Option L3:=
 (forR 0 (a1.length:Int) (F490_1_B a0 a1 a2 a3) (F490_1_D a0 a1 a2 a3) ([]:L3)).bind fun aD=>
 some aD
def I490_3(a0:Int)(a1:L3)(a2:L3)(a3:Int)(aC:L3)(aJ:Int)(bX:L2)(cF:Int)(u2 u6:Nat)(s:L1×Int)(e:Env)(h:Heap):Prop:=
 match s with
 |(lQ,fP)=>
  ∃sZ nR:Nat,h=⟨[(u2,some (aC.map enc)),(u6,some (bX.map enc)),(sZ,some (lQ.map enc))],nR⟩∧e.length=82∧e.at 0=iI a0∧e.at 1=iL a1∧e.at 2=iL a2∧e.at 3=iI a3∧e.at 9=V.sl 0 u2 0 aC.length 1∧e.at 10=iI aJ∧e.at 11=V.sl 1 u6 0 bX.length 1∧e.at 12=iI cF∧e.at 13=V.sl 2 sZ 0 lQ.length 1∧e.at 14=iI fP
def P490_3(a0:Int)(a1:L3)(a2:L3)(a3:Int)(aC:L3)(aJ:Int)(bX:L2)(cF:Int)(u2 u6:Nat)(fL:L1)(x:Ex)(e:Env)(h:Heap):Prop:=
 x= .normal∧∃sZ nR:Nat,h=⟨[(u2,some (aC.map enc)),(u6,some (bX.map enc)),(sZ,some (fL.map enc))],nR⟩∧e.length=82∧e.at 0=iI a0∧e.at 1=iL a1∧e.at 2=iL a2∧e.at 3=iI a3∧e.at 9=V.sl 0 u2 0 aC.length 1∧e.at 10=iI aJ∧e.at 11=V.sl 1 u6 0 bX.length 1∧e.at 12=iI cF∧e.at 13=V.sl 2 sZ 0 fL.length 1
theorem l490_3(a0:Int)(a1:L3)(a2:L3)(a3:Int)(aC:L3)(aJ:Int)(bX:L2)(cF:Int)(u2 u6:Nat){s:L1×Int}{t:L1}(hF:qA (F490_3_S a0 a1 a2 a3 aC aJ bX cF) s=some t){e:Env}{h:Heap}(hI:I490_3 a0 a1 a2 a3 aC aJ bX cF u2 u6 s e h):W A c490_3 e h (P490_3 a0 a1 a2 a3 aC aJ bX cF u2 u6 t):=by
 show W A (.block 4 (.loop false b490_3)) e h _;rw[qj];refine zi hF 3 (by rcases s with⟨_,_⟩; obtain⟨_,_,rfl,_⟩:=hI; rfl) (I490_3 a0 a1 a2 a3 aC aJ bX cF u2 u6) hI ?_
 ·rintro⟨lQ,fP⟩ e h ⟨sZ,nR,rfl,h_12⟩ o ho
  unfold F490_3_S at ho;dsimp only at ho;obtain⟨cC,dM,ho⟩:=bS ho;obtain⟨sQ,sP⟩:=qg dM;obtain⟨eM,eE,ho⟩:=bS ho;obtain⟨sN,sM⟩:=qg eE;by_cases cr:fP < (eM.length:Int)
  ·rw[if_pos cr]at ho
   obtain⟨dA,dL,ho⟩:=bS ho;obtain⟨r5,q9⟩:=qg dL;obtain⟨cU,iC,ho⟩:=bS ho;obtain⟨kc,iz⟩:=qg iC;obtain⟨iW,iB,ho⟩:=bS ho;obtain⟨p8,p7⟩:=qg iB;obtain⟨lK,lY,ho⟩:=bS ho;obtain⟨iu,ir⟩:=qg lY;obtain⟨rY,uP,ho⟩:=bS ho;have wx29:=qu uP;obtain⟨cW,fB,ho⟩:=bS ho;have fd:=qu fB;obtain⟨xZ,uO,ho⟩:=bS ho;have w32:=s127 a0 cW uO;obtain⟨tK,pY,ho⟩:=bS ho;have w33:=fun a b c d e=> qF (α:=Int) (n:=lQ.length) (m:=1) (ds:=[iI xZ]) pY (by first|rfl|simp) (by first|rfl|simp) rfl a b c d e;have w33l:=qZ pY;obtain⟨nI,oD,ho⟩:=bS ho;have fc:=qu oD;cases ho;simp only[simprocAttr,R0,b490_3, *];refine ai rfl (ei _ (ei _ (ai rfl ?_)));simp only[simprocAttr,R0, *]
  ·rw[if_neg cr]at ho
   cases ho;simp only[simprocAttr,R0,b490_3, *];intro ht; subst ht;simp only[simprocAttr,RR,RB];refine ai rfl (ei _ (ei _ (ai rfl ?_)));simp only[simprocAttr,R0, *]
def I490_2(a0:Int)(a1:L3)(a2:L3)(a3:Int)(aC:L3)(aJ:Int)(u2:Nat)(s:L2×Int)(e:Env)(h:Heap):Prop:=
 match s with
 |(bX,cF)=>
  ∃u6 k7:Nat,h=⟨[(u2,some (aC.map enc)),(u6,some (bX.map enc))],k7⟩∧e.length=82∧e.at 0=iI a0∧e.at 1=iL a1∧e.at 2=iL a2∧e.at 3=iI a3∧e.at 9=V.sl 0 u2 0 aC.length 1∧e.at 10=iI aJ∧e.at 11=V.sl 1 u6 0 bX.length 1∧e.at 12=iI cF
def P490_2(a0:Int)(a1:L3)(a2:L3)(a3:Int)(aC:L3)(aJ:Int)(u2:Nat)(cE:L2)(x:Ex)(e:Env)(h:Heap):Prop:=
 x= .normal∧∃u6 k7:Nat,h=⟨[(u2,some (aC.map enc)),(u6,some (cE.map enc))],k7⟩∧e.length=82∧e.at 0=iI a0∧e.at 1=iL a1∧e.at 2=iL a2∧e.at 3=iI a3∧e.at 9=V.sl 0 u2 0 aC.length 1∧e.at 10=iI aJ∧e.at 11=V.sl 1 u6 0 cE.length 1
theorem l490_2(a0:Int)(a1:L3)(a2:L3)(a3:Int)(aC:L3)(aJ:Int)(u2:Nat){s:L2×Int}{t:L2}(hF:qA (F490_2_S a0 a1 a2 a3 aC aJ) s=some t){e:Env}{h:Heap}(hI:I490_2 a0 a1 a2 a3 aC aJ u2 s e h):W A c490_2 e h (P490_2 a0 a1 a2 a3 aC aJ u2 t):=by
 show W A (.block 2 (.loop false b490_2)) e h _;rw[qj];refine zi hF 2 (by rcases s with⟨_,_⟩; obtain⟨_,_,rfl,_⟩:=hI; rfl) (I490_2 a0 a1 a2 a3 aC aJ u2) hI ?_
 ·rintro⟨bX,cF⟩ e h ⟨u6,k7,rfl,h_5⟩ o ho
  unfold F490_2_S at ho;dsimp only at ho;obtain⟨x9,eJ,ho⟩:=bS ho;obtain⟨iZ,iK⟩:=qg eJ;by_cases c11:cF < (x9.length:Int)
  ·rw[if_pos c11]at ho
   obtain⟨fL,pU,ho⟩:=bS ho;simp only[simprocAttr,R0,b490_2, *];refine W.mono (l490_3 a0 a1 a2 a3 aC aJ bX cF u2 u6 pU (ei _ (ei _ (ai rfl ?_)))) ?_
   ·simp only[simprocAttr,R0, *]
   rintro _ e _ ⟨rfl,sZ,nR,rfl,h_15⟩;obtain⟨l38,ce,ho⟩:=bS ho;have w37:=fun a b c d e=> qF (α:=L1) (n:=bX.length) (m:=1) (ds:=[iL fL]) ce (by first|rfl|simp) (by first|rfl|simp) rfl a b c d e;have w37l:=qZ ce;obtain⟨lF,kD,ho⟩:=bS ho;have wx39:=qu kD;cases ho;simp only[simprocAttr,R0,qM (α:=Int) fL, *];refine ai rfl (ei _ (ei _ (ai rfl ?_)));simp only[simprocAttr,R0,qM (α:=Int) fL, *]
  ·rw[if_neg c11]at ho
   cases ho;simp only[simprocAttr,R0,b490_2, *];intro ht; subst ht;simp only[simprocAttr,RR,RB];refine ai rfl (ei _ (ei _ (ai rfl ?_)));simp only[simprocAttr,R0, *]
def I490_1(a0:Int)(a1:L3)(a2:L3)(a3:Int)(aJ:Int)(aC:L3)(e:Env)(h:Heap):Prop:=
 ∃u2 k3:Nat,h=⟨[(u2,some (aC.map enc))],k3⟩∧e.length=82∧e.at 0=iI a0∧e.at 1=iL a1∧e.at 2=iL a2∧e.at 3=iI a3∧e.at 9=V.sl 0 u2 0 aC.length 1∧e.at 10=iI aJ
def P490_1(a0:Int)(a1:L3)(a2:L3)(a3:Int)(aD:L3)(x:Ex)(e:Env)(h:Heap):Prop:=
 x= .normal∧∃u2 k3:Nat,h=⟨[(u2,some (aD.map enc))],k3⟩∧e.length=82∧e.at 9=V.sl 0 u2 0 aD.length 1
theorem l490_1(a0:Int)(a1:L3)(a2:L3)(a3:Int){lo:Int}{s:L3}{t:L3}(hF:forR lo (a1.length:Int) (F490_1_B a0 a1 a2 a3) (F490_1_D a0 a1 a2 a3) s=some t){e:Env}{h:Heap}(hI:I490_1 a0 a1 a2 a3 lo s e h):W A c490_1 e h (P490_1 a0 a1 a2 a3 t):=by
 show W A (.block 0 (.loop false b490_1)) e h _;rw[qj];refine qz hF 1 (by obtain⟨_,_,rfl,_⟩:=hI; rfl) (I490_1 a0 a1 a2 a3) hI ?_ ?_
 ·rintro aJ aC e h ⟨u2,k3,rfl,h_1⟩ hlt hw o ho
  unfold F490_1_B at ho;obtain⟨cE,uQ,ho⟩:=bS ho;simp only[simprocAttr,R0,b490_1, *];refine W.mono (l490_2 a0 a1 a2 a3 aC aJ u2 uQ (ei _ (ei _ (ai rfl ?_)))) ?_
  ·simp only[simprocAttr,R0, *]
  rintro _ e _ ⟨rfl,u6,k7,rfl,h_8⟩;obtain⟨l42,bz,ho⟩:=bS ho;have w41:=fun a b c d e=> qF (α:=L2) (n:=aC.length) (m:=1) (ds:=[iL cE]) bz (by first|rfl|simp) (by first|rfl|simp) rfl a b c d e;have w41l:=qZ bz;cases ho;simp only[simprocAttr,R0,qM (α:=L1) cE, *];refine ai rfl (ei _ (ei _ (ai rfl ?_)));simp only[simprocAttr,R0,qM (α:=L1) cE, *]
 ·rintro aJ aC e h ⟨u2,k3,rfl,h_1⟩ hge t1 ho
  unfold F490_1_D at ho;cases ho;simp only[simprocAttr,R0,b490_1, *];intro ht; subst ht;refine ai rfl (ei _ (ei _ (ai rfl ?_)));simp only[simprocAttr,R0, *]
theorem s490(a0:Int)(a1:L3)(a2:L3)(a3:Int){r:L3}(hF:F490 a0 a1 a2 a3=some r):ans A 490 [iI a0,iL a1,iL a2,iI a3]=some (enc r):=by
 refine qv (f:=p490) rfl rfl rfl fun e hl he=>?_;have aA:=he 0 _ rfl;have aB:=he 1 _ rfl;have aN:=he 2 _ rfl;have bR:=he 3 _ rfl;have hl_0:e.length=82:=hl;clear he hl;show W A b490 e ⟨[],0⟩ _;unfold F490 at hF;obtain⟨aD,pc,hF⟩:=bS hF;simp only[simprocAttr, -Int.reduceNatCast',R0,b490, *];refine W.mono (l490_1 a0 a1 a2 a3 pc (ei _ (ei _ (ai rfl ?_)))) ?_
 ·simp only[simprocAttr, -Int.reduceNatCast',R0, *]
 rintro _ e _ ⟨rfl,u2,k3,rfl,hl_4,mi⟩;have hE:=wA hF; subst hE;simp only[simprocAttr, -Int.reduceNatCast',R0, *];exact qc (by simp only[simprocAttr, -Int.reduceNatCast',R0,qe,p490,Rs.ev,qb,frzs (α:=L2) aD,qM (α:=L2) aD, *])
def F500S(rec:Int→Option Str)(a0:Int):Option Str:=
 if a0 < 0 then
  (chk (0 - a0)).bind fun x2=>
  (rec x2).bind fun x3=>
  (addS [45] x3.val).bind fun x5=>
  some ⟨x5.val⟩
 else
  if a0 < 10 then
   (chk (48+a0)).bind fun x8=>
   (toS [⟨Go.IntKind.wrap .u8 x8⟩]).bind fun x9=>
   some ⟨x9.val⟩
  else
   (quoI a0 10).bind fun bA=>
   (rec bA).bind fun bD=>
   (remI a0 10).bind fun cQ=>
   (chk (48+cQ)).bind fun dU=>
   (toS [⟨Go.IntKind.wrap .u8 dU⟩]).bind fun eM=>
   (addS bD.val eM.val).bind fun dN=>
   some ⟨dN.val⟩
def F500R:Nat→Int→Option Str
 |0=> fun _=> none
 |n+1=> F500S (F500R n)
def F500(a0:Int):Option Str:=F500R 6 a0
theorem s500S(rec:Int→Option Str)(hrec:∀ (a0:Int) {r:Str},rec a0=some r→ans A 500 [iI a0]=some (enc r))(a0:Int){r:Str}(hF:F500S rec a0=some r):ans A 500 [iI a0]=some (enc r):=by
 refine qv (f:=p500) rfl rfl rfl fun e hl he=>?_;have aA:=he 0 _ rfl;have hl_0:e.length=26:=hl;clear he hl;have h_0:=ai hl_0 aA;show W A b500 e ⟨[],0⟩ _;unfold F500S at hF;by_cases c1:a0 < 0
 ·rw[if_pos c1]at hF
  obtain⟨x2,fK,hF⟩:=bS hF;have wx2:=qu fK;obtain⟨x3,dO,hF⟩:=bS hF;have w4:ans A 500 [iI x2]=some (V.str x3.val):=hrec x2 dO;obtain⟨x5,dC,hF⟩:=bS hF;have w6:binV 0 .add (V.str [45]) (V.str x3.val)=some (V.str x5.val):=xh dC;cases hF;simp only[simprocAttr,R0,b500, *];exact qc (by simp only[simprocAttr,R0,qe,p500,Rs.ev,qb, *])
 ·rw[if_neg c1]at hF
  by_cases c7:a0 < 10
  ·rw[if_pos c7]at hF
   obtain⟨x8,kC,hF⟩:=bS hF;have wx8:=qu kC;obtain⟨x9,eJ,hF⟩:=bS hF;have pC:bytesV [V.int .u8 (Go.IntKind.wrap .u8 x8)]=some x9.val:=toS_w eJ;cases hF;simp only[simprocAttr,R0,b500, *];exact qc (by simp only[simprocAttr,R0,qe,p500,Rs.ev,qb, *])
  ·rw[if_neg c7]at hF
   obtain⟨bA,cM,hF⟩:=bS hF;obtain⟨fY,fX⟩:=quo_w cM;obtain⟨bD,cD,hF⟩:=bS hF;have mT:ans A 500 [iI bA]=some (V.str bD.val):=hrec bA cD;obtain⟨cQ,dP,hF⟩:=bS hF;obtain⟨kP,iX⟩:=rem_w dP;obtain⟨dU,eL,hF⟩:=bS hF;have wx17:=qu eL;obtain⟨eM,eE,hF⟩:=bS hF;have e9:bytesV [V.int .u8 (Go.IntKind.wrap .u8 dU)]=some eM.val:=toS_w eE;obtain⟨dN,eT,hF⟩:=bS hF;have w21:binV 0 .add (V.str bD.val) (V.str eM.val)=some (V.str dN.val):=xh eT;cases hF;simp only[simprocAttr,R0,b500, *];exact qc (by simp only[simprocAttr,R0,qe,p500,Rs.ev,qb, *])
theorem s500R(n:Nat):∀ (a0:Int) {r:Str},F500R n a0=some r→ans A 500 [iI a0]=some (enc r):=by
 induction n with
 |zero=> intros; rename_i q; have q2:(none:Option Str)=some _:=q; cases q2
 |succ n ih=> exact s500S (F500R n) ih
theorem s500:∀ (a0:Int) {r:Str},F500 a0=some r→ans A 500 [iI a0]=some (enc r):=s500R 6
def jt(a0:L2)(bG:Int)(s:Str×Int):Option ((Str×Int)⊕(Str)):=
 match s with
 |(eQ,bK)=>
  (getI a0 bG).bind fun cC=>
  if bK < (cC.length:Int)then
   (getI cC bK).bind fun eA=>
   (F500 eA).bind fun dA=>
   (addS eQ.val dA.val).bind fun cU=>
   (chk (bK+1)).bind fun iW=>
   some (.inl (⟨cU.val⟩,iW))
  else
   some (.inr ⟨eQ.val⟩)
def F501_1_B(a0:L2)(bG:Int)(bT:Str):Option ((Str)⊕(Str)):=
 if 0 < bG then
 (addS bT.val [44]).bind fun x6=>
 (getI a0 bG).bind fun x8=>
 if(x8.length:Int)=0 then
  (addS x6.val [45]).bind fun bA=>
  (qA (jt a0 bG) (⟨bA.val⟩,0)).bind fun cN=>
  some (.inl ⟨cN.val⟩)
 else
  (qA (jt a0 bG) (⟨x6.val⟩,0)).bind fun cN=>
  some (.inl ⟨cN.val⟩)
else
 (getI a0 bG).bind fun mD=>
 if(mD.length:Int)=0 then
  (addS bT.val [45]).bind fun rW=>
  (qA (jt a0 bG) (⟨rW.val⟩,0)).bind fun cN=>
  some (.inl ⟨cN.val⟩)
 else
  (qA (jt a0 bG) (⟨bT.val⟩,0)).bind fun cN=>
  some (.inl ⟨cN.val⟩)
def F501_1_D(a0:L2)(bG:Int)(bT:Str):Option (Str):=
 some ⟨bT.val⟩
def F501(a0:L2):Option Str:=
 if(a0.length:Int)=0 then
  some ⟨[45]⟩
 else
  (forR 0 (a0.length:Int) (F501_1_B a0) (F501_1_D a0) ⟨[]⟩).bind fun eU=>
  some ⟨eU.val⟩
def I501_2(a0:L2)(bG:Int)(s:Str×Int)(e:Env)(h:Heap):Prop:=
 match s with
 |(eQ,bK)=>
  ∃nR:Nat,h=⟨[],nR⟩∧e.length=47∧e.at 0=iL a0∧e.at 3=V.str eQ.val∧e.at 4=iI bG∧e.at 5=iI bK
def P501_2(a0:L2)(bG:Int)(cN:Str)(x:Ex)(e:Env)(h:Heap):Prop:=
 x= .normal∧∃nR:Nat,h=⟨[],nR⟩∧e.length=47∧e.at 0=iL a0∧e.at 3=V.str cN.val∧e.at 4=iI bG
theorem l501_2(a0:L2)(bG:Int){s:Str×Int}{t:Str}(hF:qA (jt a0 bG) s=some t){e:Env}{h:Heap}(hI:I501_2 a0 bG s e h):W A c501_2 e h (P501_2 a0 bG t):=by
 show W A (.block 2 (.loop false b501_2)) e h _;rw[qj];refine zi hF 0 (by rcases s with⟨_,_⟩; obtain⟨_,rfl,_⟩:=hI; rfl) (I501_2 a0 bG) hI ?_
 ·rintro⟨eQ,bK⟩ e h ⟨nR,rfl,h_13⟩ o ho
  unfold jt at ho;dsimp only at ho;obtain⟨cC,dM,ho⟩:=bS ho;obtain⟨sQ,sP⟩:=qg dM;by_cases pF:bK < (cC.length:Int)
  ·rw[if_pos pF]at ho
   obtain⟨eA,dV,ho⟩:=bS ho;obtain⟨r7,r6⟩:=qg dV;obtain⟨dA,dL,ho⟩:=bS ho;have sL:=s500 eA dL;obtain⟨cU,iC,ho⟩:=bS ho;have cy:binV 0 .add (V.str eQ.val) (V.str dA.val)=some (V.str cU.val):=xh iC;obtain⟨iW,iB,ho⟩:=bS ho;have m6:=qu iB;cases ho;simp only[simprocAttr,R0,b501_2, *];refine ai rfl (ei _ (ai rfl ?_));simp only[simprocAttr,R0, *]
  ·rw[if_neg pF]at ho
   cases ho;simp only[simprocAttr,R0,b501_2, *];intro ht; subst ht;simp only[simprocAttr,RR,RB];refine ai rfl (ei _ (ai rfl ?_));simp only[simprocAttr,R0, *]
def I501_1(a0:L2)(bG:Int)(bT:Str)(e:Env)(h:Heap):Prop:=
 ∃k3:Nat,h=⟨[],k3⟩∧e.length=47∧e.at 0=iL a0∧e.at 3=V.str bT.val∧e.at 4=iI bG
def P501_1(a0:L2)(eU:Str)(x:Ex)(e:Env)(h:Heap):Prop:=
 x= .normal∧∃k3:Nat,h=⟨[],k3⟩∧e.length=47∧e.at 3=V.str eU.val
theorem l501_1(a0:L2){lo:Int}{s:Str}{t:Str}(hF:forR lo (a0.length:Int) (F501_1_B a0) (F501_1_D a0) s=some t){e:Env}{h:Heap}(hI:I501_1 a0 lo s e h):W A c501_1 e h (P501_1 a0 t):=by
 show W A (.block 0 (.loop false b501_1)) e h _;rw[qj];refine qz hF 0 (by obtain⟨_,rfl,_⟩:=hI; rfl) (I501_1 a0) hI ?_ ?_
 ·rintro bG bT e h ⟨k3,rfl,h_2⟩ hlt hw o ho
  unfold F501_1_B at ho;by_cases c5:0 < bG
  ·rw[if_pos c5]at ho
   obtain⟨x6,fH,ho⟩:=bS ho;have w7:binV 0 .add (V.str bT.val) (V.str [44])=some (V.str x6.val):=xh fH;obtain⟨x8,kC,ho⟩:=bS ho;obtain⟨d9,d7⟩:=qg kC;by_cases c10:(x8.length:Int)=0
   ·rw[if_pos c10]at ho
    obtain⟨bA,cM,ho⟩:=bS ho;have pB:binV 0 .add (V.str x6.val) (V.str [45])=some (V.str bA.val):=xh cM;obtain⟨cN,kI,ho⟩:=bS ho;simp only[simprocAttr,R0,b501_1, *];refine W.mono (l501_2 a0 bG kI (ei _ (ai rfl ?_))) ?_
    ·simp only[simprocAttr,R0, *]
    rintro _ e _ ⟨rfl,nR,rfl,h_15⟩;cases ho;simp only[simprocAttr,R0, *];refine ai rfl (ei _ (ai rfl ?_));simp only[simprocAttr,R0, *]
   ·rw[if_neg c10]at ho
    obtain⟨cN,uQ,ho⟩:=bS ho;simp only[simprocAttr,R0,b501_1, *];refine W.mono (l501_2 a0 bG uQ (ei _ (ai rfl ?_))) ?_
    ·simp only[simprocAttr,R0, *]
    rintro _ e _ ⟨rfl,mV,rfl,h_29⟩;cases ho;simp only[simprocAttr,R0, *];refine ai rfl (ei _ (ai rfl ?_));simp only[simprocAttr,R0, *]
  ·rw[if_neg c5]at ho
   obtain⟨mD,lT,ho⟩:=bS ho;obtain⟨w42a,w42b⟩:=qg lT;by_cases c43:(mD.length:Int)=0
   ·rw[if_pos c43]at ho
    obtain⟨rW,uM,ho⟩:=bS ho;have w45:binV 0 .add (V.str bT.val) (V.str [45])=some (V.str rW.val):=xh uM;obtain⟨cN,ow,ho⟩:=bS ho;simp only[simprocAttr,R0,b501_1, *];refine W.mono (l501_2 a0 bG ow (ei _ (ai rfl ?_))) ?_
    ·simp only[simprocAttr,R0, *]
    rintro _ e _ ⟨rfl,k47,rfl,h_48⟩;cases ho;simp only[simprocAttr,R0, *];refine ai rfl (ei _ (ai rfl ?_));simp only[simprocAttr,R0, *]
   ·rw[if_neg c43]at ho
    obtain⟨cN,ou,ho⟩:=bS ho;simp only[simprocAttr,R0,b501_1, *];refine W.mono (l501_2 a0 bG ou (ei _ (ai rfl ?_))) ?_
    ·simp only[simprocAttr,R0, *]
    rintro _ e _ ⟨rfl,k61,rfl,h_62⟩;cases ho;simp only[simprocAttr,R0, *];refine ai rfl (ei _ (ai rfl ?_));simp only[simprocAttr,R0, *]
 ·rintro bG bT e h ⟨k3,rfl,h_2⟩ hge t1 ho
  unfold F501_1_D at ho;cases ho;simp only[simprocAttr,R0,b501_1, *];intro ht; subst ht;refine ai rfl (ei _ (ai rfl ?_));simp only[simprocAttr,R0, *]
theorem s501(a0:L2){r:Str}(hF:F501 a0=some r):ans A 501 [iL a0]=some (enc r):=by
 refine qv (f:=p501) rfl rfl rfl fun e hl he=>?_;have aA:=he 0 _ rfl;have hl_0:e.length=47:=hl;clear he hl;have h_0:=ai hl_0 aA;show W A b501 e ⟨[],0⟩ _;unfold F501 at hF;by_cases c1:(a0.length:Int)=0
 ·rw[if_pos c1]at hF
  cases hF;simp only[simprocAttr,R0,b501, *];exact qc (by simp only[simprocAttr,R0,qe,p501,Rs.ev,qb, *])
 ·rw[if_neg c1]at hF
  obtain⟨eU,ot,hF⟩:=bS hF;simp only[simprocAttr,R0,b501, *];refine W.mono (l501_1 a0 ot (ei _ (ai rfl ?_))) ?_
  ·simp only[simprocAttr,R0, *]
  rintro _ e _ ⟨rfl,k3,rfl,h_4⟩;cases hF;simp only[simprocAttr,R0, *];exact qc (by simp only[simprocAttr,R0,qe,p501,Rs.ev,qb, *])
def F499_1_B(a0:qa)(bG:Int)(bT:Str):Option ((Str)⊕(Str)):=
 if 0 < bG then
 (addS bT.val [44]).bind fun x9=>
 (getI a0.D bG).bind fun bA=>
 (F500 bA).bind fun bD=>
 (addS x9.val bD.val).bind fun cQ=>
 some (.inl ⟨cQ.val⟩)
else
 (getI a0.D bG).bind fun dU=>
 (F500 dU).bind fun eA=>
 (addS bT.val eA.val).bind fun dA=>
 some (.inl ⟨dA.val⟩)
def F499_1_D(a0:qa)(bG:Int)(bT:Str):Option (Str):=
 some ⟨bT.val⟩
def F499_2_B(a0:qa)(bK:Int)(eQ:Str):Option ((Str)⊕(Str)):=
 if 0 < bK then
 (addS eQ.val [59]).bind fun cW=>
 (getI a0.M bK).bind fun iT=>
 (F501 iT).bind fun eW=>
 (addS cW.val eW.val).bind fun nH=>
 some (.inl ⟨nH.val⟩)
else
 (getI a0.M bK).bind fun fT=>
 (F501 fT).bind fun rX=>
 (addS eQ.val rX.val).bind fun lJ=>
 some (.inl ⟨lJ.val⟩)
def F499_2_D(a0:qa)(bK:Int)(eQ:Str):Option (Str):=
 some ⟨eQ.val⟩
def F499(a0:qa):Option Str:=
 (F500 a0.P).bind fun x1=>
 (addS x1.val [58]).bind fun x3=>
 (forR 0 (a0.D.length:Int) (F499_1_B a0) (F499_1_D a0) ⟨x3.val⟩).bind fun eU=>
 (addS eU.val [58]).bind fun iG=>
 (forR 0 (a0.M.length:Int) (F499_2_B a0) (F499_2_D a0) ⟨iG.val⟩).bind fun cN=>
 some ⟨cN.val⟩
def I499_1(a0:qa)(bG:Int)(bT:Str)(e:Env)(h:Heap):Prop:=
 ∃k6:Nat,h=⟨[(0,none)],k6⟩∧e.length=51∧e.at 1=eP a0∧e.at 3=V.str bT.val∧e.at 4=iI bG
def P499_1(a0:qa)(eU:Str)(x:Ex)(e:Env)(h:Heap):Prop:=
 x= .normal∧∃k6:Nat,h=⟨[(0,none)],k6⟩∧e.length=51∧e.at 1=eP a0∧e.at 3=V.str eU.val
theorem l499_1(a0:qa){lo:Int}{s:Str}{t:Str}(hF:forR lo (a0.D.length:Int) (F499_1_B a0) (F499_1_D a0) s=some t){e:Env}{h:Heap}(hI:I499_1 a0 lo s e h):W A c499_1 e h (P499_1 a0 t):=by
 show W A (.block 0 (.loop false b499_1)) e h _;rw[qj];refine qz hF 1 (by obtain⟨_,rfl,_⟩:=hI; rfl) (I499_1 a0) hI ?_ ?_
 ·rintro bG bT e h ⟨k6,rfl,h_5⟩ hlt hw o ho
  unfold F499_1_B at ho;by_cases c8:0 < bG
  ·rw[if_pos c8]at ho
   obtain⟨x9,eJ,ho⟩:=bS ho;have pC:binV 0 .add (V.str bT.val) (V.str [44])=some (V.str x9.val):=xh eJ;obtain⟨bA,cM,ho⟩:=bS ho;obtain⟨fY,fX⟩:=qg cM;obtain⟨bD,cD,ho⟩:=bS ho;have mT:=s500 bA cD;obtain⟨cQ,dP,ho⟩:=bS ho;have f0:binV 0 .add (V.str x9.val) (V.str bD.val)=some (V.str cQ.val):=xh dP;cases ho;simp only[simprocAttr,R0,b499_1, *];refine ai rfl (ei _ (ai rfl ?_));simp only[simprocAttr,R0, *]
  ·rw[if_neg c8]at ho
   obtain⟨dU,eL,ho⟩:=bS ho;obtain⟨lM,kO⟩:=qg eL;obtain⟨eA,dV,ho⟩:=bS ho;have cz:=s500 dU dV;obtain⟨dA,dL,ho⟩:=bS ho;have sL:binV 0 .add (V.str bT.val) (V.str eA.val)=some (V.str dA.val):=xh dL;cases ho;simp only[simprocAttr,R0,b499_1, *];refine ai rfl (ei _ (ai rfl ?_));simp only[simprocAttr,R0, *]
 ·rintro bG bT e h ⟨k6,rfl,h_5⟩ hge t1 ho
  unfold F499_1_D at ho;cases ho;simp only[simprocAttr,R0,b499_1, *];intro ht; subst ht;refine ai rfl (ei _ (ai rfl ?_));simp only[simprocAttr,R0, *]
def I499_2(a0:qa)(bK:Int)(eQ:Str)(e:Env)(h:Heap):Prop:=
 ∃nE:Nat,h=⟨[(0,none)],nE⟩∧e.length=51∧e.at 1=eP a0∧e.at 3=V.str eQ.val∧e.at 5=iI bK
def P499_2(a0:qa)(cN:Str)(x:Ex)(e:Env)(h:Heap):Prop:=
 x= .normal∧∃nE:Nat,h=⟨[(0,none)],nE⟩∧e.length=51∧e.at 3=V.str cN.val
theorem l499_2(a0:qa){lo:Int}{s:Str}{t:Str}(hF:forR lo (a0.M.length:Int) (F499_2_B a0) (F499_2_D a0) s=some t){e:Env}{h:Heap}(hI:I499_2 a0 lo s e h):W A c499_2 e h (P499_2 a0 t):=by
 show W A (.block 2 (.loop false b499_2)) e h _;rw[qj];refine qz hF 1 (by obtain⟨_,rfl,_⟩:=hI; rfl) (I499_2 a0) hI ?_ ?_
 ·rintro bK eQ e h ⟨nE,rfl,h_26⟩ hlt hw o ho
  unfold F499_2_B at ho;by_cases rR:0 < bK
  ·rw[if_pos rR]at ho
   obtain⟨cW,fB,ho⟩:=bS ho;have o8:binV 0 .add (V.str eQ.val) (V.str [59])=some (V.str cW.val):=xh fB;obtain⟨iT,lW,ho⟩:=bS ho;obtain⟨w33a,w33b⟩:=qg lW;obtain⟨eW,lV,ho⟩:=bS ho;have w35:=s501 iT lV;obtain⟨nH,oA,ho⟩:=bS ho;have w37:binV 0 .add (V.str cW.val) (V.str eW.val)=some (V.str nH.val):=xh oA;cases ho;simp only[simprocAttr,R0,b499_2, *];refine ai rfl (ei _ (ai rfl ?_));simp only[simprocAttr,R0, *]
  ·rw[if_neg rR]at ho
   obtain⟨fT,lU,ho⟩:=bS ho;obtain⟨ij,ig⟩:=qg lU;obtain⟨rX,uN,ho⟩:=bS ho;have w41:=s501 fT uN;obtain⟨lJ,lS,ho⟩:=bS ho;have w43:binV 0 .add (V.str eQ.val) (V.str rX.val)=some (V.str lJ.val):=xh lS;cases ho;simp only[simprocAttr,R0,b499_2, *];refine ai rfl (ei _ (ai rfl ?_));simp only[simprocAttr,R0, *]
 ·rintro bK eQ e h ⟨nE,rfl,h_26⟩ hge t1 ho
  unfold F499_2_D at ho;cases ho;simp only[simprocAttr,R0,b499_2, *];intro ht; subst ht;refine ai rfl (ei _ (ai rfl ?_));simp only[simprocAttr,R0, *]
theorem s499(a0:qa){r:Str}(hF:F499 a0=some r):ans A 499 [(eC a0)]=some (enc r):=by
 refine qv (f:=p499) rfl rfl rfl fun e hl he=>?_;have aA:=he 0 _ rfl;have hl_0:e.length=51:=hl;clear he hl;show W A b499 e ⟨[],0⟩ _;unfold F499 at hF;obtain⟨x1,bI,hF⟩:=bS hF;have w2:=s500 a0.P bI;obtain⟨x3,dO,hF⟩:=bS hF;have w4:binV 0 .add (V.str x1.val) (V.str [58])=some (V.str x3.val):=xh dO;obtain⟨eU,pg,hF⟩:=bS hF;simp only[simprocAttr,R0,b499, *];refine W.mono (l499_1 a0 pg (ei _ (ai rfl ?_))) ?_
 ·simp only[simprocAttr,R0, *]
 rintro _ e _ ⟨rfl,k6,rfl,h_7⟩;obtain⟨iG,kF,hF⟩:=bS hF;have w25:binV 0 .add (V.str eU.val) (V.str [58])=some (V.str iG.val):=xh kF;obtain⟨cN,pb,hF⟩:=bS hF;simp only[simprocAttr,R0, *];refine W.mono (l499_2 a0 pb (ei _ (ai rfl ?_))) ?_
 ·simp only[simprocAttr,R0, *]
 rintro _ e _ ⟨rfl,nE,rfl,h_28⟩;cases hF;simp only[simprocAttr,R0, *];exact qc (by simp only[simprocAttr,R0,qe,p499,Rs.ev,qb, *])
def F488(src:qm)(a1:qa)(a2:qa):Option (T2 L3 qm):=
 (F487 src a1 a2 1).bind fun x1=>
 (F489 a1 a2 x1.a).bind fun x3=>
 (F499 a1).bind fun x5=>
 (F499 a2).bind fun x7=>
 if(x5.val==x7.val)=true then
  (F416 x1.b 4).bind fun dI=>
  if 0 < dI.a then
   (F474 a1).bind fun bD=>
   (F416 dI.b a1.P).bind fun cQ=>
   (F490 a1.P x3 bD.a cQ.a).bind fun dU=>
   some ⟨dU,cQ.b⟩
  else
   some ⟨x3,dI.b⟩
 else
  some ⟨x3,x1.b⟩
theorem s488(src:qm)(a1:qa)(a2:qa){r:T2 L3 qm}(hF:F488 src a1 a2=some r):xans A 488 (eS src) [(eC a1),(eC a2)]=some (iL r.a,(eS r.b)):=by
 refine xC (f:=p488) rfl rfl rfl fun e hl h0 he=>?_;have aA:e.at 0=V.ptr 0 0 0:=h0;have aB:e.at 1=(eC a1):=he 0 _ rfl;have aN:e.at 2=(eC a2):=he 1 _ rfl;have hl_0:e.length=42:=hl;clear h0 he hl;show W A b488 e ⟨[(0,some (eS src))],1⟩ _;unfold F488 at hF;obtain⟨x1,bI,hF⟩:=bS hF;have w2:xans A 487 (eS src) [(eC a1),(eC a2),iI 1]=some (iL x1.a,(eS x1.b)):=s487 src a1 a2 1 bI;obtain⟨x3,dO,hF⟩:=bS hF;have w4:ans A 489 [(eC a1),(eC a2),iL x1.a]=some (iL x3):=s489 a1 a2 x1.a dO;obtain⟨x5,dC,hF⟩:=bS hF;have w6:ans A 499 [(eC a1)]=some (V.str x5.val):=s499 a1 dC;obtain⟨x7,dF,hF⟩:=bS hF;have w8:ans A 499 [(eC a2)]=some (V.str x7.val):=s499 a2 dF;by_cases c9:(x5.val==x7.val)=true
 ·rw[if_pos c9]at hF
  obtain⟨dI,dY,hF⟩:=bS hF;have pP:xans A 416 (eS x1.b) [iI 4]=some (iI dI.a,(eS dI.b)):=s416 x1.b 4 dY;by_cases c12:0 < dI.a
  ·rw[if_pos c12]at hF
   obtain⟨bD,cD,hF⟩:=bS hF;have mT:ans A 474 [(eC a1)]=some (V.tup [iL bD.a,iI bD.b]):=s474 a1 cD;obtain⟨cQ,dP,hF⟩:=bS hF;have f0:xans A 416 (eS dI.b) [iI a1.P]=some (iI cQ.a,(eS cQ.b)):=s416 dI.b a1.P dP;obtain⟨dU,eL,hF⟩:=bS hF;have kg:ans A 490 [iI a1.P,iL x3,iL bD.a,iI cQ.a]=some (iL dU):=s490 a1.P x3 bD.a cQ.a eL;cases hF;simp only[simprocAttr,R0,b488,qf,jM,qf,qf, *];exact zu (by simp only[simprocAttr,R0,qe,p488,Rs.ev,qb,qf,jM,qf,qf, *])
  ·rw[if_neg c12]at hF
   cases hF;simp only[simprocAttr,R0,b488,qf,jM,qf, *];exact zu (by simp only[simprocAttr,R0,qe,p488,Rs.ev,qb,qf,jM,qf, *])
 ·rw[if_neg c9]at hF
  cases hF;simp only[simprocAttr,R0,b488,qf,jM,Bool.eq_false_iff.2 c9, *];exact zu (by simp only[simprocAttr,R0,qe,p488,Rs.ev,qb,qf,jM,Bool.eq_false_iff.2 c9, *])
def F457(a0:List U8):Option (T5 qa qa L3 L3 L3):=
 (F405 a0).bind fun x1=>
 (F486 x1).bind fun x3=>
 (F487 x3.b x3.a.a x3.a.b 1).bind fun x5=>
 (F488 x5.b x3.a.a x3.a.b).bind fun x7=>
 (F489 x3.a.a x3.a.b x5.a).bind fun x9=>
 (F490 x3.a.a.P x7.a x9 (-1)).bind fun bA=>
 (F416 x7.b 8).bind fun bD=>
 if bD.a=0 then
  (F487 bD.b x3.a.a x3.a.b 1).bind fun cC=>
  some ⟨x3.a.a,x3.a.b,x7.a,bA,cC.a⟩
 else
  if bD.a=1 then
   (F487 bD.b x3.a.a x3.a.b 0).bind fun eA=>
   some ⟨x3.a.a,x3.a.b,x7.a,eA.a,x5.a⟩
  else
   if bD.a=2 then
    (slI x5.a 1 (x5.a.length:Int)).bind fun eR=>
    some ⟨x3.a.a,x3.a.b,x7.a,bA,eR⟩
   else
    some ⟨x3.a.a,x3.a.b,x7.a,bA,x5.a⟩
theorem s457(a0:List U8){r:T5 qa qa L3 L3 L3}(hF:F457 a0=some r):ans A 457 [iL a0]=some (EncR.enc r):=by
 refine qv (f:=p457) rfl rfl rfl fun e hl he=>?_;have aA:=he 0 _ rfl;have hl_0:e.length=59:=hl;clear he hl;have h_0:=ai hl_0 aA;show W A b457 e ⟨[],0⟩ _;unfold F457 at hF;obtain⟨x1,bI,hF⟩:=bS hF;have w2:res A 405 [iL a0] ⟨[(0,some [iI 0,V.nils,V.nils]),(1,some [iI 0,V.nils,V.nils])],2⟩=some (V.ptr 2 2 0,⟨[(0,some [iI 0,V.nils,V.nils]),(1,some [iI 0,V.nils,V.nils]),(2,some (eS x1))],3⟩):=by
  obtain⟨_,w,rfl⟩:=d405 a0 bI [(0,some [iI 0,V.nils,V.nils]),(1,some [iI 0,V.nils,V.nils])] 2;exact w
 obtain⟨x3,dO,hF⟩:=bS hF;have w4:xans A 486 (eS x1) []=some (V.tup [(eC x3.a.a),(eC x3.a.b)],(eS x3.b)):=s486 x1 dO;obtain⟨x5,dC,hF⟩:=bS hF;have w6:xans A 487 (eS x3.b) [(eC x3.a.a),(eC x3.a.b),iI 1]=some (iL x5.a,(eS x5.b)):=s487 x3.b x3.a.a x3.a.b 1 dC;obtain⟨x7,dF,hF⟩:=bS hF;have w8:xans A 488 (eS x5.b) [(eC x3.a.a),(eC x3.a.b)]=some (iL x7.a,(eS x7.b)):=s488 x5.b x3.a.a x3.a.b dF;obtain⟨x9,eJ,hF⟩:=bS hF;have pC:=s489 x3.a.a x3.a.b x5.a eJ;obtain⟨bA,cM,hF⟩:=bS hF;have pB:=s490 x3.a.a.P x7.a x9 (-1) cM;obtain⟨bD,cD,hF⟩:=bS hF;have mT:xans A 416 (eS x7.b) [iI 8]=some (iI bD.a,(eS bD.b)):=s416 x7.b 8 cD;by_cases cx:bD.a=0
 ·rw[if_pos cx]at hF
  obtain⟨cC,dM,hF⟩:=bS hF;have rE:xans A 487 (eS bD.b) [(eC x3.a.a),(eC x3.a.b),iI 1]=some (iL cC.a,(eS cC.b)):=s487 bD.b x3.a.a x3.a.b 1 dM;cases hF;simp only[simprocAttr,R0,b457,qG,qf,qf,qf,qf,qf, *];exact qc (by simp only[simprocAttr,R0,qe,p457,Rs.ev,qb,qG,qf,qf,qf,qf,qf, *])
 ·rw[if_neg cx]at hF
  by_cases pF:bD.a=1
  ·rw[if_pos pF]at hF
   obtain⟨eA,dV,hF⟩:=bS hF;have cz:xans A 487 (eS bD.b) [(eC x3.a.a),(eC x3.a.b),iI 0]=some (iL eA.a,(eS eA.b)):=s487 bD.b x3.a.a x3.a.b 0 dV;cases hF;simp only[simprocAttr,R0,b457,qG,qf,qf,qf,qf,qf, *];exact qc (by simp only[simprocAttr,R0,qe,p457,Rs.ev,qb,qG,qf,qf,qf,qf,qf, *])
  ·rw[if_neg pF]at hF
   by_cases rS:bD.a=2
   ·rw[if_pos rS]at hF
    obtain⟨eR,uS,hF⟩:=bS hF;have w23:sliceV 1 (iL x5.a) (some (iI 1)) none=some (iL eR):=sliceV_w (α:=L2) One.one uS (.inr rfl) (.inl ⟨rfl,rfl⟩);cases hF;simp only[simprocAttr,R0,b457,qG,qf,qf,qf,qf, *];exact qc (by simp only[simprocAttr,R0,qe,p457,Rs.ev,qb,qG,qf,qf,qf,qf, *])
   ·rw[if_neg rS]at hF
    cases hF;simp only[simprocAttr,R0,b457,qG,qf,qf,qf,qf, *];exact qc (by simp only[simprocAttr,R0,qe,p457,Rs.ev,qb,qG,qf,qf,qf,qf, *])
def F73(a0:L1):Option Int:=
 some (a0.length:Int)
theorem s73(a0:L1){r:Int}(hF:F73 a0=some r):ans A 73 [iL a0]=some (enc r):=by
 refine qv (f:=p73) rfl rfl rfl fun e hl he=>?_;have aA:=he 0 _ rfl;have hl_0:e.length=5:=hl;clear he hl;show W A b73 e ⟨[],0⟩ _;unfold F73 at hF;cases hF;simp only[simprocAttr,R0,b73, *];exact qc (by simp only[simprocAttr,R0,qe,p73,Rs.ev,qb, *])
def F86(a0:qa):Option Int:=
 (chk ((a0.D.length:Int) - 1)).bind fun x3=>
 some x3
theorem s86(a0:qa){r:Int}(hF:F86 a0=some r):ans A 86 [(eC a0)]=some (enc r):=by
 refine qv (f:=p86) rfl rfl rfl fun e hl he=>?_;have aA:=he 0 _ rfl;have hl_0:e.length=7:=hl;clear he hl;show W A b86 e ⟨[],0⟩ _;unfold F86 at hF;have w2:=s73 a0.D rfl;obtain⟨x3,dO,hF⟩:=bS hF;have wx3:=qu dO;cases hF;simp only[simprocAttr,R0,b86, *];exact qc (by simp only[simprocAttr,R0,qe,p86,Rs.ev,qb, *])
end
end Rv
