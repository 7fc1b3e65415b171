/- What the abstract code answers: typed functions, part 3. -/
import Derived.Test.YtfecoipgcigamaaGreatCms1
namespace Rv
set_option linter.unusedVariables false
set_option linter.unusedSimpArgs false
set_option maxRecDepth 100000
noncomputable section
def F355_1_B(a0:GComplex)(v11_1:Int)(s:(List Int)×Int):Option (((List Int)×Int)⊕((List Int)×Int)):=
 match s with
 |(o1_1,v5_1)=>
  (app 8 o1_1 [v5_1]).bind fun l8=>
  (F168 a0 v11_1).bind fun x9=>
  (chk (v5_1+x9)).bind fun x11=>
  some (.inl (l8,x11))
def F355_1_D(a0:GComplex)(v11_1:Int)(s:(List Int)×Int):Option ((List Int)×Int):=
 match s with
 |(o1_1,v5_1)=>
  some (o1_1,v5_1)
def F355(a0:GComplex):Option (T2 (List Int) Int):=
 (forR 0 (a0.Dims.length:Int) (F355_1_B a0) (F355_1_D a0) ([],0)).bind fun t12=> match t12 with
  |(zo1_1,zv5_1)=>
   some ⟨zo1_1,zv5_1⟩
def I355_1(a0:GComplex)(v11_1:Int)(s:(List Int)×Int)(e:Env)(h:Heap):Prop:=
 match s with
 |(o1_1,v5_1)=>
  ∃u4 k5:Nat,h=⟨[(0,none),(u4,some (o1_1.map Enc.enc))],k5⟩∧e.length=26∧e.at 1=V.iptr [V.int .i64 a0.Prime,V.isl (a0.Dims.map Enc.enc),V.isl (a0.Maps.map Enc.enc)]∧e.at 4=V.sl 1 u4 0 o1_1.length 1∧e.at 5=V.int .i64 v5_1∧e.at 10=V.int .i64 (a0.Dims.length:Int)∧e.at 11=V.int .i64 v11_1
def P355_1(a0:GComplex)(t:(List Int)×Int)(x:Ex)(e:Env)(h:Heap):Prop:=
 match t with
 |(zo1_1,zv5_1)=>
  x= .normal∧∃u4 k5:Nat,h=⟨[(0,none),(u4,some (zo1_1.map Enc.enc))],k5⟩∧e.length=26∧e.at 4=V.sl 1 u4 0 zo1_1.length 1∧e.at 5=V.int .i64 zv5_1
theorem l355_1(a0:GComplex){lo:Int}{s:(List Int)×Int}{t:(List Int)×Int}(hF:forR lo (a0.Dims.length:Int) (F355_1_B a0) (F355_1_D a0) s=some t){e:Env}{h:Heap}(hI:I355_1 a0 lo s e h):W A c355_1 e h (P355_1 a0 t):=by
 show W A (.block 0 (.loop false b355_1)) e h _;rw[W_block];refine W_forR hF 2 (by rcases s with⟨_,_⟩; obtain⟨_,_,rfl,_⟩:=hI; rfl) (I355_1 a0) hI ?_ ?_
 ·rintro v11_1 ⟨o1_1,v5_1⟩ e h ⟨u4,k5,rfl,h_3⟩ hlt hw o ho
  unfold F355_1_B at ho;dsimp only at ho;obtain⟨l8,gl8,ho⟩:=bS ho;have w7:=fun a b c d e=> appendV_w (α:=Int) (n:=o1_1.length) (m:=1) (ds:=[V.int .i64 v5_1]) gl8 (by first|rfl|simp) (by first|rfl|simp) rfl a b c d e;have w7l:=app_len gl8;obtain⟨x9,gx9,ho⟩:=bS ho;have w10:ans A 168 [(eC a0),V.int .i64 v11_1]=some (V.int .i64 x9):=s168 a0 v11_1 gx9;obtain⟨x11,gx11,ho⟩:=bS ho;have wx11:=chk_w gx11;cases ho;simp only[simprocAttr,R0,b355_1,h_3,eq_true hlt,hw,w7,w10,wx11];refine ai rfl (ei _ (ei _ (ai rfl ?_)));simp only[simprocAttr,R0,h_3,eq_true hlt,hw,w7,w10,wx11]
 ·rintro v11_1 ⟨o1_1,v5_1⟩ e h ⟨u4,k5,rfl,h_3⟩ hge t1 ho
  unfold F355_1_D at ho;dsimp only at ho;cases ho;simp only[simprocAttr,R0,b355_1,h_3,eq_false hge];intro ht; subst ht;refine ai rfl (ei _ (ei _ (ai rfl ?_)));simp only[simprocAttr,R0,h_3,eq_false hge]
theorem s355(a0:GComplex){r:T2 (List Int) Int}(hF:F355 a0=some r):ans A 355 [(eC a0)]=some (EncR.enc r):=by
 refine ans_of (f:=p355) rfl rfl rfl fun e hl he=>?_;have h0_0:e.at 0=(eC a0):=he 0 _ rfl;have hl_0:e.length=26:=hl;clear he hl;show W A b355 e ⟨[],0⟩ _;unfold F355 at hF;have w2:ans A 73 [V.isl (a0.Dims.map Enc.enc)]=some (V.int .i64 (a0.Dims.length:Int)):=s73 a0.Dims rfl;obtain⟨⟨zo1_1,zv5_1⟩,gt12,hF⟩:=bS hF;dsimp only at hF;simp only[simprocAttr,R0,b355,hl_0,h0_0,w2];refine W.mono (l355_1 a0 gt12 (ei _ (ei _ (ai rfl ?_)))) ?_
 ·simp only[simprocAttr,R0,hl_0,h0_0,w2]
 rintro _ e _ ⟨rfl,u4,k5,rfl,h_6⟩;cases hF;simp only[simprocAttr,R0,h_6];exact fin_ret (by simp only[simprocAttr,R0,fn_out,p355,Rs.ev,take_len_self,h_6,frzs (α:=Int) zo1_1,takes (α:=Int) zo1_1])
def F188_1_B(x1:List Int)(x3:List Int)(v20_1:Int)(o0_1:(List Int)):Option (((List Int))⊕((List Int))):=
 (getI x3 v20_1).bind fun x9=>
(getI x1 x9).bind fun x11=>
(app 8 o0_1 [x11]).bind fun l14=>
some (.inl l14)
def F188_1_D(x1:List Int)(x3:List Int)(v20_1:Int)(o0_1:(List Int)):Option ((List Int)):=
 some o0_1
def F188(a0:Int)(a1:List Int)(a2:List (List Int))(a3:List (List Int)):Option (List Int):=
 (F205 a0 a1 a3).bind fun x1=>
 (F101 a2).bind fun x3=>
 (forR 0 (x3.length:Int) (F188_1_B x1 x3) (F188_1_D x1 x3) ([]:(List Int))).bind fun zo0_1=>
 some zo0_1
def I188_1(x1:List Int)(x3:List Int)(v20_1:Int)(o0_1:(List Int))(e:Env)(h:Heap):Prop:=
 ∃u6 k7:Nat,h=⟨[(u6,some (o0_1.map Enc.enc))],k7⟩∧e.length=33∧e.at 1=V.isl (x1.map Enc.enc)∧e.at 9=V.sl 0 u6 0 o0_1.length 1∧e.at 18=V.isl (x3.map Enc.enc)∧e.at 19=V.int .i64 (x3.length:Int)∧e.at 20=V.int .i64 v20_1
def P188_1(x1:List Int)(x3:List Int)(zo0_1:(List Int))(x:Ex)(e:Env)(h:Heap):Prop:=
 x= .normal∧∃u6 k7:Nat,h=⟨[(u6,some (zo0_1.map Enc.enc))],k7⟩∧e.length=33∧e.at 9=V.sl 0 u6 0 zo0_1.length 1
theorem l188_1(x1:List Int)(x3:List Int){lo:Int}{s:(List Int)}{t:(List Int)}(hF:forR lo (x3.length:Int) (F188_1_B x1 x3) (F188_1_D x1 x3) s=some t){e:Env}{h:Heap}(hI:I188_1 x1 x3 lo s e h):W A c188_1 e h (P188_1 x1 x3 t):=by
 show W A (.block 0 (.loop false b188_1)) e h _;rw[W_block];refine W_forR hF 1 (by obtain⟨_,_,rfl,_⟩:=hI; rfl) (I188_1 x1 x3) hI ?_ ?_
 ·rintro v20_1 o0_1 e h ⟨u6,k7,rfl,h_5⟩ hlt hw o ho
  unfold F188_1_B at ho;obtain⟨x9,gx9,ho⟩:=bS ho;obtain⟨w10a,w10b⟩:=getI_w gx9;obtain⟨x11,gx11,ho⟩:=bS ho;obtain⟨w12a,w12b⟩:=getI_w gx11;obtain⟨l14,gl14,ho⟩:=bS ho;have w13:=fun a b c d e=> appendV_w (α:=Int) (n:=o0_1.length) (m:=1) (ds:=[V.int .i64 x11]) gl14 (by first|rfl|simp) (by first|rfl|simp) rfl a b c d e;have w13l:=app_len gl14;cases ho;simp only[simprocAttr,R0,b188_1,h_5,eq_true hlt,hw,w10a,w10b,w12a,w12b,w13];refine ai rfl (ei _ (ei _ (ai rfl ?_)));simp only[simprocAttr,R0,h_5,eq_true hlt,hw,w10a,w10b,w12a,w12b,w13]
 ·rintro v20_1 o0_1 e h ⟨u6,k7,rfl,h_5⟩ hge t1 ho
  unfold F188_1_D at ho;cases ho;simp only[simprocAttr,R0,b188_1,h_5,eq_false hge];intro ht; subst ht;refine ai rfl (ei _ (ei _ (ai rfl ?_)));simp only[simprocAttr,R0,h_5,eq_false hge]
theorem s188(a0:Int)(a1:List Int)(a2:List (List Int))(a3:List (List Int)){r:List Int}(hF:F188 a0 a1 a2 a3=some r):ans A 188 [V.int .i64 a0,V.isl (a1.map Enc.enc),V.isl (a2.map Enc.enc),V.isl (a3.map Enc.enc)]=some (Enc.enc r):=by
 refine ans_of (f:=p188) rfl rfl rfl fun e hl he=>?_;have h0_0:e.at 0=V.int .i64 a0:=he 0 _ rfl;have h1_0:e.at 1=V.isl (a1.map Enc.enc):=he 1 _ rfl;have h2_0:e.at 2=V.isl (a2.map Enc.enc):=he 2 _ rfl;have h3_0:e.at 3=V.isl (a3.map Enc.enc):=he 3 _ rfl;have hl_0:e.length=33:=hl;clear he hl;show W A b188 e ⟨[],0⟩ _;unfold F188 at hF;obtain⟨x1,gx1,hF⟩:=bS hF;have w2:ans A 205 [V.int .i64 a0,V.isl (a1.map Enc.enc),V.isl (a3.map Enc.enc)]=some (V.isl (x1.map Enc.enc)):=s205 a0 a1 a3 gx1;obtain⟨x3,gx3,hF⟩:=bS hF;have w4:ans A 101 [V.isl (a2.map Enc.enc)]=some (V.isl (x3.map Enc.enc)):=s101 a2 gx3;obtain⟨zo0_1,gt15,hF⟩:=bS hF;simp only[simprocAttr, -Int.reduceNatCast',R0,b188,hl_0,h0_0,h1_0,h2_0,h3_0,w2,w4];refine W.mono (l188_1 x1 x3 gt15 (ei _ (ei _ (ai rfl ?_)))) ?_
 ·simp only[simprocAttr, -Int.reduceNatCast',R0,hl_0,h0_0,h1_0,h2_0,h3_0,w2,w4]
 rintro _ e _ ⟨rfl,u6,k7,rfl,hl_8,h9_8⟩;have hE:=Option.some.inj hF; subst hE;simp only[simprocAttr, -Int.reduceNatCast',R0,hl_8,h9_8];exact fin_ret (by simp only[simprocAttr, -Int.reduceNatCast',R0,fn_out,p188,Rs.ev,take_len_self,hl_8,h9_8,frzs (α:=Int) zo0_1,takes (α:=Int) zo0_1])
def F356(x:GComplex)(n fr all:Int)(v:List Int):Option (List Int):=(mkL 8 all (0:Int)).bind fun l=> if 0≤fr∧fr≤all then(F189 x n).bind fun h=>(F186 x n).bind fun b=>(F188 x.Prime v h b).bind fun c=> some (l.take fr.toNat++(c.take (min c.length (l.length - fr.toNat))++l.drop (fr.toNat+min c.length (l.length - fr.toNat))))else none
theorem srcV356(h:Heap)(w:List Int):srcV h 1 (V.isl (w.map Enc.enc))=some (w.length,List.map Enc.enc w):=by
 have:flat (w.map Enc.enc)=List.map Enc.enc w:=by
  unfold flat;induction w with
  |nil=> rfl
  |cons a l ih=> simp only[List.map_cons,List.flatMap_cons,ih]; rfl
 simp[srcV,this]
theorem d356(x:GComplex)(n fr all:Int)(v:List Int){r:List Int}(hF:F356 x n fr all v=some r):∃w h',res A 356 [(eC x),V.int .i64 n,V.int .i64 fr,V.int .i64 all,V.isl (v.map Enc.enc)] Heap.empty=some (w,h')∧∃K,Deep.rep h' w r K:=by
 refine res_dp (f:=p356) rfl rfl rfl fun e hl he=>?_;have h0_0:e.at 0=(eC x):=he 0 _ rfl;have h1_0:e.at 1=V.int .i64 n:=he 1 _ rfl;have h2_0:e.at 2=V.int .i64 fr:=he 2 _ rfl;have h3_0:e.at 3=V.int .i64 all:=he 3 _ rfl;have h4_0:e.at 4=V.isl (v.map Enc.enc):=he 4 _ rfl;have hl_0:e.length=29:=hl;clear he hl;show W A b356 e ⟨[],0⟩ _;unfold F356 at hF;obtain⟨l,gl,hF⟩:=bS hF;obtain⟨m1,m2,m3,m4,m5⟩:=mkL_w gl;replace m5:(List.replicate (Int.toNat all) [V.int .i64 0]).flatten=List.map Enc.enc l:=m5;rw[←m4]at m5;split at hF
 case isFalse=> cases hF
 rename_i hb;obtain⟨h,gh,hF⟩:=bS hF;have wh:ans A 189 [(eC x),V.int .i64 n]=some (V.isl (h.map Enc.enc)):=s189 x n gh;obtain⟨b,gb,hF⟩:=bS hF;have wb:ans A 186 [(eC x),V.int .i64 n]=some (V.isl (b.map Enc.enc)):=s186 x n gb;obtain⟨c,gc,hF⟩:=bS hF;have wc:ans A 188 [V.int .i64 x.Prime,V.isl (v.map Enc.enc),V.isl (h.map Enc.enc),V.isl (b.map Enc.enc)]=some (V.isl (c.map Enc.enc)):=s188 x.Prime v h b gc;cases hF;have hle:fr.toNat≤l.length:=by omega
 have sl:sliceV 1 (.sl 1 1 0 all.toNat 1) (some (.int .i64 fr)) none=some (.sl 1 1 fr.toNat (all.toNat - fr.toNat) 1):=slice_lo hb.1 (by omega);rw[←m4]at sl;have hlv:lenV (V.sl 1 1 fr.toNat (l.length - fr.toNat) 1)=some (l.length - fr.toNat):=rfl;have fin:∀ (cs:List V) (k:Nat),List.map Enc.enc l=cs→(⟨[(0,none),(1,some cs)],k⟩:Heap).ents[1]? =some (1,some cs):=fun _ _ _=> rfl;by_cases hj:min c.length (l.length - fr.toNat)=0
 ·simp only[simprocAttr, -Int.reduceNatCast',R0,b356,hl_0,h0_0,h1_0,h2_0,h3_0,h4_0,m1,m2,m3,m5,←m4,sl,wh,wb,wc,srcV356,hlv,eq_true hj]
  refine ai (fun _=> trivial) ⟨V.sl 1 1 0 l.length 1,?_,fun k=> k=1,?_⟩
  ·simp only[simprocAttr, -Int.reduceNatCast',R0,fn_out,p356,Rs.ev,hl_0]
  ·have e:l.take fr.toNat++(c.take (min c.length (l.length - fr.toNat))++l.drop (fr.toNat+min c.length (l.length - fr.toNat)))=l:=by rw[hj]; simp
   rw[e];exact int_row rfl fun k=> Iff.rfl
 ·have hle2:fr.toNat+min c.length (l.length - fr.toNat)≤l.length:=by omega
  have put:List.take fr.toNat (l.map Enc.enc)++List.take (min c.length (l.length - fr.toNat)) (c.map Enc.enc)++List.drop (fr.toNat+min c.length (l.length - fr.toNat)) (l.map Enc.enc)=List.map (Enc.enc (α:=Int)) (l.take fr.toNat++(c.take (min c.length (l.length - fr.toNat))++l.drop (fr.toNat+min c.length (l.length - fr.toNat)))):=by
   simp only[List.map_append,List.map_take,List.map_drop,List.append_assoc]
  simp only[simprocAttr, -Int.reduceNatCast',R0,b356,hl_0,h0_0,h1_0,h2_0,h3_0,h4_0,m1,m2,m3,m5,←m4,sl,wh,wb,wc,srcV356,hlv,eq_false hj,eq_true hle2,put];refine ai (fun _=> trivial) ⟨V.sl 1 1 0 l.length 1,?_,fun k=> k=1,?_⟩
  ·simp only[simprocAttr, -Int.reduceNatCast',R0,fn_out,p356,Rs.ev,hl_0]
  ·have e:l.length=(l.take fr.toNat++(c.take (min c.length (l.length - fr.toNat))++l.drop (fr.toNat+min c.length (l.length - fr.toNat)))).length:=by
    simp only[List.length_append,List.length_take,List.length_drop]; omega
   refine(congrArg (fun n=> Deep.rep _ (V.sl 1 1 0 n 1) _ _) e).mpr ?_;exact int_row rfl fun k=> Iff.rfl
theorem t356(x:GComplex)(n fr all:Int)(v:List Int){r:List Int}(hF:F356 x n fr all v=some r):tans A 356 [1] [(eC x),V.int .i64 n,V.int .i64 fr,V.int .i64 all,V.isl (v.map Enc.enc)]=some (Enc.enc r):=tans_of_deep (α:=List Int) (by decide) (d356 x n fr all v hF)
def F346_2_B(x:GComplex)(f:List (List (List Int)))(y:GComplex)(os ot:T2 (List Int) Int)(n:Int)(hs:List (List Int))(i:Int)(s:List (List Int)×List (List Int)):Option ((List (List Int)×List (List Int))⊕(List (List Int)×List (List Int))):=
 (getI hs i).bind fun a=>(getI os.a n).bind fun o=>(F309 x x f 0 n a).bind fun u=>(F356 x n o os.b u).bind fun c=>(app 24 s.1 [c]).bind fun l1=>
 (getI ot.a n).bind fun p=>(F96 a).bind fun w=>(chk (n - 1)).bind fun m=>(F102 x m).bind fun d=>(appZ 8 w d 0).bind fun z=>(F356 y n p ot.b z).bind fun b=>(app 24 s.2 [b]).bind fun l2=> some (.inl (l1,l2))
def F346_2_D(x:GComplex)(f:List (List (List Int)))(y:GComplex)(os ot:T2 (List Int) Int)(n:Int)(hs:List (List Int))(i:Int)(s:List (List Int)×List (List Int)):Option (List (List Int)×List (List Int)):=some s
def F346_1_B(x:GComplex)(f:List (List (List Int)))(y:GComplex)(os ot:T2 (List Int) Int)(n:Int)(s:List (List Int)×List (List Int)):Option ((List (List Int)×List (List Int))⊕(List (List Int)×List (List Int))):=
 (F189 x n).bind fun hs=>(forR 0 (hs.length:Int) (F346_2_B x f y os ot n hs) (F346_2_D x f y os ot n hs) s).bind fun t=> some (.inl t)
def F346_1_D(x:GComplex)(f:List (List (List Int)))(y:GComplex)(os ot:T2 (List Int) Int)(n:Int)(s:List (List Int)×List (List Int)):Option (List (List Int)×List (List Int)):=some s
def F346_4_B(x:GComplex)(f:List (List (List Int)))(y:GComplex)(os ot:T2 (List Int) Int)(n:Int)(hs:List (List Int))(i:Int)(s:List (List Int)):Option ((List (List Int))⊕(List (List Int))):=
 (getI hs i).bind fun a=>(mkL 8 os.b (0:Int)).bind fun z=>
 if 0 < n then(chk (n - 1)).bind fun m=>(getI os.a m).bind fun o=>(F102 x n).bind fun d=>(slI a d (a.length:Int)).bind fun w=>(F356 x m o os.b w).bind fun c=>(app 24 s [c]).bind fun l=> some (.inl l)
 else(app 24 s [z]).bind fun l=> some (.inl l)
def F346_4_D(x:GComplex)(f:List (List (List Int)))(y:GComplex)(os ot:T2 (List Int) Int)(n:Int)(hs:List (List Int))(i:Int)(s:List (List Int)):Option (List (List Int)):=some s
def F346_3_B(x:GComplex)(f:List (List (List Int)))(y:GComplex)(os ot:T2 (List Int) Int)(n:Int)(s:List (List Int)):Option ((List (List Int))⊕(List (List Int))):=
 (F189 y n).bind fun hs=>(forR 0 (hs.length:Int) (F346_4_B x f y os ot n hs) (F346_4_D x f y os ot n hs) s).bind fun t=> some (.inl t)
def F346_3_D(x:GComplex)(f:List (List (List Int)))(y:GComplex)(os ot:T2 (List Int) Int)(n:Int)(s:List (List Int)):Option (List (List Int)):=some s
def F346(x:GComplex)(f:List (List (List Int))):Option (T2 GCouple Int):=
 (F244 x x [f]).bind fun c=>
 if c=0 then
  (F245 x x f).bind fun y=>(F355 x).bind fun os=>(F355 y).bind fun ot=>
  if 24 < os.b then some ⟨⟨0,0,0,[],[],[]⟩,3⟩
  else if 24 < ot.b then some ⟨⟨0,0,0,[],[],[]⟩,3⟩
  else(forR 0 (x.Dims.length:Int) (F346_1_B x f y os ot) (F346_1_D x f y os ot) (([],[]):List (List Int)×List (List Int))).bind fun t=>
   (forR 0 (y.Dims.length:Int) (F346_3_B x f y os ot) (F346_3_D x f y os ot) ([]:List (List Int))).bind fun k=>
   some ⟨⟨x.Prime,os.b,ot.b,t.1,t.2,k⟩,0⟩
 else some ⟨⟨0,0,0,[],[],[]⟩,c⟩
def S346(x:GComplex)(f:List (List (List Int)))(y:GComplex)(os ot:T2 (List Int) Int)(I J K:List (List Int))(h:Heap):Prop:=∃u v w:V,∃K1 K2 K3:Ks,h.ents[1]? =some (1,some [V.int .i64 0,V.int .i64 0,V.int .i64 0,V.nils,V.nils,V.nils])∧h.ents[3]? =some (3,some [V.int .i64 y.Prime,V.isl (y.Dims.map Enc.enc),V.isl (y.Maps.map Enc.enc)])∧h.ents[4]? =some (4,some [V.int .i64 x.Prime,V.int .i64 os.b,V.int .i64 ot.b,u,v,w])∧
 Deep.rep h u I K1∧Deep.rep h v J K2∧Deep.rep h w K K3∧(∀k,K1 k→¬K2 k)∧(∀k,K1 k→¬K3 k)∧(∀k,K2 k→¬K3 k)∧(∀k,K1 k→5≤k)∧(∀k,K2 k→5≤k)∧∀k,K3 k→5≤k
theorem g346{E A:List (Nat×Option (List V))}{c ca:Nat}{u v w x:V}{I J K I':List (List Int)}{a:List Int}{K1 K2 K3 N:Ks}(r1:Deep.rep ⟨E,c⟩ u I K1)(r2:Deep.rep ⟨E,c⟩ v J K2)(r3:Deep.rep ⟨E,c⟩ w K K3)(d12:∀k,K1 k→¬K2 k)(d13:∀k,K1 k→¬K3 k)(b1:∀k,K1 k→5≤k)(b2:∀k,K2 k→5≤k)(b3:∀k,K3 k→5≤k)(h5:5≤E.length)
  (hA:∀k,k < E.length→A[k]? =E[k]?) (hl:E.length≤A.length) (rx:Deep.rep ⟨A,ca⟩ x a N) (hN:∀k,N k→E.length≤k) (g:app 24 I [a]=some I'):
  ∃u' E' c',∃K1':Ks,appendV 1 24 u 1 [x] ⟨A,ca⟩=some (u',⟨E',c'⟩)∧(∀k,k < 5→E'[k]? =E[k]?)∧E.length≤E'.length∧(∀z,Deep.rep ⟨E'.set 4 z,c'⟩ u' I' K1'∧Deep.rep ⟨E'.set 4 z,c'⟩ v J K2∧Deep.rep ⟨E'.set 4 z,c'⟩ w K K3)∧(∀k,K1' k→¬K2 k)∧(∀k,K1' k→¬K3 k)∧∀k,K1' k→5≤k:=by
 have q1:∀k,K1 k→k < E.length:=fun k q=> Deep.bd r1 q;have q2:∀k,K2 k→k < E.length:=fun k q=> Deep.bd r2 q;have q3:∀k,K3 k→k < E.length:=fun k q=> Deep.bd r3 q;obtain⟨u',E',c',K1',p1,p2,p3,p4,p5⟩:=append_rep (Deep.frame r1 fun k q=> hA k (q1 k q)) rx (fun k q z=> by have:=q1 k q; have:=hN k z; omega) g;have old:∀k,k < E.length→¬K1 k→E'[k]? =E[k]?:=fun k a b=>(p4 k (by omega) b).trans (hA k a);have far:∀k,K1' k→K1 k∨E.length≤k:=fun k q=> by
  rcases p3 k q with h|h|h
  ·exact .inl h
  ·exact .inr (hN k h)
  ·exact .inr (by omega)
 have lo:∀k,K1' k→5≤k:=fun k q=> by
  rcases far k q with h|h
  ·exact b1 k h
  ·omega
 refine⟨u',E',c',K1',p1,fun k q=> old k (by omega) fun z=>(by have:=b1 k z; omega),by omega,fun z=>⟨Deep.frame p2 fun k q=> set_ne (by have:=lo k q; omega),Deep.frame r2 fun k q=>(set_ne (by have:=b2 k q; omega)).trans (old k (q2 k q) fun z=> d12 k z q),Deep.frame r3 fun k q=>(set_ne (by have:=b3 k q; omega)).trans (old k (q3 k q) fun z=> d13 k z q)⟩,fun k q z=>?_,fun k q z=>?_,lo⟩
 ·rcases far k q with h|h
  ·exact d12 k h z
  ·have:=q2 k z; omega
 ·rcases far k q with h|h
  ·exact d13 k h z
  ·have:=q3 k z; omega
theorem az346{E:List (Nat×Option (List V))}{c:Nat}{w z:List Int}{d:Int}(g:app 8 w (List.replicate d.toNat 0)=some z):∃U C,appendV 1 8 (V.sl E.length c 0 w.length 1) d.toNat (List.replicate d.toNat [V.int .i64 0]).flatten ⟨E++[(c,some (w.map Enc.enc))],c+1⟩=some (V.sl E.length U 0 z.length 1,⟨E++[(U,some (z.map Enc.enc))],C⟩):=by
 have e:List.map Enc.enc (List.replicate d.toNat (0:Int))=(List.replicate d.toNat [V.int .i64 0]).flatten:=by
  rw[List.flatten_replicate_singleton,List.map_replicate]; rfl
 refine⟨appU d.toNat c (c+1),appC d.toNat (c+1),(appendV_w (α:=Int) g rfl (by simp) e _ E.length c (c+1) (get_last _ _)).trans ?_⟩;rw[set_last]
theorem gl3346{E:List (Nat×Option (List V))}{x y z:Nat×Option (List V)}:(E++[x]++[y]++[z])[E.length+1+1]? =some z:=ge3c _ _ _ _
theorem l346_2(x:GComplex)(f:List (List (List Int)))(y:GComplex)(os ot:T2 (List Int) Int)(n:Int)(hs:List (List Int)){s0 s1:List (List Int)×List (List Int)}(hF:forR 0 (hs.length:Int) (F346_2_B x f y os ot n hs) (F346_2_D x f y os ot n hs) s0=some s1){e:Env}{h:Heap}(hH:S346 x f y os ot s0.1 s0.2 [] h)
  (hl_0:e.length=152) (h1_0:e.at 1=V.isl (f.map Enc.enc)) (h2_0:e.at 2=V.iptr [V.int .i64 x.Prime,V.isl (x.Dims.map Enc.enc),V.isl (x.Maps.map Enc.enc)]) (h4_0:e.at 4=V.ptr 1 1 0) (h7_0:e.at 7=V.ptr 3 3 0) (h8_0:e.at 8=V.isl (os.a.map Enc.enc)) (h9_0:e.at 9=V.int .i64 os.b) (h10_0:e.at 10=V.isl (ot.a.map Enc.enc)) (h11_0:e.at 11=V.int .i64 ot.b) (h12_0:e.at 12=V.ptr 4 4 0) (h57_0:e.at 57=V.int .i64 (x.Dims.length:Int)) (h58_0:e.at 58=V.int .i64 n) (h13_0:e.at 13=V.int .i64 n) (h63_0:e.at 63=V.isl (hs.map Enc.enc)) (h64_0:e.at 64=V.int .i64 (hs.length:Int)) (h65_0:e.at 65=V.int .i64 0):
  W A (.block 2 (.loop true b346_2)) e h (fun x' e h=> x'= .normal∧S346 x f y os ot s1.1 s1.2 [] h∧e.length=152∧e.at 1=V.isl (f.map Enc.enc)∧e.at 2=V.iptr [V.int .i64 x.Prime,V.isl (x.Dims.map Enc.enc),V.isl (x.Maps.map Enc.enc)]∧e.at 4=V.ptr 1 1 0∧e.at 7=V.ptr 3 3 0∧e.at 8=V.isl (os.a.map Enc.enc)∧e.at 9=V.int .i64 os.b∧e.at 10=V.isl (ot.a.map Enc.enc)∧e.at 11=V.int .i64 ot.b∧e.at 12=V.ptr 4 4 0∧e.at 57=V.int .i64 (x.Dims.length:Int)∧e.at 58=V.int .i64 n):=by
 rw[W_block];refine W_forR hF _ rfl (fun i s e h=> S346 x f y os ot s.1 s.2 [] h∧e.length=152∧e.at 1=V.isl (f.map Enc.enc)∧e.at 2=V.iptr [V.int .i64 x.Prime,V.isl (x.Dims.map Enc.enc),V.isl (x.Maps.map Enc.enc)]∧e.at 4=V.ptr 1 1 0∧e.at 7=V.ptr 3 3 0∧e.at 8=V.isl (os.a.map Enc.enc)∧e.at 9=V.int .i64 os.b∧e.at 10=V.isl (ot.a.map Enc.enc)∧e.at 11=V.int .i64 ot.b∧e.at 12=V.ptr 4 4 0∧e.at 57=V.int .i64 (x.Dims.length:Int)∧e.at 58=V.int .i64 n∧e.at 13=V.int .i64 n∧e.at 63=V.isl (hs.map Enc.enc)∧e.at 64=V.int .i64 (hs.length:Int)∧e.at 65=V.int .i64 i) ⟨hH,hl_0,h1_0,h2_0,h4_0,h7_0,h8_0,h9_0,h10_0,h11_0,h12_0,h57_0,h58_0,h13_0,h63_0,h64_0,h65_0⟩ ?_ ?_
 ·clear hH hl_0 h1_0 h2_0 h4_0 h7_0 h8_0 h9_0 h10_0 h11_0 h12_0 h57_0 h58_0 h13_0 h63_0 h64_0 h65_0
  rintro i ⟨I,J⟩ e ⟨E,c⟩ ⟨⟨u,v,w,K1,K2,K3,g1,g3,g4,r1,r2,r3,d12,d13,d23,b1,b2,b3⟩,h_1⟩ hlt hw o ho;simp only at g1 g3 g4 r1 r2 r3;unfold F346_2_B at ho;dsimp only at ho;obtain⟨a,ga,ho⟩:=bS ho;obtain⟨wa1,wa2⟩:=getI_w ga;obtain⟨o1,go,ho⟩:=bS ho;obtain⟨wo1,wo2⟩:=getI_w go;obtain⟨uu,gu,ho⟩:=bS ho;have wu:ans A 309 [(eC x),(eC x),V.isl (f.map Enc.enc),V.int .i64 0,V.int .i64 n,V.isl (a.map Enc.enc)]=some (V.isl (uu.map Enc.enc)):=s309 x x f 0 n a gu;obtain⟨c1,gc1,ho⟩:=bS ho;have wc:tans A 356 [1] [(eC x),V.int .i64 n,V.int .i64 o1,V.int .i64 os.b,V.isl (uu.map Enc.enc)]=some (V.isl (c1.map Enc.enc)):=t356 x n o1 os.b uu gc1;obtain⟨l1,gl1,ho⟩:=bS ho;obtain⟨p,gp,ho⟩:=bS ho;obtain⟨wp1,wp2⟩:=getI_w gp;obtain⟨wv,gw,ho⟩:=bS ho;have ww:tans A 96 [1] [V.isl (a.map Enc.enc)]=some (V.isl (wv.map Enc.enc)):=t96 a gw;obtain⟨m,gm,ho⟩:=bS ho;have wm:=chk_w gm;obtain⟨d,gd,ho⟩:=bS ho;have wd:ans A 102 [(eC x),V.int .i64 m]=some (V.int .i64 d):=s102 x m gd;obtain⟨z,gz,ho⟩:=bS ho;obtain⟨z1,z2,z3,z4,z5,z6⟩:=appZ_w gz;obtain⟨c2,gc2,ho⟩:=bS ho;have wc2:tans A 356 [1] [(eC y),V.int .i64 n,V.int .i64 p,V.int .i64 ot.b,V.isl (z.map Enc.enc)]=some (V.isl (c2.map Enc.enc)):=t356 y n p ot.b z gc2;obtain⟨l2,gl2,ho⟩:=bS ho;cases ho;have h5:5≤E.length:=(List.getElem?_eq_some_iff.1 g4).1;obtain⟨u',E',c',K1',p1,p2,p3,p4,p5,p6,p7⟩:=g346 (A:=E++[(c,some (c1.map Enc.enc))]++[(c+1,some [V.sl E.length c 0 c1.length 1])]) (ca:=c+1+1) r1 r2 r3 d12 d13 b1 b2 b3 h5 (fun k q=> by rw[List.append_assoc]; exact List.getElem?_append_left q) (by simp) (x:=V.sl E.length c 0 c1.length 1) (a:=c1) (N:=fun k=> k=E.length) (int_row (ge2a _ _ _) fun k=> Iff.rfl) (fun k q=> by omega) gl1;obtain⟨y1,y2,y3⟩:=p4 (4,some [V.int .i64 x.Prime,V.int .i64 os.b,V.int .i64 ot.b,u',v,w]);have e4:=(p2 4 (by decide)).trans g4;have e3:=(p2 3 (by decide)).trans g3;have e1:=(p2 1 (by decide)).trans g1;obtain⟨E1,hE1⟩:∃E1,E1=E'.set 4 (4,some [V.int .i64 x.Prime,V.int .i64 os.b,V.int .i64 ot.b,u',v,w]):=⟨_,rfl⟩;have f4:E1[4]? =some (4,some [V.int .i64 x.Prime,V.int .i64 os.b,V.int .i64 ot.b,u',v,w]):=by rw[hE1]; exact set_app_key (by omega)
  have f3:E1[3]? =some (3,some [V.int .i64 y.Prime,V.isl (y.Dims.map Enc.enc),V.isl (y.Maps.map Enc.enc)]):=by rw[hE1]; exact(set_ne (by decide)).trans e3
  have f1:E1[1]? =some (1,some [V.int .i64 0,V.int .i64 0,V.int .i64 0,V.nils,V.nils,V.nils]):=by rw[hE1]; exact(set_ne (by decide)).trans e1
  have h5':5≤E1.length:=(List.getElem?_eq_some_iff.1 f4).1;rw[←hE1]at y1 y2 y3;replace hE1:=hE1.symm;obtain⟨U,C,ap⟩:=az346 (E:=E1) (c:=c') z4;have zz:frz ⟨E1++[(U,some (z.map Enc.enc))],C⟩ 16 (V.sl E1.length U 0 z.length 1)=some (V.isl (z.map Enc.enc)):=frz_row (get_last _ _);have wb:bare 16 [1] (V.isl (c2.map Enc.enc))=true:=bare_one (α:=Int) c2;obtain⟨v',E2,q2,K2',t1,t2,t3,t4,t5,t6,t7⟩:=g346 (A:=E1++[(U,some (z.map Enc.enc))]++[(C,some (c2.map Enc.enc))]++[(C+1,some [V.sl (E1.length+1) C 0 c2.length 1])]) (ca:=C+1+1) y2 y1 y3 (fun k q z=> p5 k z q) d23 b2 p7 b3 h5' (fun k q=> by rw[List.append_assoc,List.append_assoc]; exact List.getElem?_append_left q) (by simp) (x:=V.sl (E1.length+1) C 0 c2.length 1) (a:=c2) (N:=fun k=> k=E1.length+1) (int_row (ge3b _ _ _ _) fun k=> Iff.rfl) (fun k q=> by omega) gl2;obtain⟨x2,x1,x3⟩:=t4 (4,some [V.int .i64 x.Prime,V.int .i64 os.b,V.int .i64 ot.b,u',v',w]);have k4:=(t2 4 (by decide)).trans f4;have k3:=(t2 3 (by decide)).trans f3;have k1:=(t2 1 (by decide)).trans f1;obtain⟨cu,tu⟩:=rep_one y1;obtain⟨cv,tv⟩:=rep_one x2;simp only[simprocAttr, -Int.reduceNatCast',R0,b346_2,h_1,eq_true hlt,hw,wa1,wa2,wo1,wo2,wu,wc,wp1,wp2,ww,wm,wd,z1,z2,z3,g4,g3,callM_tans,thaw_one,get_last,ge2b,gl3346,le1,p1,e4,hE1,f4,f3,ap,zz,wb,wc2,t1,k4,cu,tu,cv,tv];refine ai rfl (ai ⟨u',v',w,K1',K2',K3,(set_ne (by decide)).trans k1,(set_ne (by decide)).trans k3,set_app_key (by omega),x1,x2,x3,fun k q z=> t5 k z q,p6,t6,p7,t7,b3⟩ ?_);simp only[simprocAttr, -Int.reduceNatCast',R0,h_1,hw]
 ·clear hH hl_0 h1_0 h2_0 h4_0 h7_0 h8_0 h9_0 h10_0 h11_0 h12_0 h57_0 h58_0 h13_0 h63_0 h64_0 h65_0
  rintro i s e h ⟨hS,h_1⟩ hge t1 ho;unfold F346_2_D at ho;cases ho;simp only[simprocAttr, -Int.reduceNatCast',R0,b346_2,h_1,eq_false hge];intro ht; subst ht;exact hS
theorem l346_4(x:GComplex)(f:List (List (List Int)))(y:GComplex)(os ot:T2 (List Int) Int)(I J:List (List Int))(n:Int)(hs:List (List Int)){s0 s1:List (List Int)}(hF:forR 0 (hs.length:Int) (F346_4_B x f y os ot n hs) (F346_4_D x f y os ot n hs) s0=some s1){e:Env}{h:Heap}(hH:S346 x f y os ot I J s0 h)
  (hl_0:e.length=152) (h1_0:e.at 1=V.isl (f.map Enc.enc)) (h2_0:e.at 2=V.iptr [V.int .i64 x.Prime,V.isl (x.Dims.map Enc.enc),V.isl (x.Maps.map Enc.enc)]) (h4_0:e.at 4=V.ptr 1 1 0) (h7_0:e.at 7=V.ptr 3 3 0) (h8_0:e.at 8=V.isl (os.a.map Enc.enc)) (h9_0:e.at 9=V.int .i64 os.b) (h10_0:e.at 10=V.isl (ot.a.map Enc.enc)) (h11_0:e.at 11=V.int .i64 ot.b) (h12_0:e.at 12=V.ptr 4 4 0) (h112_0:e.at 112=V.int .i64 (y.Dims.length:Int)) (h113_0:e.at 113=V.int .i64 n) (h16_0:e.at 16=V.int .i64 n) (h118_0:e.at 118=V.isl (hs.map Enc.enc)) (h119_0:e.at 119=V.int .i64 (hs.length:Int)) (h120_0:e.at 120=V.int .i64 0):
  W A (.block 6 (.loop true b346_4)) e h (fun x' e h=> x'= .normal∧S346 x f y os ot I J s1 h∧e.length=152∧e.at 1=V.isl (f.map Enc.enc)∧e.at 2=V.iptr [V.int .i64 x.Prime,V.isl (x.Dims.map Enc.enc),V.isl (x.Maps.map Enc.enc)]∧e.at 4=V.ptr 1 1 0∧e.at 7=V.ptr 3 3 0∧e.at 8=V.isl (os.a.map Enc.enc)∧e.at 9=V.int .i64 os.b∧e.at 10=V.isl (ot.a.map Enc.enc)∧e.at 11=V.int .i64 ot.b∧e.at 12=V.ptr 4 4 0∧e.at 112=V.int .i64 (y.Dims.length:Int)∧e.at 113=V.int .i64 n):=by
 rw[W_block];refine W_forR hF _ rfl (fun i s e h=> S346 x f y os ot I J s h∧e.length=152∧e.at 1=V.isl (f.map Enc.enc)∧e.at 2=V.iptr [V.int .i64 x.Prime,V.isl (x.Dims.map Enc.enc),V.isl (x.Maps.map Enc.enc)]∧e.at 4=V.ptr 1 1 0∧e.at 7=V.ptr 3 3 0∧e.at 8=V.isl (os.a.map Enc.enc)∧e.at 9=V.int .i64 os.b∧e.at 10=V.isl (ot.a.map Enc.enc)∧e.at 11=V.int .i64 ot.b∧e.at 12=V.ptr 4 4 0∧e.at 112=V.int .i64 (y.Dims.length:Int)∧e.at 113=V.int .i64 n∧e.at 16=V.int .i64 n∧e.at 118=V.isl (hs.map Enc.enc)∧e.at 119=V.int .i64 (hs.length:Int)∧e.at 120=V.int .i64 i) ⟨hH,hl_0,h1_0,h2_0,h4_0,h7_0,h8_0,h9_0,h10_0,h11_0,h12_0,h112_0,h113_0,h16_0,h118_0,h119_0,h120_0⟩ ?_ ?_
 ·clear hH hl_0 h1_0 h2_0 h4_0 h7_0 h8_0 h9_0 h10_0 h11_0 h12_0 h112_0 h113_0 h16_0 h118_0 h119_0 h120_0
  rintro i K e ⟨E,c⟩ ⟨⟨u,v,w,K1,K2,K3,g1,g3,g4,r1,r2,r3,d12,d13,d23,b1,b2,b3⟩,h_1⟩ hlt hw o ho;simp only at g1 g3 g4 r1 r2 r3;unfold F346_4_B at ho;obtain⟨a,ga,ho⟩:=bS ho;obtain⟨wa1,wa2⟩:=getI_w ga;obtain⟨z,gz,ho⟩:=bS ho;obtain⟨m1,m2,m3,m4,m5⟩:=mkL_w gz;replace m5:(List.replicate (Int.toNat os.b) [V.int .i64 0]).flatten=List.map Enc.enc z:=m5;rw[←m4]at m5;have h5:5≤E.length:=(List.getElem?_eq_some_iff.1 g4).1;have g4a:∀y,(E++[y])[4]? =some (4,some [V.int .i64 x.Prime,V.int .i64 os.b,V.int .i64 ot.b,u,v,w]):=fun y=>(List.getElem?_append_left (by omega)).trans g4;have g4b:∀y y',(E++[y]++[y'])[4]? =some (4,some [V.int .i64 x.Prime,V.int .i64 os.b,V.int .i64 ot.b,u,v,w]):=fun y y'=>(List.getElem?_append_left (by simp; omega)).trans (g4a y);by_cases hn:0 < n
  ·rw[if_pos hn]at ho
   obtain⟨m,gm,ho⟩:=bS ho;have wm:=chk_w gm;obtain⟨o1,go,ho⟩:=bS ho;obtain⟨wo1,wo2⟩:=getI_w go;obtain⟨d,gd,ho⟩:=bS ho;have wd:ans A 102 [(eC x),V.int .i64 n]=some (V.int .i64 d):=s102 x n gd;obtain⟨wv,gw,ho⟩:=bS ho;have ww:=sliceV_w (α:=Int) (fun a=> rfl) gw (lo:=some (V.int .i64 d)) (hi:=none) (.inr rfl) (.inl ⟨rfl,rfl⟩);obtain⟨c1,gc1,ho⟩:=bS ho;have wc:tans A 356 [1] [(eC x),V.int .i64 m,V.int .i64 o1,V.int .i64 os.b,V.isl (wv.map Enc.enc)]=some (V.isl (c1.map Enc.enc)):=t356 x m o1 os.b wv gc1;obtain⟨l,gl,ho⟩:=bS ho;cases ho;obtain⟨w',E',c',K3',p1,p2,p3,p4,p5,p6,p7⟩:=g346 (A:=E++[(c,some (z.map Enc.enc))]++[(c+1,some (c1.map Enc.enc))]++[(c+1+1,some [V.sl (E.length+1) (c+1) 0 c1.length 1])]) (ca:=c+1+1+1) r3 r1 r2 (fun k q z=> d13 k z q) (fun k q z=> d23 k z q) b3 b1 b2 h5 (fun k q=> by rw[List.append_assoc,List.append_assoc]; exact List.getElem?_append_left q) (by simp) (x:=V.sl (E.length+1) (c+1) 0 c1.length 1) (a:=c1) (N:=fun k=> k=E.length+1) (int_row (ge3b _ _ _ _) fun k=> Iff.rfl) (fun k q=> by omega) gl;obtain⟨y3,y1,y2⟩:=p4 (4,some [V.int .i64 x.Prime,V.int .i64 os.b,V.int .i64 ot.b,u,v,w']);have e4:=(p2 4 (by decide)).trans g4;have e3:=(p2 3 (by decide)).trans g3;have e1:=(p2 1 (by decide)).trans g1;obtain⟨cw,tw⟩:=rep_one y3;simp only[simprocAttr, -Int.reduceNatCast',R0,b346_4,h_1,eq_true hlt,eq_true hn,hw,wa1,wa2,m1,m2,m3,m5,←m4,wm,wo1,wo2,wd,ww,wc,g4,g4a,g4b,callM_tans,thaw_one,get_last,ge2b,gl3346,le1,p1,e4,cw,tw];refine ai rfl (ai ⟨u,v,w',K1,K2,K3',(set_ne (by decide)).trans e1,(set_ne (by decide)).trans e3,set_app_key (by omega),y1,y2,y3,d12,fun k q z=> p5 k z q,fun k q z=> p6 k z q,b1,b2,p7⟩ ?_);simp only[simprocAttr, -Int.reduceNatCast',R0,h_1,hw]
  ·rw[if_neg hn]at ho
   obtain⟨l,gl,ho⟩:=bS ho;cases ho;obtain⟨w',E',c',K3',p1,p2,p3,p4,p5,p6,p7⟩:=g346 (A:=E++[(c,some (z.map Enc.enc))]++[(c+1,some [V.sl E.length c 0 z.length 1])]) (ca:=c+1+1) r3 r1 r2 (fun k q z=> d13 k z q) (fun k q z=> d23 k z q) b3 b1 b2 h5 (fun k q=> by rw[List.append_assoc]; exact List.getElem?_append_left q) (by simp) (x:=V.sl E.length c 0 z.length 1) (a:=z) (N:=fun k=> k=E.length) (int_row (ge2a _ _ _) fun k=> Iff.rfl) (fun k q=> by omega) gl;obtain⟨y3,y1,y2⟩:=p4 (4,some [V.int .i64 x.Prime,V.int .i64 os.b,V.int .i64 ot.b,u,v,w']);have e4:=(p2 4 (by decide)).trans g4;have e3:=(p2 3 (by decide)).trans g3;have e1:=(p2 1 (by decide)).trans g1;obtain⟨cw,tw⟩:=rep_one y3;simp only[simprocAttr, -Int.reduceNatCast',R0,b346_4,h_1,eq_true hlt,eq_false hn,hw,wa1,wa2,m1,m2,m3,m5,←m4,g4,g4a,g4b,get_last,ge2b,gl3346,le1,p1,e4,cw,tw];refine ai rfl (ai ⟨u,v,w',K1,K2,K3',(set_ne (by decide)).trans e1,(set_ne (by decide)).trans e3,set_app_key (by omega),y1,y2,y3,d12,fun k q z=> p5 k z q,fun k q z=> p6 k z q,b1,b2,p7⟩ ?_);simp only[simprocAttr, -Int.reduceNatCast',R0,h_1,hw]
 ·clear hH hl_0 h1_0 h2_0 h4_0 h7_0 h8_0 h9_0 h10_0 h11_0 h12_0 h112_0 h113_0 h16_0 h118_0 h119_0 h120_0
  rintro i s e h ⟨hS,h_1⟩ hge t1 ho;unfold F346_4_D at ho;cases ho;simp only[simprocAttr, -Int.reduceNatCast',R0,b346_4,h_1,eq_false hge];intro ht; subst ht;exact hS
theorem l346_1(x:GComplex)(f:List (List (List Int)))(y:GComplex)(os ot:T2 (List Int) Int){s0 s1:List (List Int)×List (List Int)}(hF:forR 0 (x.Dims.length:Int) (F346_1_B x f y os ot) (F346_1_D x f y os ot) s0=some s1){e:Env}{h:Heap}(hH:S346 x f y os ot s0.1 s0.2 [] h)
  (hl_0:e.length=152) (h1_0:e.at 1=V.isl (f.map Enc.enc)) (h2_0:e.at 2=V.iptr [V.int .i64 x.Prime,V.isl (x.Dims.map Enc.enc),V.isl (x.Maps.map Enc.enc)]) (h4_0:e.at 4=V.ptr 1 1 0) (h7_0:e.at 7=V.ptr 3 3 0) (h8_0:e.at 8=V.isl (os.a.map Enc.enc)) (h9_0:e.at 9=V.int .i64 os.b) (h10_0:e.at 10=V.isl (ot.a.map Enc.enc)) (h11_0:e.at 11=V.int .i64 ot.b) (h12_0:e.at 12=V.ptr 4 4 0) (h57_0:e.at 57=V.int .i64 (x.Dims.length:Int)) (h58_0:e.at 58=V.int .i64 0):
  W A (.block 0 (.loop true b346_1)) e h (fun x' e h=> x'= .normal∧S346 x f y os ot s1.1 s1.2 [] h∧e.length=152∧e.at 1=V.isl (f.map Enc.enc)∧e.at 2=V.iptr [V.int .i64 x.Prime,V.isl (x.Dims.map Enc.enc),V.isl (x.Maps.map Enc.enc)]∧e.at 4=V.ptr 1 1 0∧e.at 7=V.ptr 3 3 0∧e.at 8=V.isl (os.a.map Enc.enc)∧e.at 9=V.int .i64 os.b∧e.at 10=V.isl (ot.a.map Enc.enc)∧e.at 11=V.int .i64 ot.b∧e.at 12=V.ptr 4 4 0):=by
 rw[W_block];refine W_forR hF _ rfl (fun n s e h=> S346 x f y os ot s.1 s.2 [] h∧e.length=152∧e.at 1=V.isl (f.map Enc.enc)∧e.at 2=V.iptr [V.int .i64 x.Prime,V.isl (x.Dims.map Enc.enc),V.isl (x.Maps.map Enc.enc)]∧e.at 4=V.ptr 1 1 0∧e.at 7=V.ptr 3 3 0∧e.at 8=V.isl (os.a.map Enc.enc)∧e.at 9=V.int .i64 os.b∧e.at 10=V.isl (ot.a.map Enc.enc)∧e.at 11=V.int .i64 ot.b∧e.at 12=V.ptr 4 4 0∧e.at 57=V.int .i64 (x.Dims.length:Int)∧e.at 58=V.int .i64 n) ⟨hH,hl_0,h1_0,h2_0,h4_0,h7_0,h8_0,h9_0,h10_0,h11_0,h12_0,h57_0,h58_0⟩ ?_ ?_
 ·clear hH hl_0 h1_0 h2_0 h4_0 h7_0 h8_0 h9_0 h10_0 h11_0 h12_0 h57_0 h58_0
  rintro n s e ⟨E,c⟩ ⟨hS,h_1⟩ hlt hw o ho;unfold F346_1_B at ho;obtain⟨hs,gh,ho⟩:=bS ho;have wh:ans A 189 [(eC x),V.int .i64 n]=some (V.isl (hs.map Enc.enc)):=s189 x n gh;obtain⟨t,gt,ho⟩:=bS ho;cases ho;simp only[simprocAttr,R0,b346_1,h_1,eq_true hlt,hw,wh];refine W.mono (l346_2 x f y os ot n hs gt (h:=⟨E,c⟩) hS ?_ ?_ ?_ ?_ ?_ ?_ ?_ ?_ ?_ ?_ ?_ ?_ ?_ ?_ ?_ ?_) ?_
  rotate_right
  ·rintro _ e ⟨E2,c2⟩ ⟨rfl,hS2,h_2⟩
   simp only[simprocAttr,R0,h_2,hw];refine ai rfl (ai hS2 ?_);simp only[simprocAttr,R0,h_2,hw]
  all_goals simp only[simprocAttr,R0,h_1]
 ·clear hH hl_0 h1_0 h2_0 h4_0 h7_0 h8_0 h9_0 h10_0 h11_0 h12_0 h57_0 h58_0
  rintro n s e h ⟨hS,h_1⟩ hge t1 ho;unfold F346_1_D at ho;cases ho;simp only[simprocAttr,R0,b346_1,h_1,eq_false hge];intro ht; subst ht;exact hS
theorem l346_3(x:GComplex)(f:List (List (List Int)))(y:GComplex)(os ot:T2 (List Int) Int)(I J:List (List Int)){s0 s1:List (List Int)}(hF:forR 0 (y.Dims.length:Int) (F346_3_B x f y os ot) (F346_3_D x f y os ot) s0=some s1){e:Env}{h:Heap}(hH:S346 x f y os ot I J s0 h)
  (hl_0:e.length=152) (h1_0:e.at 1=V.isl (f.map Enc.enc)) (h2_0:e.at 2=V.iptr [V.int .i64 x.Prime,V.isl (x.Dims.map Enc.enc),V.isl (x.Maps.map Enc.enc)]) (h4_0:e.at 4=V.ptr 1 1 0) (h7_0:e.at 7=V.ptr 3 3 0) (h8_0:e.at 8=V.isl (os.a.map Enc.enc)) (h9_0:e.at 9=V.int .i64 os.b) (h10_0:e.at 10=V.isl (ot.a.map Enc.enc)) (h11_0:e.at 11=V.int .i64 ot.b) (h12_0:e.at 12=V.ptr 4 4 0) (h112_0:e.at 112=V.int .i64 (y.Dims.length:Int)) (h113_0:e.at 113=V.int .i64 0):
  W A (.block 4 (.loop true b346_3)) e h (fun x' e h=> x'= .normal∧S346 x f y os ot I J s1 h∧e.length=152∧e.at 1=V.isl (f.map Enc.enc)∧e.at 2=V.iptr [V.int .i64 x.Prime,V.isl (x.Dims.map Enc.enc),V.isl (x.Maps.map Enc.enc)]∧e.at 4=V.ptr 1 1 0∧e.at 7=V.ptr 3 3 0∧e.at 8=V.isl (os.a.map Enc.enc)∧e.at 9=V.int .i64 os.b∧e.at 10=V.isl (ot.a.map Enc.enc)∧e.at 11=V.int .i64 ot.b∧e.at 12=V.ptr 4 4 0):=by
 rw[W_block];refine W_forR hF _ rfl (fun n s e h=> S346 x f y os ot I J s h∧e.length=152∧e.at 1=V.isl (f.map Enc.enc)∧e.at 2=V.iptr [V.int .i64 x.Prime,V.isl (x.Dims.map Enc.enc),V.isl (x.Maps.map Enc.enc)]∧e.at 4=V.ptr 1 1 0∧e.at 7=V.ptr 3 3 0∧e.at 8=V.isl (os.a.map Enc.enc)∧e.at 9=V.int .i64 os.b∧e.at 10=V.isl (ot.a.map Enc.enc)∧e.at 11=V.int .i64 ot.b∧e.at 12=V.ptr 4 4 0∧e.at 112=V.int .i64 (y.Dims.length:Int)∧e.at 113=V.int .i64 n) ⟨hH,hl_0,h1_0,h2_0,h4_0,h7_0,h8_0,h9_0,h10_0,h11_0,h12_0,h112_0,h113_0⟩ ?_ ?_
 ·clear hH hl_0 h1_0 h2_0 h4_0 h7_0 h8_0 h9_0 h10_0 h11_0 h12_0 h112_0 h113_0
  rintro n s e ⟨E,c⟩ ⟨hS,h_1⟩ hlt hw o ho;unfold F346_3_B at ho;obtain⟨hs,gh,ho⟩:=bS ho;have wh:ans A 189 [(eC y),V.int .i64 n]=some (V.isl (hs.map Enc.enc)):=s189 y n gh;obtain⟨t,gt,ho⟩:=bS ho;cases ho;obtain⟨u,v,w,K1,K2,K3,g1,g3,g4,rest⟩:=id hS;simp only at g3;simp only[simprocAttr,R0,b346_3,h_1,eq_true hlt,hw,wh,g3];refine W.mono (l346_4 x f y os ot I J n hs gt (h:=⟨E,c⟩) hS ?_ ?_ ?_ ?_ ?_ ?_ ?_ ?_ ?_ ?_ ?_ ?_ ?_ ?_ ?_ ?_) ?_
  rotate_right
  ·rintro _ e ⟨E2,c2⟩ ⟨rfl,hS2,h_2⟩
   simp only[simprocAttr,R0,h_2,hw];refine ai rfl (ai hS2 ?_);simp only[simprocAttr,R0,h_2,hw]
  all_goals simp only[simprocAttr,R0,h_1]
 ·clear hH hl_0 h1_0 h2_0 h4_0 h7_0 h8_0 h9_0 h10_0 h11_0 h12_0 h112_0 h113_0
  rintro n s e h ⟨hS,h_1⟩ hge t1 ho;unfold F346_3_D at ho;cases ho;simp only[simprocAttr,R0,b346_3,h_1,eq_false hge];intro ht; subst ht;exact hS
theorem r3346{α β γ:Type}[Enc α][Deep α][Enc β][Deep β][Enc γ][Deep γ]{h:Heap}{a:α}{b:β}{c:γ}{u v w:V}{K1 K2 K3:Ks}(h1:Deep.rep h u a K1)(h2:Deep.rep h v b K2)(h3:Deep.rep h w c K3)(d1:∀k,K1 k→¬K2 k)(d2:∀k,K1 k→¬K3 k)(d3:∀k,K2 k→¬K3 k):
  repF h [u,v,w] [⟨a⟩,⟨b⟩,⟨c⟩] (fun k=> K1 k∨K2 k∨K3 k):=
 repF_cons h1 (repF_cons h2 (repF_1 h3) d3) fun k x y=> y.elim (d1 k x) (d2 k x)
theorem d346(x:GComplex)(f:List (List (List Int))){r:T2 GCouple Int}(hF:F346 x f=some r):∃v h',res A 346 [(eC x),V.isl (f.map Enc.enc)] Heap.empty=some (v,h')∧∃vs K,v=V.tup vs∧repF h' vs [⟨r.a⟩,⟨r.b⟩] K:=by
 refine res_dp (f:=p346) rfl rfl rfl fun e hl he=>?_;have h0_0:e.at 0=(eC x):=he 0 _ rfl;have h1_0:e.at 1=V.isl (f.map Enc.enc):=he 1 _ rfl;have hl_0:e.length=152:=hl;clear he hl;show W A b346 e ⟨[],0⟩ _;unfold F346 at hF;obtain⟨cd,gc,hF⟩:=bS hF;have w1:ans A 244 [(eC x),(eC x),V.isl [V.isl (f.map Enc.enc)]]=some (V.int .i64 cd):=s244 x x [f] gc;have zr:∀h,Deep.rep h (V.agg [V.int .i64 0,V.int .i64 0,V.int .i64 0,V.nils,V.nils,V.nils]) (⟨0,0,0,[],[],[]⟩:GCouple) _:=fun h=>⟨_,rfl,repF_int (repF_int (repF_int (r3346 (rep_nils h) (rep_nils h) (rep_nils h) (fun _ x _=> x) (fun _ x _=> x) (fun _ x _=> x))))⟩;by_cases c1:cd=0
 ·rw[if_pos c1]at hF
  obtain⟨y,gy,hF⟩:=bS hF;have w2:ans A 245 [(eC x),(eC x),V.isl (f.map Enc.enc)]=some ((eC y)):=s245 x x f gy;obtain⟨os,gos,hF⟩:=bS hF;have w3:ans A 355 [(eC x)]=some (V.tup [V.isl (os.a.map Enc.enc),V.int .i64 os.b]):=s355 x gos;obtain⟨ot,got,hF⟩:=bS hF;have w4:ans A 355 [(eC y)]=some (V.tup [V.isl (ot.a.map Enc.enc),V.int .i64 ot.b]):=s355 y got;by_cases c2:24 < os.b
  ·rw[if_pos c2]at hF
   have hE:=Option.some.inj hF; subst hE;simp only[simprocAttr, -Int.reduceNatCast',R0,b346,hl_0,h0_0,h1_0,w1,eq_true c1,w2,w3,w4,eq_true c2];refine ai (fun _=> trivial) ⟨V.tup [V.agg [V.int .i64 0,V.int .i64 0,V.int .i64 0,V.nils,V.nils,V.nils],V.int .i64 3],?_,_,_,rfl,pair_rep (α:=GCouple) (zr _) _⟩;simp only[simprocAttr, -Int.reduceNatCast',R0,fn_out,p346,Rs.ev,hl_0]
  ·rw[if_neg c2]at hF
   by_cases c3:24 < ot.b
   ·rw[if_pos c3]at hF
    have hE:=Option.some.inj hF; subst hE;simp only[simprocAttr, -Int.reduceNatCast',R0,b346,hl_0,h0_0,h1_0,w1,eq_true c1,w2,w3,w4,eq_false c2,eq_true c3];refine ai (fun _=> trivial) ⟨V.tup [V.agg [V.int .i64 0,V.int .i64 0,V.int .i64 0,V.nils,V.nils,V.nils],V.int .i64 3],?_,_,_,rfl,pair_rep (α:=GCouple) (zr _) _⟩;simp only[simprocAttr, -Int.reduceNatCast',R0,fn_out,p346,Rs.ev,hl_0]
   ·rw[if_neg c3]at hF
    obtain⟨⟨I,J⟩,gt,hF⟩:=bS hF;obtain⟨K,gk,hF⟩:=bS hF;have hE:=Option.some.inj hF; subst hE;have w5:ans A 73 [V.isl (x.Dims.map Enc.enc)]=some (V.int .i64 (x.Dims.length:Int)):=s73 x.Dims rfl;have w6:ans A 73 [V.isl (y.Dims.map Enc.enc)]=some (V.int .i64 (y.Dims.length:Int)):=s73 y.Dims rfl;simp only[simprocAttr, -Int.reduceNatCast',R0,b346,hl_0,h0_0,h1_0,w1,eq_true c1,w2,w3,w4,eq_false c2,eq_false c3,w5];refine W.mono (l346_1 x f y os ot gt ⟨V.nils,V.nils,V.nils,_,_,_,rfl,rfl,rfl,rep_nils _,rep_nils _,rep_nils _,fun _ q _=> q,fun _ q _=> q,fun _ q _=> q,fun _ q=> q.elim,fun _ q=> q.elim,fun _ q=> q.elim⟩ ?_ ?_ ?_ ?_ ?_ ?_ ?_ ?_ ?_ ?_ ?_ ?_) ?_
    rotate_right
    ·clear h0_0 h1_0 hl_0
     rintro _ e ⟨E,c⟩ ⟨rfl,hS,hl_1,h1_1,h2_1,h4_1,h7_1,h8_1,h9_1,h10_1,h11_1,h12_1⟩;obtain⟨u,v,w,K1,K2,K3,g1,g3,g4,rest⟩:=id hS;simp only at g3;simp only[simprocAttr, -Int.reduceNatCast',R0,hl_1,h1_1,h2_1,h4_1,h7_1,h8_1,h9_1,h10_1,h11_1,h12_1,g3,w6];refine W.mono (l346_3 x f y os ot I J gk (h:=⟨E,c⟩) hS ?_ ?_ ?_ ?_ ?_ ?_ ?_ ?_ ?_ ?_ ?_ ?_) ?_
     rotate_right
     ·clear hl_1 h1_1 h2_1 h4_1 h7_1 h8_1 h9_1 h10_1 h11_1 h12_1 hS g1 g3 g4 rest
      rintro _ e ⟨E,c⟩ ⟨rfl,⟨u,v,w,K1,K2,K3,g1,g3,g4,r1,r2,r3,d12,d13,d23,b1,b2,b3⟩,hl_2,h1_2,h2_2,h4_2,h7_2,h8_2,h9_2,h10_2,h11_2,h12_2⟩;simp only at g1 g3 g4 r1 r2 r3;have h5:5≤E.length:=(List.getElem?_eq_some_iff.1 g4).1;simp only[simprocAttr, -Int.reduceNatCast',R0,hl_2,h1_2,h2_2,h4_2,h7_2,h8_2,h9_2,h10_2,h11_2,h12_2,g4,g1];have rr:Deep.rep ⟨E.set 1 (1,some [V.int .i64 x.Prime,V.int .i64 os.b,V.int .i64 ot.b,u,v,w]),c⟩ (V.agg [V.int .i64 x.Prime,V.int .i64 os.b,V.int .i64 ot.b,u,v,w]) (⟨x.Prime,os.b,ot.b,I,J,K⟩:GCouple) (fun k=> K1 k∨K2 k∨K3 k):=⟨_,rfl,repF_int (repF_int (repF_int (r3346 (Deep.frame r1 fun k q=> set_ne (by have:=b1 k q; omega)) (Deep.frame r2 fun k q=> set_ne (by have:=b2 k q; omega)) (Deep.frame r3 fun k q=> set_ne (by have:=b3 k q; omega)) d12 d13 d23)))⟩;refine ai (fun _=> trivial) ⟨V.tup [V.agg [V.int .i64 x.Prime,V.int .i64 os.b,V.int .i64 ot.b,u,v,w],V.int .i64 0],?_,_,_,rfl,pair_rep rr _⟩;simp only[simprocAttr, -Int.reduceNatCast',R0,fn_out,p346,Rs.ev,hl_2,h1_2,h2_2,h4_2,h7_2,h8_2,h9_2,h10_2,h11_2,h12_2,set_app_key (show 1 < E.length by omega)]
     all_goals simp only[simprocAttr, -Int.reduceNatCast',R0,hl_1,h1_1,h2_1,h4_1,h7_1,h8_1,h9_1,h10_1,h11_1,h12_1]
    all_goals simp only[simprocAttr, -Int.reduceNatCast',R0,hl_0,h0_0,h1_0]
 ·rw[if_neg c1]at hF
  have hE:=Option.some.inj hF; subst hE;simp only[simprocAttr, -Int.reduceNatCast',R0,b346,hl_0,h0_0,h1_0,w1,eq_false c1];refine ai (fun _=> trivial) ⟨V.tup [V.agg [V.int .i64 0,V.int .i64 0,V.int .i64 0,V.nils,V.nils,V.nils],V.int .i64 cd],?_,_,_,rfl,pair_rep (α:=GCouple) (zr _) _⟩;simp only[simprocAttr, -Int.reduceNatCast',R0,fn_out,p346,Rs.ev,hl_0]
theorem x346(x:GComplex)(f:List (List (List Int))){r:T2 GCouple Int}(hF:F346 x f=some r):tans A 346 [1,1] [(eC x),V.isl (f.map Enc.enc)]=some (V.tup [Enc.enc r.a,V.int .i64 r.b]):=by
 obtain⟨_,h',h1,vs,K,rfl,h2⟩:=d346 x f hF;exact tans_tup (fits_pair rfl (by decide)) h1 h2
theorem s346(x:GComplex)(f:List (List (List Int))){r:T2 GCouple Int}(hF:F346 x f=some r):ans A 346 [(eC x),V.isl (f.map Enc.enc)]=some (EncR.enc r):=by
 obtain⟨_,h',h1,vs,K,rfl,h2⟩:=d346 x f hF;exact ans_tup (ss:=[1,1]) (fits_pair rfl (by decide)) h1 h2
def F347(a0:GCouple)(a1:GCouple):Option Bool:=
 if a0.Prime=a1.Prime then
  if a0.D=a1.D then
   if a0.E=a1.E then
    (F51 a0.I a1.I).bind fun x4=>
    if x4=true then
     (F51 a0.J a1.J).bind fun x6=>
     if x6=true then
      (F51 a0.K a1.K).bind fun x8=>
      if x8=true then
       some true
      else
       some false
     else
      some false
    else
     some false
   else
    some false
  else
   some false
 else
  some false
theorem s347(a0:GCouple)(a1:GCouple){r:Bool}(hF:F347 a0 a1=some r):ans A 347 [V.agg [V.int .i64 a0.Prime,V.int .i64 a0.D,V.int .i64 a0.E,V.isl (a0.I.map Enc.enc),V.isl (a0.J.map Enc.enc),V.isl (a0.K.map Enc.enc)],V.agg [V.int .i64 a1.Prime,V.int .i64 a1.D,V.int .i64 a1.E,V.isl (a1.I.map Enc.enc),V.isl (a1.J.map Enc.enc),V.isl (a1.K.map Enc.enc)]]=some (Enc.enc r):=by
 refine ans_of (f:=p347) rfl rfl rfl fun e hl he=>?_;have h0_0:e.at 0=V.agg [V.int .i64 a0.Prime,V.int .i64 a0.D,V.int .i64 a0.E,V.isl (a0.I.map Enc.enc),V.isl (a0.J.map Enc.enc),V.isl (a0.K.map Enc.enc)]:=he 0 _ rfl;have h1_0:e.at 1=V.agg [V.int .i64 a1.Prime,V.int .i64 a1.D,V.int .i64 a1.E,V.isl (a1.I.map Enc.enc),V.isl (a1.J.map Enc.enc),V.isl (a1.K.map Enc.enc)]:=he 1 _ rfl;have hl_0:e.length=38:=hl;clear he hl;have h_0:=ai hl_0 (ai h0_0 h1_0);show W A b347 e ⟨[],0⟩ _;unfold F347 at hF;by_cases c1:a0.Prime=a1.Prime
 ·rw[if_pos c1]at hF
  by_cases c2:a0.D=a1.D
  ·rw[if_pos c2]at hF
   by_cases c3:a0.E=a1.E
   ·rw[if_pos c3]at hF
    obtain⟨x4,gx4,hF⟩:=bS hF;have w5:ans A 51 [V.isl (a0.I.map Enc.enc),V.isl (a1.I.map Enc.enc)]=some (V.bool x4):=s51 a0.I a1.I gx4;cases x4 with
    |true=>
     rw[if_pos rfl]at hF;obtain⟨x6,gx6,hF⟩:=bS hF;have w7:ans A 51 [V.isl (a0.J.map Enc.enc),V.isl (a1.J.map Enc.enc)]=some (V.bool x6):=s51 a0.J a1.J gx6;cases x6 with
     |true=>
      rw[if_pos rfl]at hF;obtain⟨x8,gx8,hF⟩:=bS hF;have w9:ans A 51 [V.isl (a0.K.map Enc.enc),V.isl (a1.K.map Enc.enc)]=some (V.bool x8):=s51 a0.K a1.K gx8;cases x8 with
      |true=>
       rw[if_pos rfl]at hF;cases hF;simp only[simprocAttr,R0,b347,h_0,eq_true c1,eq_true c2,eq_true c3,w5,w7,w9];exact fin_ret (by simp only[simprocAttr,R0,fn_out,p347,Rs.ev,take_len_self,h_0,eq_true c1,eq_true c2,eq_true c3,w5,w7,w9])
      |false=>
       rw[if_neg Bool.false_ne_true]at hF;cases hF;simp only[simprocAttr,R0,b347,h_0,eq_true c1,eq_true c2,eq_true c3,w5,w7,w9];exact fin_ret (by simp only[simprocAttr,R0,fn_out,p347,Rs.ev,take_len_self,h_0,eq_true c1,eq_true c2,eq_true c3,w5,w7,w9])
     |false=>
      rw[if_neg Bool.false_ne_true]at hF;cases hF;simp only[simprocAttr,R0,b347,h_0,eq_true c1,eq_true c2,eq_true c3,w5,w7];exact fin_ret (by simp only[simprocAttr,R0,fn_out,p347,Rs.ev,take_len_self,h_0,eq_true c1,eq_true c2,eq_true c3,w5,w7])
    |false=>
     rw[if_neg Bool.false_ne_true]at hF;cases hF;simp only[simprocAttr,R0,b347,h_0,eq_true c1,eq_true c2,eq_true c3,w5];exact fin_ret (by simp only[simprocAttr,R0,fn_out,p347,Rs.ev,take_len_self,h_0,eq_true c1,eq_true c2,eq_true c3,w5])
   ·rw[if_neg c3]at hF
    cases hF;simp only[simprocAttr,R0,b347,h_0,eq_true c1,eq_true c2,eq_false c3];exact fin_ret (by simp only[simprocAttr,R0,fn_out,p347,Rs.ev,take_len_self,h_0,eq_true c1,eq_true c2,eq_false c3])
  ·rw[if_neg c2]at hF
   cases hF;simp only[simprocAttr,R0,b347,h_0,eq_true c1,eq_false c2];exact fin_ret (by simp only[simprocAttr,R0,fn_out,p347,Rs.ev,take_len_self,h_0,eq_true c1,eq_false c2])
 ·rw[if_neg c1]at hF
  cases hF;simp only[simprocAttr,R0,b347,h_0,eq_false c1];exact fin_ret (by simp only[simprocAttr,R0,fn_out,p347,Rs.ev,take_len_self,h_0,eq_false c1])
def FM348(x:GCouple)(k:Int):Option (GCouple×Int):=(F52 x.I k).bind fun t=>(F52 x.J t.2).bind fun u=>(F52 x.K u.2).bind fun w=> some (⟨x.Prime,x.D,x.E,t.1,u.1,w.1⟩,w.2)
theorem rec3c_un{α β γ:Type}[Enc α][Deep α][Enc β][Deep β][Enc γ][Deep γ]{h:Heap}{vs:List V}{a:α}{b:β}{c:γ}{K:Ks}(r:repF h vs [⟨a⟩,⟨b⟩,⟨c⟩] K):∃u v w,∃K1 K2 K3:Ks,vs=[u,v,w]∧Deep.rep h u a K1∧Deep.rep h v b K2∧Deep.rep h w c K3∧
  (∀k,K1 k→¬K2 k)∧(∀k,K1 k→¬K3 k)∧(∀k,K2 k→¬K3 k)∧∀k,K k↔K1 k∨K2 k∨K3 k:=by
 obtain⟨u,ws',K1,J1,rfl,h1,r2,h3,h4⟩:=repF_cons_un r;obtain⟨v,ws2,K2,J2,rfl,h5,r3,h6,h7⟩:=repF_cons_un r2;obtain⟨w,rfl,h8⟩:=repF_1un r3;exact⟨u,v,w,K1,K2,J2,rfl,h1,h5,h8,fun k x y=> h3 k x ((h7 k).2 (.inl y)),fun k x y=> h3 k x ((h7 k).2 (.inr y)),h6,fun k=> by rw[h4,h7]⟩
theorem rec3c{α β γ:Type}[Enc α][Deep α][Enc β][Deep β][Enc γ][Deep γ]{h:Heap}{a:α}{b:β}{c:γ}{u v w:V}{K1 K2 K3:Ks}(h1:Deep.rep h u a K1)(h2:Deep.rep h v b K2)(h3:Deep.rep h w c K3)(d1:∀k,K1 k→¬K2 k)(d2:∀k,K1 k→¬K3 k)(d3:∀k,K2 k→¬K3 k):
  repF h [u,v,w] [⟨a⟩,⟨b⟩,⟨c⟩] (fun k=> K1 k∨K2 k∨K3 k):=
 repF_cons h1 (repF_cons h2 (repF_1 h3) d3) fun k x y=> y.elim (d1 k x) (d2 k x)
theorem dm348{x:GCouple}{k:Int}{r:GCouple×Int}(hF:FM348 x k=some r)(h:Heap){v:V}{K:Ks}(hr:Deep.rep h v x K):∃h',res A 348 [v,V.int .i64 k] h=some (V.int .i64 r.2,h')∧Deep.rep h' v r.1 K∧(∀k,k < h.ents.length→¬K k→h'.ents[k]? =h.ents[k]?)∧h.ents.length≤h'.ents.length:=by
 obtain⟨vs,rfl,r00⟩:=hr;have r01:repF h vs [⟨x.Prime⟩,⟨x.D⟩,⟨x.E⟩,⟨x.I⟩,⟨x.J⟩,⟨x.K⟩] K:=r00;clear r00;obtain⟨ws1,rfl,r02⟩:=repF_int_un r01;obtain⟨ws2,rfl,r03⟩:=repF_int_un r02;obtain⟨ws3,rfl,r0⟩:=repF_int_un r03;clear r01 r02 r03;obtain⟨dv,av,bv,K1,K2,K3,rfl,g1,g2,g3,d1,d2,d3,hK⟩:=rec3c_un r0;refine res_ex (f:=p348) rfl rfl rfl fun e hl he=>?_;have h0_0:e.at 0=V.agg [V.int .i64 x.Prime,V.int .i64 x.D,V.int .i64 x.E,dv,av,bv]:=he 0 _ rfl;have h1_0:e.at 1=V.int .i64 k:=he 1 _ rfl;have hl_0:e.length=18:=hl;clear he hl;show W A b348 e h _;unfold FM348 at hF;obtain⟨t,gt,hF⟩:=bS hF;obtain⟨u,gu,hF⟩:=bS hF;obtain⟨w,gw,hF⟩:=bS hF;cases hF;obtain⟨E,c⟩:=h;have pre:∀ (x:Nat×Option (List V)) k,k < E.length→(E++[x])[k]? =E[k]?:=fun x k hk=> List.getElem?_append_left hk;have n1:¬K1 E.length:=fun x=> by have:=Deep.bd g1 x; simp at this
 have n2:¬K2 E.length:=fun x=> by have:=Deep.bd g2 x; simp at this
 have n3:¬K3 E.length:=fun x=> by have:=Deep.bd g3 x; simp at this
 obtain⟨⟨E3,c3⟩,w1,a1,a2,a3⟩:=d52 gt ⟨E++[(c,some [V.int .i64 x.Prime,V.int .i64 x.D,V.int .i64 x.E,dv,av,bv])],c+1⟩ (Deep.frame g1 fun k hk=> pre _ k (Deep.bd g1 hk));simp only[le1]at a2 a3;have m1:E3[E.length]? =some (c,some [V.int .i64 x.Prime,V.int .i64 x.D,V.int .i64 x.E,dv,av,bv]):=(a2 _ n1).trans (get_last _ _);have g2':Deep.rep ⟨E3,c3⟩ av x.J K2:=Deep.frame g2 fun k hk=>(a2 k fun q=> d1 k q hk).trans (pre _ k (Deep.bd g2 hk));obtain⟨⟨E4,c4⟩,w2,b1,b2,b3⟩:=d52 gu ⟨E3,c3⟩ g2';simp only at b2 b3;have m2:E4[E.length]? =some (c,some [V.int .i64 x.Prime,V.int .i64 x.D,V.int .i64 x.E,dv,av,bv]):=(b2 _ n2).trans m1;have g3':Deep.rep ⟨E4,c4⟩ bv x.K K3:=Deep.frame g3 fun k hk=>(b2 k fun q=> d3 k q hk).trans ((a2 k fun q=> d2 k q hk).trans (pre _ k (Deep.bd g3 hk)));obtain⟨⟨E5,c5⟩,w3,e1,e2,e3⟩:=d52 gw ⟨E4,c4⟩ g3';simp only at e2 e3;have r1:Deep.rep ⟨E5,c5⟩ dv t.1 K1:=Deep.frame a1 fun k hk=>(e2 k fun q=> d2 k hk q).trans (b2 k fun q=> d1 k hk q);have r2:Deep.rep ⟨E5,c5⟩ av u.1 K2:=Deep.frame b1 fun k hk=> e2 k fun q=> d3 k hk q;simp only[simprocAttr,R1,b348,hl_0,h0_0,h1_0,get_last,callM_plain_eq,w1,m1,w2,m2,w3];refine ai (fun _=> trivial) ⟨?_,⟨_,rfl,repF_int (repF_int (repF_int ((rec3c r1 r2 e1 d1 d2 d3).to hK)))⟩,fun k hk nk=>?_,by first|omega|(simp at a3; omega)⟩
 ·simp only[simprocAttr,R1,fn_out,p348,Rs.ev,mapO,hl_0]
 ·rw[hK]at nk
  exact(e2 k fun q=> nk (.inr (.inr q))).trans ((b2 k fun q=> nk (.inr (.inl q))).trans ((a2 k fun q=> nk (.inl q)).trans (pre _ k hk)))
def F32_1_B(a0:List Int)(v5_1:Int)(v1_1:Int):Option ((Int)⊕((Int)⊕Int)):=
 (getI a0 v5_1).bind fun x4=>
if x4=v1_1 then
 (chk (v1_1+1)).bind fun x7=>
 some (.inl x7)
else
 some (.inr (.inr (-1)))
def F32_1_D(a0:List Int)(v5_1:Int)(v1_1:Int):Option ((Int)⊕Int):=
 some (.inl v1_1)
def F32(a0:List Int)(a1:Int):Option Int:=
 (forR 0 (a0.length:Int) (F32_1_B a0) (F32_1_D a0) a1).bind fun t8=> match t8 with
  | .inl zv1_1=>
   some zv1_1
  | .inr r9=> some r9
def I32_1(a0:List Int)(v5_1:Int)(v1_1:Int)(e:Env)(h:Heap):Prop:=
 ∃k2:Nat,h=⟨[],k2⟩∧e.length=21∧e.at 0=V.isl (a0.map Enc.enc)∧e.at 1=V.int .i64 v1_1∧e.at 5=V.int .i64 v5_1
def P32_1(a0:List Int)(t:(Int)⊕Int)(x:Ex)(e:Env)(h:Heap):Prop:=
 match t with
 | .inl zv1_1=> x= .normal∧∃k2:Nat,h=⟨[],k2⟩∧e.length=21∧e.at 1=V.int .i64 zv1_1
 | .inr r=> x= .ret∧Fin p32 (Enc.enc r) .ret e h
theorem l32_1(a0:List Int){lo:Int}{s:Int}{t:(Int)⊕Int}(hF:forR lo (a0.length:Int) (F32_1_B a0) (F32_1_D a0) s=some t){e:Env}{h:Heap}(hI:I32_1 a0 lo s e h):W A c32_1 e h (P32_1 a0 t):=by
 show W A (.block 0 (.loop false b32_1)) e h _;rw[W_block];refine W_forR hF 0 (by obtain⟨_,rfl,_⟩:=hI; rfl) (I32_1 a0) hI ?_ ?_
 ·rintro v5_1 v1_1 e h ⟨k2,rfl,h_1⟩ hlt hw o ho
  unfold F32_1_B at ho;obtain⟨x4,gx4,ho⟩:=bS ho;obtain⟨w5a,w5b⟩:=getI_w gx4;by_cases c6:x4=v1_1
  ·rw[if_pos c6]at ho
   obtain⟨x7,gx7,ho⟩:=bS ho;have wx7:=chk_w gx7;cases ho;simp only[simprocAttr,R0,b32_1,h_1,eq_true hlt,hw,w5a,w5b,eq_true c6,wx7];refine ai rfl (ei _ (ai rfl ?_));simp only[simprocAttr,R0,h_1,eq_true hlt,hw,w5a,w5b,eq_true c6,wx7]
  ·rw[if_neg c6]at ho
   cases ho;simp only[simprocAttr,R0,b32_1,h_1,eq_true hlt,hw,w5a,w5b,eq_false c6];intro ht; subst ht;simp only[simprocAttr,RR,RB];exact ai rfl (fin_ret (by simp only[simprocAttr,R0,fn_out,p32,Rs.ev,take_len_self,h_1,eq_true hlt,hw,w5a,w5b,eq_false c6]))
 ·rintro v5_1 v1_1 e h ⟨k2,rfl,h_1⟩ hge t1 ho
  unfold F32_1_D at ho;cases ho;simp only[simprocAttr,R0,b32_1,h_1,eq_false hge];intro ht; subst ht;refine ai rfl (ei _ (ai rfl ?_));simp only[simprocAttr,R0,h_1,eq_false hge]
theorem s32(a0:List Int)(a1:Int){r:Int}(hF:F32 a0 a1=some r):ans A 32 [V.isl (a0.map Enc.enc),V.int .i64 a1]=some (Enc.enc r):=by
 refine ans_of (f:=p32) rfl rfl rfl fun e hl he=>?_;have h0_0:e.at 0=V.isl (a0.map Enc.enc):=he 0 _ rfl;have h1_0:e.at 1=V.int .i64 a1:=he 1 _ rfl;have hl_0:e.length=21:=hl;clear he hl;have h_0:=ai hl_0 (ai h0_0 h1_0);show W A b32 e ⟨[],0⟩ _;unfold F32 at hF;obtain⟨t8,gt8,hF⟩:=bS hF;rcases t8 with zv1_1|r9
 ·dsimp only at hF
  simp only[simprocAttr,R0,b32,h_0];refine W.mono (l32_1 a0 gt8 (ei _ (ai rfl ?_))) ?_
  ·simp only[simprocAttr,R0,h_0]
  rintro _ e _ ⟨rfl,k2,rfl,h_3⟩;cases hF;simp only[simprocAttr,R0,h_3];exact fin_ret (by simp only[simprocAttr,R0,fn_out,p32,Rs.ev,take_len_self,h_3])
 ·dsimp only at hF
  cases hF;simp only[simprocAttr,R0,b32,h_0];refine W.mono (l32_1 a0 gt8 (ei _ (ai rfl ?_))) ?_
  ·simp only[simprocAttr,R0,h_0]
  rintro _ e h ⟨rfl,hq⟩;simp only[simprocAttr,RR,RB];exact hq
def F59_1_B(a0:List (List Int))(v5_1:Int)(v1_1:Int):Option ((Int)⊕((Int)⊕Int)):=
 (getI a0 v5_1).bind fun x4=>
(F32 x4 v1_1).bind fun x6=>
if x6 < 0 then
 some (.inr (.inr (-1)))
else
 some (.inl x6)
def F59_1_D(a0:List (List Int))(v5_1:Int)(v1_1:Int):Option ((Int)⊕Int):=
 some (.inl v1_1)
def F59(a0:List (List Int))(a1:Int):Option Int:=
 (forR 0 (a0.length:Int) (F59_1_B a0) (F59_1_D a0) a1).bind fun t9=> match t9 with
  | .inl zv1_1=>
   some zv1_1
  | .inr r10=> some r10
def I59_1(a0:List (List Int))(v5_1:Int)(v1_1:Int)(e:Env)(h:Heap):Prop:=
 ∃k2:Nat,h=⟨[],k2⟩∧e.length=21∧e.at 0=V.isl (a0.map Enc.enc)∧e.at 1=V.int .i64 v1_1∧e.at 5=V.int .i64 v5_1
def P59_1(a0:List (List Int))(t:(Int)⊕Int)(x:Ex)(e:Env)(h:Heap):Prop:=
 match t with
 | .inl zv1_1=> x= .normal∧∃k2:Nat,h=⟨[],k2⟩∧e.length=21∧e.at 1=V.int .i64 zv1_1
 | .inr r=> x= .ret∧Fin p59 (Enc.enc r) .ret e h
theorem l59_1(a0:List (List Int)){lo:Int}{s:Int}{t:(Int)⊕Int}(hF:forR lo (a0.length:Int) (F59_1_B a0) (F59_1_D a0) s=some t){e:Env}{h:Heap}(hI:I59_1 a0 lo s e h):W A c59_1 e h (P59_1 a0 t):=by
 show W A (.block 0 (.loop false b59_1)) e h _;rw[W_block];refine W_forR hF 0 (by obtain⟨_,rfl,_⟩:=hI; rfl) (I59_1 a0) hI ?_ ?_
 ·rintro v5_1 v1_1 e h ⟨k2,rfl,h_1⟩ hlt hw o ho
  unfold F59_1_B at ho;obtain⟨x4,gx4,ho⟩:=bS ho;obtain⟨w5a,w5b⟩:=getI_w gx4;obtain⟨x6,gx6,ho⟩:=bS ho;have w7:ans A 32 [V.isl (x4.map Enc.enc),V.int .i64 v1_1]=some (V.int .i64 x6):=s32 x4 v1_1 gx6;by_cases c8:x6 < 0
  ·rw[if_pos c8]at ho
   cases ho;simp only[simprocAttr,R0,b59_1,h_1,eq_true hlt,hw,w5a,w5b,w7,eq_true c8];intro ht; subst ht;simp only[simprocAttr,RR,RB];exact ai rfl (fin_ret (by simp only[simprocAttr,R0,fn_out,p59,Rs.ev,take_len_self,h_1,eq_true hlt,hw,w5a,w5b,w7,eq_true c8]))
  ·rw[if_neg c8]at ho
   cases ho;simp only[simprocAttr,R0,b59_1,h_1,eq_true hlt,hw,w5a,w5b,w7,eq_false c8];refine ai rfl (ei _ (ai rfl ?_));simp only[simprocAttr,R0,h_1,eq_true hlt,hw,w5a,w5b,w7,eq_false c8]
 ·rintro v5_1 v1_1 e h ⟨k2,rfl,h_1⟩ hge t1 ho
  unfold F59_1_D at ho;cases ho;simp only[simprocAttr,R0,b59_1,h_1,eq_false hge];intro ht; subst ht;refine ai rfl (ei _ (ai rfl ?_));simp only[simprocAttr,R0,h_1,eq_false hge]
theorem s59(a0:List (List Int))(a1:Int){r:Int}(hF:F59 a0 a1=some r):ans A 59 [V.isl (a0.map Enc.enc),V.int .i64 a1]=some (Enc.enc r):=by
 refine ans_of (f:=p59) rfl rfl rfl fun e hl he=>?_;have h0_0:e.at 0=V.isl (a0.map Enc.enc):=he 0 _ rfl;have h1_0:e.at 1=V.int .i64 a1:=he 1 _ rfl;have hl_0:e.length=21:=hl;clear he hl;have h_0:=ai hl_0 (ai h0_0 h1_0);show W A b59 e ⟨[],0⟩ _;unfold F59 at hF;obtain⟨t9,gt9,hF⟩:=bS hF;rcases t9 with zv1_1|r10
 ·dsimp only at hF
  simp only[simprocAttr,R0,b59,h_0];refine W.mono (l59_1 a0 gt9 (ei _ (ai rfl ?_))) ?_
  ·simp only[simprocAttr,R0,h_0]
  rintro _ e _ ⟨rfl,k2,rfl,h_3⟩;cases hF;simp only[simprocAttr,R0,h_3];exact fin_ret (by simp only[simprocAttr,R0,fn_out,p59,Rs.ev,take_len_self,h_3])
 ·dsimp only at hF
  cases hF;simp only[simprocAttr,R0,b59,h_0];refine W.mono (l59_1 a0 gt9 (ei _ (ai rfl ?_))) ?_
  ·simp only[simprocAttr,R0,h_0]
  rintro _ e h ⟨rfl,hq⟩;simp only[simprocAttr,RR,RB];exact hq
def F349(a0:GCouple)(a1:Int):Option Int:=
 (F59 a0.I a1).bind fun x1=>
 if x1 < 0 then
  some (-1)
 else
  (F59 a0.J x1).bind fun x4=>
  if x4 < 0 then
   some (-1)
  else
   (F59 a0.K x4).bind fun x7=>
   if x7 < 0 then
    some (-1)
   else
    some x7
theorem s349(a0:GCouple)(a1:Int){r:Int}(hF:F349 a0 a1=some r):ans A 349 [V.agg [V.int .i64 a0.Prime,V.int .i64 a0.D,V.int .i64 a0.E,V.isl (a0.I.map Enc.enc),V.isl (a0.J.map Enc.enc),V.isl (a0.K.map Enc.enc)],V.int .i64 a1]=some (Enc.enc r):=by
 refine ans_of (f:=p349) rfl rfl rfl fun e hl he=>?_;have h0_0:e.at 0=V.agg [V.int .i64 a0.Prime,V.int .i64 a0.D,V.int .i64 a0.E,V.isl (a0.I.map Enc.enc),V.isl (a0.J.map Enc.enc),V.isl (a0.K.map Enc.enc)]:=he 0 _ rfl;have h1_0:e.at 1=V.int .i64 a1:=he 1 _ rfl;have hl_0:e.length=24:=hl;clear he hl;have h_0:=ai hl_0 (ai h0_0 h1_0);show W A b349 e ⟨[],0⟩ _;unfold F349 at hF;obtain⟨x1,gx1,hF⟩:=bS hF;have w2:ans A 59 [V.isl (a0.I.map Enc.enc),V.int .i64 a1]=some (V.int .i64 x1):=s59 a0.I a1 gx1;by_cases c3:x1 < 0
 ·rw[if_pos c3]at hF
  cases hF;simp only[simprocAttr,R0,b349,h_0,w2,eq_true c3];exact fin_ret (by simp only[simprocAttr,R0,fn_out,p349,Rs.ev,take_len_self,h_0,w2,eq_true c3])
 ·rw[if_neg c3]at hF
  obtain⟨x4,gx4,hF⟩:=bS hF;have w5:ans A 59 [V.isl (a0.J.map Enc.enc),V.int .i64 x1]=some (V.int .i64 x4):=s59 a0.J x1 gx4;by_cases c6:x4 < 0
  ·rw[if_pos c6]at hF
   cases hF;simp only[simprocAttr,R0,b349,h_0,w2,eq_false c3,w5,eq_true c6];exact fin_ret (by simp only[simprocAttr,R0,fn_out,p349,Rs.ev,take_len_self,h_0,w2,eq_false c3,w5,eq_true c6])
  ·rw[if_neg c6]at hF
   obtain⟨x7,gx7,hF⟩:=bS hF;have w8:ans A 59 [V.isl (a0.K.map Enc.enc),V.int .i64 x4]=some (V.int .i64 x7):=s59 a0.K x4 gx7;by_cases c9:x7 < 0
   ·rw[if_pos c9]at hF
    cases hF;simp only[simprocAttr,R0,b349,h_0,w2,eq_false c3,w5,eq_false c6,w8,eq_true c9];exact fin_ret (by simp only[simprocAttr,R0,fn_out,p349,Rs.ev,take_len_self,h_0,w2,eq_false c3,w5,eq_false c6,w8,eq_true c9])
   ·rw[if_neg c9]at hF
    cases hF;simp only[simprocAttr,R0,b349,h_0,w2,eq_false c3,w5,eq_false c6,w8,eq_false c9];exact fin_ret (by simp only[simprocAttr,R0,fn_out,p349,Rs.ev,take_len_self,h_0,w2,eq_false c3,w5,eq_false c6,w8,eq_false c9])
def L362(a0:GComplex)(a1:List (List (List Int))):Prop:=
 (∃l0,F10 a0 1048576=some l0∧l0 < 0)∨
 (∃l0 l1,F10 a0 1048576=some l0∧¬l0 < 0∧F11 a1 l0=some l1∧l1 < 0)∨
 (∃ (l0:Int) (l1:Int) (s0:GComplex) (s1:List (List (List Int))) (w:GCouple) (cd:Int) (m0:GComplex×Int) (m1:List (List (List Int))×Int) (mg:GCouple×Int),F10 a0 1048576=some l0∧¬l0 < 0∧F11 a1 l0=some l1∧¬l1 < 0∧F12 a0=some s0∧F13 a1=some s1∧F345 s0 s1=some ⟨w,cd⟩∧F346 s0 s1=some ⟨w,cd⟩∧F347 w w=some true∧F16 s0 s0=some true∧F17 s1 s1=some true∧FM20 s0 1=some m0∧FM21 s1 m0.2=some m1∧¬m1.2 < 0∧FM348 w 1=some mg∧F349 mg.1 1=some mg.2∧¬mg.2 < 0)
theorem s362(a0:GComplex)(a1:List (List (List Int)))(hF:L362 a0 a1):ans A 362 [(eC a0),V.isl (a1.map Enc.enc)]=some (V.bool true):=by
 refine ans_of (f:=p362) rfl rfl rfl fun e hl he=>?_;have h0_0:e.at 0=(eC a0):=he 0 _ rfl;have h1_0:e.at 1=V.isl (a1.map Enc.enc):=he 1 _ rfl;have hl_0:e.length=119:=hl;clear he hl;have h_0:=ai hl_0 (ai h0_0 h1_0);show W A b362 e ⟨[],0⟩ _;rcases hF with⟨l0,g0,c0⟩|⟨l0,l1,g0,c0,g1,c1⟩|⟨l0,l1,s0,s1,w,cd,m0,m1,mg,g0,c0,g1,c1,t0,t1,gs,gi,ge,q0,q1,k0,k1,ck,gm,gh,cg⟩
 ·have z0:=s10 a0 _ g0
  simp only[simprocAttr,R0,b362,h_0,z0,eq_true c0];exact fin_ret (by simp only[simprocAttr,R0,fn_out,p362,Rs.ev,take_len_self,hl_0,z0,eq_true c0])
 ·have z0:=s10 a0 _ g0; have z1:=s11 a1 _ g1
  simp only[simprocAttr,R0,b362,h_0,z0,eq_false c0,z1,eq_true c1];exact fin_ret (by simp only[simprocAttr,R0,fn_out,p362,Rs.ev,take_len_self,hl_0,z0,eq_false c0,z1,eq_true c1])
 ·have z0:=s10 a0 _ g0
  have z1:=s11 a1 _ g1;have u0:ans A 12 [(eC a0)]=some ((eC s0)):=s12 a0 t0;have x0:tans A 12 [1,1,1] [(eC a0)]=some ((eC s0)):=x12 a0 t0;have u1:ans A 13 [V.isl (a1.map Enc.enc)]=some (V.isl (s1.map Enc.enc)):=s13 a1 t1;have x1:tans A 13 [1,1,1] [V.isl (a1.map Enc.enc)]=some (V.isl (s1.map Enc.enc)):=x13 a1 t1;have us:ans A 345 [(eC s0),V.isl (s1.map Enc.enc)]=some (V.tup [V.agg [V.int .i64 w.Prime,V.int .i64 w.D,V.int .i64 w.E,V.isl (w.I.map Enc.enc),V.isl (w.J.map Enc.enc),V.isl (w.K.map Enc.enc)],V.int .i64 cd]):=s345 s0 s1 gs;have ui:ans A 346 [(eC s0),V.isl (s1.map Enc.enc)]=some (V.tup [V.agg [V.int .i64 w.Prime,V.int .i64 w.D,V.int .i64 w.E,V.isl (w.I.map Enc.enc),V.isl (w.J.map Enc.enc),V.isl (w.K.map Enc.enc)],V.int .i64 cd]):=s346 s0 s1 gi;have xi:tans A 346 [1,1] [(eC s0),V.isl (s1.map Enc.enc)]=some (V.tup [V.agg [V.int .i64 w.Prime,V.int .i64 w.D,V.int .i64 w.E,V.isl (w.I.map Enc.enc),V.isl (w.J.map Enc.enc),V.isl (w.K.map Enc.enc)],V.int .i64 cd]):=x346 s0 s1 gi;have ue:ans A 347 [V.agg [V.int .i64 w.Prime,V.int .i64 w.D,V.int .i64 w.E,V.isl (w.I.map Enc.enc),V.isl (w.J.map Enc.enc),V.isl (w.K.map Enc.enc)],V.agg [V.int .i64 w.Prime,V.int .i64 w.D,V.int .i64 w.E,V.isl (w.I.map Enc.enc),V.isl (w.J.map Enc.enc),V.isl (w.K.map Enc.enc)]]=some (V.bool true):=s347 w w ge;have y0:ans A 16 [(eC s0),(eC s0)]=some (V.bool true):=s16 s0 s0 q0;have y1:ans A 17 [V.isl (s1.map Enc.enc),V.isl (s1.map Enc.enc)]=some (V.bool true):=s17 s1 s1 q1;have bw:bare 16 [1,1] (V.tup [V.agg [V.int .i64 w.Prime,V.int .i64 w.D,V.int .i64 w.E,V.isl (w.I.map Enc.enc),V.isl (w.J.map Enc.enc),V.isl (w.K.map Enc.enc)],V.int .i64 cd])=true:=bare_tup (l:=[⟨w⟩,⟨cd⟩]) (fits_pair rfl (by decide));obtain⟨v0,⟨E_1,c_2⟩,K_3,t_5,r_4,b_6,le_7,o_8⟩:=thawD (α:=GComplex) (by decide) s0 ⟨[(0,none),(1,some [V.int .i64 w.Prime,V.int .i64 w.D,V.int .i64 w.E,V.isl (w.I.map Enc.enc),V.isl (w.J.map Enc.enc),V.isl (w.K.map Enc.enc)])],2⟩;obtain⟨d0_1,d0_2,rfl, -⟩:=sh_GComplex r_4;simp only[le1,List.length_cons,List.length_nil,Nat.zero_add,Nat.reduceAdd]at b_6 le_7 o_8;have t_5':thaw 16 [1,1,1] ((eC s0)) ⟨[(0,none),(1,some [V.int .i64 w.Prime,V.int .i64 w.D,V.int .i64 w.E,V.isl (w.I.map Enc.enc),V.isl (w.J.map Enc.enc),V.isl (w.K.map Enc.enc)])],2⟩=some (V.agg [V.int .i64 s0.Prime,d0_1,d0_2],⟨E_1,c_2⟩):=t_5;have f_9:E_1[1]? =some (1,some [V.int .i64 w.Prime,V.int .i64 w.D,V.int .i64 w.E,V.isl (w.I.map Enc.enc),V.isl (w.J.map Enc.enc),V.isl (w.K.map Enc.enc)]):=o_8 1 (by decide);have f_10:(E_1++[(c_2,some [V.int .i64 s0.Prime,d0_1,d0_2])])[1]? =some (1,some [V.int .i64 w.Prime,V.int .i64 w.D,V.int .i64 w.E,V.isl (w.I.map Enc.enc),V.isl (w.J.map Enc.enc),V.isl (w.K.map Enc.enc)]):=(List.getElem?_append_left (List.getElem?_eq_some_iff.1 f_9).1).trans f_9;have f_11:(E_1++[(c_2,some [V.int .i64 s0.Prime,d0_1,d0_2])])[E_1.length]? =some (c_2,some [V.int .i64 s0.Prime,d0_1,d0_2]):=get_last _ _;have r_12:=Deep.frame (h':=⟨E_1++[(c_2,some [V.int .i64 s0.Prime,d0_1,d0_2])],c_2+1⟩) r_4 fun k q=>(List.getElem?_append_left (Deep.bd r_4 q):(E_1++[(c_2,some [V.int .i64 s0.Prime,d0_1,d0_2])])[k]? =_);obtain⟨v1,⟨E_13,c_14⟩,K_15,t_17,r_16,b_18,le_19,o_20⟩:=thawD (α:=List (List (List Int))) (by decide) s1 ⟨E_1++[(c_2,some [V.int .i64 s0.Prime,d0_1,d0_2])],c_2+1⟩;obtain⟨one1,one1_t⟩:=rep_one r_16;simp only[le1,List.length_cons,List.length_nil,Nat.zero_add,Nat.reduceAdd]at b_18 le_19 o_20;have t_17':thaw 16 [1,1,1] (V.isl (s1.map Enc.enc)) ⟨E_1++[(c_2,some [V.int .i64 s0.Prime,d0_1,d0_2])],c_2+1⟩=some (v1,⟨E_13,c_14⟩):=t_17;have f_21:E_13[1]? =some (1,some [V.int .i64 w.Prime,V.int .i64 w.D,V.int .i64 w.E,V.isl (w.I.map Enc.enc),V.isl (w.J.map Enc.enc),V.isl (w.K.map Enc.enc)]):=(o_20 1 (by have:=(List.getElem?_eq_some_iff.1 f_10).1;(try simp only[le1]at this); omega)).trans f_10;have f_22:E_13[E_1.length]? =some (c_2,some [V.int .i64 s0.Prime,d0_1,d0_2]):=(o_20 E_1.length (by have:=(List.getElem?_eq_some_iff.1 f_11).1;(try simp only[le1]at this); omega)).trans f_11;have r_23:=Deep.frame (h':=⟨E_13,c_14⟩) r_12 fun k q=> o_20 k (by have:=Deep.bd r_12 q;(try simp only[le1]at this); omega)
  obtain⟨z_24_e0,z_24_1,z_24_2⟩:=fz_GComplex r_23;have z_25:=Deep.fz r_16 9;have z_25':frz ⟨E_13,c_14⟩ 16 v1=some (V.isl (s1.map Enc.enc)):=z_25;obtain⟨vg,⟨E_26,c_27⟩,K_28,t_30,r_29,b_31,le_32,o_33⟩:=thawP (α:=GCouple) (s:=1) (ss:=[1]) (by decide) w cd ⟨E_13,c_14⟩;obtain⟨dg_3,dg_4,dg_5,rfl, -⟩:=sh_GCouple r_29;simp only[le1,List.length_cons,List.length_nil,Nat.zero_add,Nat.reduceAdd]at b_31 le_32 o_33;have t_30':thaw 16 [1,1] (V.tup [V.agg [V.int .i64 w.Prime,V.int .i64 w.D,V.int .i64 w.E,V.isl (w.I.map Enc.enc),V.isl (w.J.map Enc.enc),V.isl (w.K.map Enc.enc)],V.int .i64 cd]) ⟨E_13,c_14⟩=some (V.tup [V.agg [V.int .i64 w.Prime,V.int .i64 w.D,V.int .i64 w.E,dg_3,dg_4,dg_5],V.int .i64 cd],⟨E_26,c_27⟩):=t_30;have f_34:E_26[1]? =some (1,some [V.int .i64 w.Prime,V.int .i64 w.D,V.int .i64 w.E,V.isl (w.I.map Enc.enc),V.isl (w.J.map Enc.enc),V.isl (w.K.map Enc.enc)]):=(o_33 1 (by have:=(List.getElem?_eq_some_iff.1 f_21).1;(try simp only[le1]at this); omega)).trans f_21;have f_35:E_26[E_1.length]? =some (c_2,some [V.int .i64 s0.Prime,d0_1,d0_2]):=(o_33 E_1.length (by have:=(List.getElem?_eq_some_iff.1 f_22).1;(try simp only[le1]at this); omega)).trans f_22;have r_36:=Deep.frame (h':=⟨E_26,c_27⟩) r_23 fun k q=> o_33 k (by have:=Deep.bd r_23 q;(try simp only[le1]at this); omega);have r_37:=Deep.frame (h':=⟨E_26,c_27⟩) r_16 fun k q=> o_33 k (by have:=Deep.bd r_16 q;(try simp only[le1]at this); omega);have f_38:(E_26++[(c_27,some [V.int .i64 w.Prime,V.int .i64 w.D,V.int .i64 w.E,dg_3,dg_4,dg_5])])[1]? =some (1,some [V.int .i64 w.Prime,V.int .i64 w.D,V.int .i64 w.E,V.isl (w.I.map Enc.enc),V.isl (w.J.map Enc.enc),V.isl (w.K.map Enc.enc)]):=(List.getElem?_append_left (List.getElem?_eq_some_iff.1 f_34).1).trans f_34;have f_39:(E_26++[(c_27,some [V.int .i64 w.Prime,V.int .i64 w.D,V.int .i64 w.E,dg_3,dg_4,dg_5])])[E_1.length]? =some (c_2,some [V.int .i64 s0.Prime,d0_1,d0_2]):=(List.getElem?_append_left (List.getElem?_eq_some_iff.1 f_35).1).trans f_35;have f_40:(E_26++[(c_27,some [V.int .i64 w.Prime,V.int .i64 w.D,V.int .i64 w.E,dg_3,dg_4,dg_5])])[E_26.length]? =some (c_27,some [V.int .i64 w.Prime,V.int .i64 w.D,V.int .i64 w.E,dg_3,dg_4,dg_5]):=get_last _ _;have r_41:=Deep.frame (h':=⟨E_26++[(c_27,some [V.int .i64 w.Prime,V.int .i64 w.D,V.int .i64 w.E,dg_3,dg_4,dg_5])],c_27+1⟩) r_36 fun k q=>(List.getElem?_append_left (Deep.bd r_36 q):(E_26++[(c_27,some [V.int .i64 w.Prime,V.int .i64 w.D,V.int .i64 w.E,dg_3,dg_4,dg_5])])[k]? =_);have r_42:=Deep.frame (h':=⟨E_26++[(c_27,some [V.int .i64 w.Prime,V.int .i64 w.D,V.int .i64 w.E,dg_3,dg_4,dg_5])],c_27+1⟩) r_37 fun k q=>(List.getElem?_append_left (Deep.bd r_37 q):(E_26++[(c_27,some [V.int .i64 w.Prime,V.int .i64 w.D,V.int .i64 w.E,dg_3,dg_4,dg_5])])[k]? =_);have r_43:=Deep.frame (h':=⟨E_26++[(c_27,some [V.int .i64 w.Prime,V.int .i64 w.D,V.int .i64 w.E,dg_3,dg_4,dg_5])],c_27+1⟩) r_29 fun k q=>(List.getElem?_append_left (Deep.bd r_29 q):(E_26++[(c_27,some [V.int .i64 w.Prime,V.int .i64 w.D,V.int .i64 w.E,dg_3,dg_4,dg_5])])[k]? =_);obtain⟨z_44_e0,z_44_e1,z_44_e2,z_44_3,z_44_4,z_44_5⟩:=fz_GCouple r_43;obtain⟨z_45_e0,z_45_1,z_45_2⟩:=fz_GComplex r_41;have z_46:=Deep.fz r_42 9;have z_46':frz ⟨E_26++[(c_27,some [V.int .i64 w.Prime,V.int .i64 w.D,V.int .i64 w.E,dg_3,dg_4,dg_5])],c_27+1⟩ 16 v1=some (V.isl (s1.map Enc.enc)):=z_46;obtain⟨⟨E_47,c_48⟩,w_49,r_50,o_52,le_51⟩:=dm20 k0 _ r_41
  try simp only[le1]at o_52 le_51
  have f_53:E_47[1]? =some (1,some [V.int .i64 w.Prime,V.int .i64 w.D,V.int .i64 w.E,V.isl (w.I.map Enc.enc),V.isl (w.J.map Enc.enc),V.isl (w.K.map Enc.enc)]):=(o_52 1 (by have:=(List.getElem?_eq_some_iff.1 f_38).1;(try simp only[le1]at this); omega) (fun p=> by have h1:=b_6 _ p; omega)).trans f_38;have f_54:E_47[E_1.length]? =some (c_2,some [V.int .i64 s0.Prime,d0_1,d0_2]):=(o_52 E_1.length (by have:=(List.getElem?_eq_some_iff.1 f_39).1;(try simp only[le1]at this); omega) (fun p=> by have h1:=b_6 _ p; omega)).trans f_39;have f_55:E_47[E_26.length]? =some (c_27,some [V.int .i64 w.Prime,V.int .i64 w.D,V.int .i64 w.E,dg_3,dg_4,dg_5]):=(o_52 E_26.length (by have:=(List.getElem?_eq_some_iff.1 f_40).1;(try simp only[le1]at this); omega) (fun p=> by have h1:=b_6 _ p; omega)).trans f_40;have r_56:=Deep.frame (h':=⟨E_47,c_48⟩) r_42 fun k q=> o_52 k (by have:=Deep.bd r_42 q;(try simp only[le1]at this); omega) (fun p=> by have h1:=b_6 k p; have h2:=b_18 k q; omega);have r_57:=Deep.frame (h':=⟨E_47,c_48⟩) r_43 fun k q=> o_52 k (by have:=Deep.bd r_43 q;(try simp only[le1]at this); omega) (fun p=> by have h1:=b_6 k p; have h2:=b_31 k q; omega);obtain⟨⟨E_58,c_59⟩,w_60,r_61,o_63,le_62⟩:=dm21 k1 _ r_56
  try simp only[le1]at o_63 le_62
  have f_64:E_58[1]? =some (1,some [V.int .i64 w.Prime,V.int .i64 w.D,V.int .i64 w.E,V.isl (w.I.map Enc.enc),V.isl (w.J.map Enc.enc),V.isl (w.K.map Enc.enc)]):=(o_63 1 (by have:=(List.getElem?_eq_some_iff.1 f_53).1;(try simp only[le1]at this); omega) (fun p=> by have h1:=b_18 _ p; omega)).trans f_53;have f_65:E_58[E_1.length]? =some (c_2,some [V.int .i64 s0.Prime,d0_1,d0_2]):=(o_63 E_1.length (by have:=(List.getElem?_eq_some_iff.1 f_54).1;(try simp only[le1]at this); omega) (fun p=> by have h1:=b_18 _ p; omega)).trans f_54;have f_66:E_58[E_26.length]? =some (c_27,some [V.int .i64 w.Prime,V.int .i64 w.D,V.int .i64 w.E,dg_3,dg_4,dg_5]):=(o_63 E_26.length (by have:=(List.getElem?_eq_some_iff.1 f_55).1;(try simp only[le1]at this); omega) (fun p=> by have h1:=b_18 _ p; omega)).trans f_55;have r_67:=Deep.frame (h':=⟨E_58,c_59⟩) r_50 fun k q=> o_63 k (by have:=Deep.bd r_50 q;(try simp only[le1]at this); omega) (fun p=> by have h1:=b_18 k p; have h2:=b_6 k q; omega);have r_68:=Deep.frame (h':=⟨E_58,c_59⟩) r_57 fun k q=> o_63 k (by have:=Deep.bd r_57 q;(try simp only[le1]at this); omega) (fun p=> by have h1:=b_18 k p; have h2:=b_31 k q; omega);obtain⟨z_69_e0,z_69_e1,z_69_e2,z_69_3,z_69_4,z_69_5⟩:=fz_GCouple r_68;obtain⟨⟨E_70,c_71⟩,w_72,r_73,o_75,le_74⟩:=dm348 gm _ r_68
  try simp only[le1]at o_75 le_74
  have f_76:E_70[1]? =some (1,some [V.int .i64 w.Prime,V.int .i64 w.D,V.int .i64 w.E,V.isl (w.I.map Enc.enc),V.isl (w.J.map Enc.enc),V.isl (w.K.map Enc.enc)]):=(o_75 1 (by have:=(List.getElem?_eq_some_iff.1 f_64).1;(try simp only[le1]at this); omega) (fun p=> by have h1:=b_31 _ p; omega)).trans f_64;have f_77:E_70[E_1.length]? =some (c_2,some [V.int .i64 s0.Prime,d0_1,d0_2]):=(o_75 E_1.length (by have:=(List.getElem?_eq_some_iff.1 f_65).1;(try simp only[le1]at this); omega) (fun p=> by have h1:=b_31 _ p; omega)).trans f_65;have f_78:E_70[E_26.length]? =some (c_27,some [V.int .i64 w.Prime,V.int .i64 w.D,V.int .i64 w.E,dg_3,dg_4,dg_5]):=(o_75 E_26.length (by have:=(List.getElem?_eq_some_iff.1 f_66).1;(try simp only[le1]at this); omega) (fun p=> by have h1:=b_31 _ p; omega)).trans f_66;have r_79:=Deep.frame (h':=⟨E_70,c_71⟩) r_67 fun k q=> o_75 k (by have:=Deep.bd r_67 q;(try simp only[le1]at this); omega) (fun p=> by have h1:=b_31 k p; have h2:=b_6 k q; omega);have r_80:=Deep.frame (h':=⟨E_70,c_71⟩) r_61 fun k q=> o_75 k (by have:=Deep.bd r_61 q;(try simp only[le1]at this); omega) (fun p=> by have h1:=b_31 k p; have h2:=b_18 k q; omega);obtain⟨z_81_e0,z_81_e1,z_81_e2,z_81_3,z_81_4,z_81_5⟩:=fz_GCouple r_73;have uh:ans A 349 [V.agg [V.int .i64 w.Prime,V.int .i64 w.D,V.int .i64 w.E,V.isl (List.map Enc.enc mg.1.I),V.isl (List.map Enc.enc mg.1.J),V.isl (List.map Enc.enc mg.1.K)],V.int .i64 1]=some (V.int .i64 mg.2):=by
   rw[←z_81_e0,←z_81_e1,←z_81_e2]; exact s349 mg.1 1 gh
  have f_82:(E_70++[(c_71,some [V.int .i64 w.Prime,V.int .i64 w.D,V.int .i64 w.E,V.isl (w.I.map Enc.enc),V.isl (w.J.map Enc.enc),V.isl (w.K.map Enc.enc)])])[1]? =some (1,some [V.int .i64 w.Prime,V.int .i64 w.D,V.int .i64 w.E,V.isl (w.I.map Enc.enc),V.isl (w.J.map Enc.enc),V.isl (w.K.map Enc.enc)]):=(List.getElem?_append_left (List.getElem?_eq_some_iff.1 f_76).1).trans f_76;have f_83:(E_70++[(c_71,some [V.int .i64 w.Prime,V.int .i64 w.D,V.int .i64 w.E,V.isl (w.I.map Enc.enc),V.isl (w.J.map Enc.enc),V.isl (w.K.map Enc.enc)])])[E_1.length]? =some (c_2,some [V.int .i64 s0.Prime,d0_1,d0_2]):=(List.getElem?_append_left (List.getElem?_eq_some_iff.1 f_77).1).trans f_77;have f_84:(E_70++[(c_71,some [V.int .i64 w.Prime,V.int .i64 w.D,V.int .i64 w.E,V.isl (w.I.map Enc.enc),V.isl (w.J.map Enc.enc),V.isl (w.K.map Enc.enc)])])[E_26.length]? =some (c_27,some [V.int .i64 w.Prime,V.int .i64 w.D,V.int .i64 w.E,dg_3,dg_4,dg_5]):=(List.getElem?_append_left (List.getElem?_eq_some_iff.1 f_78).1).trans f_78;have f_85:(E_70++[(c_71,some [V.int .i64 w.Prime,V.int .i64 w.D,V.int .i64 w.E,V.isl (w.I.map Enc.enc),V.isl (w.J.map Enc.enc),V.isl (w.K.map Enc.enc)])])[E_70.length]? =some (c_71,some [V.int .i64 w.Prime,V.int .i64 w.D,V.int .i64 w.E,V.isl (w.I.map Enc.enc),V.isl (w.J.map Enc.enc),V.isl (w.K.map Enc.enc)]):=get_last _ _;have r_86:=Deep.frame (h':=⟨E_70++[(c_71,some [V.int .i64 w.Prime,V.int .i64 w.D,V.int .i64 w.E,V.isl (w.I.map Enc.enc),V.isl (w.J.map Enc.enc),V.isl (w.K.map Enc.enc)])],c_71+1⟩) r_79 fun k q=>(List.getElem?_append_left (Deep.bd r_79 q):(E_70++[(c_71,some [V.int .i64 w.Prime,V.int .i64 w.D,V.int .i64 w.E,V.isl (w.I.map Enc.enc),V.isl (w.J.map Enc.enc),V.isl (w.K.map Enc.enc)])])[k]? =_);have r_87:=Deep.frame (h':=⟨E_70++[(c_71,some [V.int .i64 w.Prime,V.int .i64 w.D,V.int .i64 w.E,V.isl (w.I.map Enc.enc),V.isl (w.J.map Enc.enc),V.isl (w.K.map Enc.enc)])],c_71+1⟩) r_80 fun k q=>(List.getElem?_append_left (Deep.bd r_80 q):(E_70++[(c_71,some [V.int .i64 w.Prime,V.int .i64 w.D,V.int .i64 w.E,V.isl (w.I.map Enc.enc),V.isl (w.J.map Enc.enc),V.isl (w.K.map Enc.enc)])])[k]? =_);have r_88:=Deep.frame (h':=⟨E_70++[(c_71,some [V.int .i64 w.Prime,V.int .i64 w.D,V.int .i64 w.E,V.isl (w.I.map Enc.enc),V.isl (w.J.map Enc.enc),V.isl (w.K.map Enc.enc)])],c_71+1⟩) r_73 fun k q=>(List.getElem?_append_left (Deep.bd r_73 q):(E_70++[(c_71,some [V.int .i64 w.Prime,V.int .i64 w.D,V.int .i64 w.E,V.isl (w.I.map Enc.enc),V.isl (w.J.map Enc.enc),V.isl (w.K.map Enc.enc)])])[k]? =_);obtain⟨z_89_e0,z_89_e1,z_89_e2,z_89_3,z_89_4,z_89_5⟩:=fz_GCouple r_88;simp only[simprocAttr,R0,b362,h_0,callM_tans,callM_plain_eq,get_last,set_last,le1,z0,eq_false c0,z1,eq_false c1,u0,x0,u1,x1,us,ui,xi,ue,y0,y1,bw,t_5',f_9,f_10,f_11,one1,one1_t,t_17',f_21,f_22,z_24_1,z_24_2,z_25',t_30',f_34,f_35,f_38,f_39,f_40,z_44_3,z_44_4,z_44_5,z_45_1,z_45_2,z_46',w_49,f_53,f_54,f_55,w_60,f_64,f_65,f_66,z_69_3,z_69_4,z_69_5,eq_false ck,w_72,f_76,f_77,f_78,z_81_3,z_81_4,z_81_5,uh,eq_false cg,f_82,f_83,f_84,f_85,z_89_3,z_89_4,z_89_5];exact fin_ret (by simp only[simprocAttr,R0,fn_out,p362,Rs.ev,take_len_self,hl_0])
end
end Rv
