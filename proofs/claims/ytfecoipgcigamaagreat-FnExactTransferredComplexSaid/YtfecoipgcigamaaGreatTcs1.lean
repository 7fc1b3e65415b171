/- What the abstract code answers: typed functions, part 2. -/
import Derived.Test.YtfecoipgcigamaaGreatTcs0
namespace Rv
set_option linter.unusedVariables false
set_option linter.unusedSimpArgs false
set_option maxRecDepth 100000
noncomputable section
def F192_2_B(a0:GContraction)(a1:GComplex)(v25_1:Int)(x10:List (List Int))(v33_2:Int)(s:Unit):Option ((Unit)⊕((Unit)⊕Bool)):=
 (getI x10 v33_2).bind fun x15=>
(F91 a1 v25_1 x15).bind fun x17=>
(F194 a0 a1 v25_1 x15).bind fun x19=>
(F175 a0 a1 v25_1 x15).bind fun x21=>
(F207 a0 a1 v25_1 x21).bind fun x23=>
(chk (a1.Prime - 1)).bind fun x25=>
(F173 a1.Prime x15 x23 x25).bind fun x26=>
(F102 a1 v25_1).bind fun x28=>
(mkL 8 x28 0).bind fun l30=>
if 0 < v25_1 then
 (chk (v25_1 - 1)).bind fun x33=>
 (F194 a0 a1 x33 x17).bind fun x34=>
 (F173 a1.Prime l30 x34 1).bind fun x36=>
 (F175 a0 a1 x33 x17).bind fun x38=>
 (F92 x38).bind fun x40=>
 if x40=true then
  (F86 a1).bind fun x42=>
  if v25_1 < x42 then
   (chk (v25_1+1)).bind fun x45=>
   (F91 a1 x45 x19).bind fun x46=>
   (F173 a1.Prime x36 x46 1).bind fun x48=>
   (F194 a0 a1 x45 x19).bind fun x50=>
   (F92 x50).bind fun x52=>
   if x52=true then
    (F175 a0 a1 x45 x19).bind fun x54=>
    (F92 x54).bind fun x56=>
    if x56=true then
     (F165 x26 x48).bind fun x58=>
     if x58=true then
      some (.inl ())
     else
      some (.inr (.inr false))
    else
     some (.inr (.inr false))
   else
    some (.inr (.inr false))
  else
   (F165 x26 x36).bind fun x60=>
   if x60=true then
    some (.inl ())
   else
    some (.inr (.inr false))
 else
  some (.inr (.inr false))
else
 (F86 a1).bind fun x62=>
 if v25_1 < x62 then
  (chk (v25_1+1)).bind fun x65=>
  (F91 a1 x65 x19).bind fun x66=>
  (F173 a1.Prime l30 x66 1).bind fun x68=>
  (F194 a0 a1 x65 x19).bind fun x70=>
  (F92 x70).bind fun x72=>
  if x72=true then
   (F175 a0 a1 x65 x19).bind fun x74=>
   (F92 x74).bind fun x76=>
   if x76=true then
    (F165 x26 x68).bind fun x78=>
    if x78=true then
     some (.inl ())
    else
     some (.inr (.inr false))
   else
    some (.inr (.inr false))
  else
   some (.inr (.inr false))
 else
  (F165 x26 l30).bind fun x80=>
  if x80=true then
   some (.inl ())
  else
   some (.inr (.inr false))
def F192_2_D(a0:GContraction)(a1:GComplex)(v25_1:Int)(x10:List (List Int))(v33_2:Int)(s:Unit):Option ((Unit)⊕Bool):=
 some (.inl ())
def F192_3_B(a0:GContraction)(a1:GComplex)(v25_1:Int)(x87:List (List Int))(v126_3:Int)(s:Unit):Option ((Unit)⊕((Unit)⊕Bool)):=
 (getI x87 v126_3).bind fun x92=>
(F207 a0 a1 v25_1 x92).bind fun x94=>
(F91 a1 v25_1 x94).bind fun x96=>
(F92 x96).bind fun x98=>
if x98=true then
 (F175 a0 a1 v25_1 x94).bind fun x100=>
 (F165 x100 x92).bind fun x102=>
 if x102=true then
  (F194 a0 a1 v25_1 x94).bind fun x104=>
  (F92 x104).bind fun x106=>
  if x106=true then
   some (.inl ())
  else
   some (.inr (.inr false))
 else
  some (.inr (.inr false))
else
 some (.inr (.inr false))
def F192_3_D(a0:GContraction)(a1:GComplex)(v25_1:Int)(x87:List (List Int))(v126_3:Int)(s:Unit):Option ((Unit)⊕Bool):=
 some (.inl ())
def F192_1_B(a0:GContraction)(a1:GComplex)(v25_1:Int)(s:Unit):Option ((Unit)⊕((Unit)⊕Bool)):=
 (F102 a1 v25_1).bind fun x8=>
(F124 x8).bind fun x10=>
(forR 0 (x10.length:Int) (F192_2_B a0 a1 v25_1 x10) (F192_2_D a0 a1 v25_1 x10) ()).bind fun t82=> match t82 with
 | .inl _=>
  (getI a0.Up v25_1).bind fun x83=>
  (F124 (x83.length:Int)).bind fun x87=>
  (forR 0 (x87.length:Int) (F192_3_B a0 a1 v25_1 x87) (F192_3_D a0 a1 v25_1 x87) ()).bind fun t108=> match t108 with
   | .inl _=>
    some (.inl ())
   | .inr r109=> some (.inr (.inr r109))
 | .inr r110=> some (.inr (.inr r110))
def F192_1_D(a0:GContraction)(a1:GComplex)(v25_1:Int)(s:Unit):Option ((Unit)⊕Bool):=
 some (.inl ())
def F192(a0:GContraction)(a1:GComplex):Option Bool:=
 (F206 a0 a1).bind fun x1=>
 if x1=true then
  (forR 0 (a1.Dims.length:Int) (F192_1_B a0 a1) (F192_1_D a0 a1) ()).bind fun t111=> match t111 with
   | .inl _=>
    some true
   | .inr r112=> some r112
 else
  some false
def I192_2(a0:GContraction)(a1:GComplex)(v25_1:Int)(x10:List (List Int))(v33_2:Int)(s:Unit)(e:Env)(h:Heap):Prop:=
 ∃k13:Nat,h=⟨[(0,none),(0,none)],k13⟩∧e.length=162∧e.at 2=V.iptr [V.isl (a0.Down.map Enc.enc),V.isl (a0.Up.map Enc.enc),V.isl (a0.Back.map Enc.enc)]∧e.at 3=V.iptr [V.int .i64 a1.Prime,V.isl (a1.Dims.map Enc.enc),V.isl (a1.Maps.map Enc.enc)]∧e.at 5=V.int .i64 a1.Prime∧e.at 6=V.int .i64 v25_1∧e.at 24=V.int .i64 (a1.Dims.length:Int)∧e.at 25=V.int .i64 v25_1∧e.at 31=V.isl (x10.map Enc.enc)∧e.at 32=V.int .i64 (x10.length:Int)∧e.at 33=V.int .i64 v33_2
def P192_2(a0:GContraction)(a1:GComplex)(v25_1:Int)(x10:List (List Int))(t:(Unit)⊕Bool)(x:Ex)(e:Env)(h:Heap):Prop:=
 match t with
 | .inl _=> x= .normal∧∃k13:Nat,h=⟨[(0,none),(0,none)],k13⟩∧e.length=162∧e.at 2=V.iptr [V.isl (a0.Down.map Enc.enc),V.isl (a0.Up.map Enc.enc),V.isl (a0.Back.map Enc.enc)]∧e.at 3=V.iptr [V.int .i64 a1.Prime,V.isl (a1.Dims.map Enc.enc),V.isl (a1.Maps.map Enc.enc)]∧e.at 5=V.int .i64 a1.Prime∧e.at 6=V.int .i64 v25_1∧e.at 24=V.int .i64 (a1.Dims.length:Int)∧e.at 25=V.int .i64 v25_1
 | .inr r=> x= .ret∧Fin p192 (Enc.enc r) .ret e h
set_option maxHeartbeats 8000000 in
theorem l192_2(a0:GContraction)(a1:GComplex)(v25_1:Int)(x10:List (List Int)){lo:Int}{s:Unit}{t:(Unit)⊕Bool}(hF:forR lo (x10.length:Int) (F192_2_B a0 a1 v25_1 x10) (F192_2_D a0 a1 v25_1 x10) s=some t){e:Env}{h:Heap}(hI:I192_2 a0 a1 v25_1 x10 lo s e h):W A c192_2 e h (P192_2 a0 a1 v25_1 x10 t):=by
 show W A (.block 2 (.loop false b192_2)) e h _;rw[W_block];refine W_forR hF 2 (by obtain⟨_,rfl,_⟩:=hI; rfl) (I192_2 a0 a1 v25_1 x10) hI ?_ ?_
 ·rintro v33_2 _ e h ⟨k13,rfl,h_12⟩ hlt hw o ho
  unfold F192_2_B at ho;obtain⟨x15,gx15,ho⟩:=bS ho;obtain⟨w16a,w16b⟩:=getI_w gx15;obtain⟨x17,gx17,ho⟩:=bS ho;have w18:ans A 91 [(eC a1),V.int .i64 v25_1,V.isl (x15.map Enc.enc)]=some (V.isl (x17.map Enc.enc)):=s91 a1 v25_1 x15 gx17;obtain⟨x19,gx19,ho⟩:=bS ho;have w20:ans A 194 [(eK a0),(eC a1),V.int .i64 v25_1,V.isl (x15.map Enc.enc)]=some (V.isl (x19.map Enc.enc)):=s194 a0 a1 v25_1 x15 gx19;obtain⟨x21,gx21,ho⟩:=bS ho;have w22:ans A 175 [(eK a0),(eC a1),V.int .i64 v25_1,V.isl (x15.map Enc.enc)]=some (V.isl (x21.map Enc.enc)):=s175 a0 a1 v25_1 x15 gx21;obtain⟨x23,gx23,ho⟩:=bS ho;have w24:ans A 207 [(eK a0),(eC a1),V.int .i64 v25_1,V.isl (x21.map Enc.enc)]=some (V.isl (x23.map Enc.enc)):=s207 a0 a1 v25_1 x21 gx23;obtain⟨x25,gx25,ho⟩:=bS ho;have wx25:=chk_w gx25;obtain⟨x26,gx26,ho⟩:=bS ho;have w27:ans A 173 [V.int .i64 a1.Prime,V.isl (x15.map Enc.enc),V.isl (x23.map Enc.enc),V.int .i64 x25]=some (V.isl (x26.map Enc.enc)):=s173 a1.Prime x15 x23 x25 gx26;obtain⟨x28,gx28,ho⟩:=bS ho;have w29:ans A 102 [(eC a1),V.int .i64 v25_1]=some (V.int .i64 x28):=s102 a1 v25_1 gx28;obtain⟨l30,gl30,ho⟩:=bS ho;obtain⟨w31a,w31b,w31c,w31d,w31e⟩:=mkL_w gl30;replace w31e:(List.replicate (Int.toNat x28) [V.int .i64 0]).flatten=List.map Enc.enc l30:=w31e;by_cases c32:0 < v25_1
  ·rw[if_pos c32]at ho
   obtain⟨x33,gx33,ho⟩:=bS ho;have wx33:=chk_w gx33;obtain⟨x34,gx34,ho⟩:=bS ho;have w35:ans A 194 [(eK a0),(eC a1),V.int .i64 x33,V.isl (x17.map Enc.enc)]=some (V.isl (x34.map Enc.enc)):=s194 a0 a1 x33 x17 gx34;obtain⟨x36,gx36,ho⟩:=bS ho;have w37:ans A 173 [V.int .i64 a1.Prime,V.isl (l30.map Enc.enc),V.isl (x34.map Enc.enc),V.int .i64 1]=some (V.isl (x36.map Enc.enc)):=s173 a1.Prime l30 x34 1 gx36;obtain⟨x38,gx38,ho⟩:=bS ho;have w39:ans A 175 [(eK a0),(eC a1),V.int .i64 x33,V.isl (x17.map Enc.enc)]=some (V.isl (x38.map Enc.enc)):=s175 a0 a1 x33 x17 gx38;obtain⟨x40,gx40,ho⟩:=bS ho;have w41:ans A 92 [V.isl (x38.map Enc.enc)]=some (V.bool x40):=s92 x38 gx40;cases x40 with
   |true=>
    rw[if_pos rfl]at ho;obtain⟨x42,gx42,ho⟩:=bS ho;have w43:ans A 86 [(eC a1)]=some (V.int .i64 x42):=s86 a1 gx42;by_cases c44:v25_1 < x42
    ·rw[if_pos c44]at ho
     obtain⟨x45,gx45,ho⟩:=bS ho;have wx45:=chk_w gx45;obtain⟨x46,gx46,ho⟩:=bS ho;have w47:ans A 91 [(eC a1),V.int .i64 x45,V.isl (x19.map Enc.enc)]=some (V.isl (x46.map Enc.enc)):=s91 a1 x45 x19 gx46;obtain⟨x48,gx48,ho⟩:=bS ho;have w49:ans A 173 [V.int .i64 a1.Prime,V.isl (x36.map Enc.enc),V.isl (x46.map Enc.enc),V.int .i64 1]=some (V.isl (x48.map Enc.enc)):=s173 a1.Prime x36 x46 1 gx48;obtain⟨x50,gx50,ho⟩:=bS ho;have w51:ans A 194 [(eK a0),(eC a1),V.int .i64 x45,V.isl (x19.map Enc.enc)]=some (V.isl (x50.map Enc.enc)):=s194 a0 a1 x45 x19 gx50;obtain⟨x52,gx52,ho⟩:=bS ho;have w53:ans A 92 [V.isl (x50.map Enc.enc)]=some (V.bool x52):=s92 x50 gx52;cases x52 with
     |true=>
      rw[if_pos rfl]at ho;obtain⟨x54,gx54,ho⟩:=bS ho;have w55:ans A 175 [(eK a0),(eC a1),V.int .i64 x45,V.isl (x19.map Enc.enc)]=some (V.isl (x54.map Enc.enc)):=s175 a0 a1 x45 x19 gx54;obtain⟨x56,gx56,ho⟩:=bS ho;have w57:ans A 92 [V.isl (x54.map Enc.enc)]=some (V.bool x56):=s92 x54 gx56;cases x56 with
      |true=>
       rw[if_pos rfl]at ho;obtain⟨x58,gx58,ho⟩:=bS ho;have w59:ans A 165 [V.isl (x26.map Enc.enc),V.isl (x48.map Enc.enc)]=some (V.bool x58):=s165 x26 x48 gx58;cases x58 with
       |true=>
        rw[if_pos rfl]at ho;cases ho;simp only[simprocAttr, -Int.reduceNatCast',R0,b192_2,h_12,eq_true hlt,hw,w16a,w16b,w18,w20,w22,w24,wx25,w27,w29,w31a,w31b,w31c,w31e,eq_true c32,takes (α:=Int) l30,take_len (α:=Int) (l:=l30) (n:=(Int.toNat x28)) (by first|rfl|simp only[w31d]),le_of_len (α:=Int) (l:=l30) (n:=(Int.toNat x28)) (by first|rfl|simp only[w31d]),wx33,w35,w37,w39,w41,w43,eq_true c44,wx45,w47,w49,w51,w53,w55,w57,w59];refine And.intro rfl (Exists.intro _ (And.intro rfl ?_));simp only[simprocAttr, -Int.reduceNatCast',R0,h_12,eq_true hlt,hw,w16a,w16b,w18,w20,w22,w24,wx25,w27,w29,w31a,w31b,w31c,w31e,eq_true c32,takes (α:=Int) l30,take_len (α:=Int) (l:=l30) (n:=(Int.toNat x28)) (by first|rfl|simp only[w31d]),le_of_len (α:=Int) (l:=l30) (n:=(Int.toNat x28)) (by first|rfl|simp only[w31d]),wx33,w35,w37,w39,w41,w43,eq_true c44,wx45,w47,w49,w51,w53,w55,w57,w59,w31d]
       |false=>
        rw[if_neg Bool.false_ne_true]at ho;cases ho;simp only[simprocAttr, -Int.reduceNatCast',R0,b192_2,h_12,eq_true hlt,hw,w16a,w16b,w18,w20,w22,w24,wx25,w27,w29,w31a,w31b,w31c,w31e,eq_true c32,takes (α:=Int) l30,take_len (α:=Int) (l:=l30) (n:=(Int.toNat x28)) (by first|rfl|simp only[w31d]),le_of_len (α:=Int) (l:=l30) (n:=(Int.toNat x28)) (by first|rfl|simp only[w31d]),wx33,w35,w37,w39,w41,w43,eq_true c44,wx45,w47,w49,w51,w53,w55,w57,w59];intro ht; subst ht;simp only[simprocAttr, -Int.reduceNatCast',RR,RB];exact And.intro rfl (fin_ret (by simp only[simprocAttr, -Int.reduceNatCast',R0,fn_out,p192,Rs.ev,take_len_self,h_12,eq_true hlt,hw,w16a,w16b,w18,w20,w22,w24,wx25,w27,w29,w31a,w31b,w31c,w31e,eq_true c32,takes (α:=Int) l30,take_len (α:=Int) (l:=l30) (n:=(Int.toNat x28)) (by first|rfl|simp only[w31d]),le_of_len (α:=Int) (l:=l30) (n:=(Int.toNat x28)) (by first|rfl|simp only[w31d]),wx33,w35,w37,w39,w41,w43,eq_true c44,wx45,w47,w49,w51,w53,w55,w57,w59,w31d]))
      |false=>
       rw[if_neg Bool.false_ne_true]at ho;cases ho;simp only[simprocAttr, -Int.reduceNatCast',R0,b192_2,h_12,eq_true hlt,hw,w16a,w16b,w18,w20,w22,w24,wx25,w27,w29,w31a,w31b,w31c,w31e,eq_true c32,takes (α:=Int) l30,take_len (α:=Int) (l:=l30) (n:=(Int.toNat x28)) (by first|rfl|simp only[w31d]),le_of_len (α:=Int) (l:=l30) (n:=(Int.toNat x28)) (by first|rfl|simp only[w31d]),wx33,w35,w37,w39,w41,w43,eq_true c44,wx45,w47,w49,w51,w53,w55,w57];intro ht; subst ht;simp only[simprocAttr, -Int.reduceNatCast',RR,RB];exact And.intro rfl (fin_ret (by simp only[simprocAttr, -Int.reduceNatCast',R0,fn_out,p192,Rs.ev,take_len_self,h_12,eq_true hlt,hw,w16a,w16b,w18,w20,w22,w24,wx25,w27,w29,w31a,w31b,w31c,w31e,eq_true c32,takes (α:=Int) l30,take_len (α:=Int) (l:=l30) (n:=(Int.toNat x28)) (by first|rfl|simp only[w31d]),le_of_len (α:=Int) (l:=l30) (n:=(Int.toNat x28)) (by first|rfl|simp only[w31d]),wx33,w35,w37,w39,w41,w43,eq_true c44,wx45,w47,w49,w51,w53,w55,w57,w31d]))
     |false=>
      rw[if_neg Bool.false_ne_true]at ho;cases ho;simp only[simprocAttr, -Int.reduceNatCast',R0,b192_2,h_12,eq_true hlt,hw,w16a,w16b,w18,w20,w22,w24,wx25,w27,w29,w31a,w31b,w31c,w31e,eq_true c32,takes (α:=Int) l30,take_len (α:=Int) (l:=l30) (n:=(Int.toNat x28)) (by first|rfl|simp only[w31d]),le_of_len (α:=Int) (l:=l30) (n:=(Int.toNat x28)) (by first|rfl|simp only[w31d]),wx33,w35,w37,w39,w41,w43,eq_true c44,wx45,w47,w49,w51,w53];intro ht; subst ht;simp only[simprocAttr, -Int.reduceNatCast',RR,RB];exact And.intro rfl (fin_ret (by simp only[simprocAttr, -Int.reduceNatCast',R0,fn_out,p192,Rs.ev,take_len_self,h_12,eq_true hlt,hw,w16a,w16b,w18,w20,w22,w24,wx25,w27,w29,w31a,w31b,w31c,w31e,eq_true c32,takes (α:=Int) l30,take_len (α:=Int) (l:=l30) (n:=(Int.toNat x28)) (by first|rfl|simp only[w31d]),le_of_len (α:=Int) (l:=l30) (n:=(Int.toNat x28)) (by first|rfl|simp only[w31d]),wx33,w35,w37,w39,w41,w43,eq_true c44,wx45,w47,w49,w51,w53,w31d]))
    ·rw[if_neg c44]at ho
     obtain⟨x60,gx60,ho⟩:=bS ho;have w61:ans A 165 [V.isl (x26.map Enc.enc),V.isl (x36.map Enc.enc)]=some (V.bool x60):=s165 x26 x36 gx60;cases x60 with
     |true=>
      rw[if_pos rfl]at ho;cases ho;simp only[simprocAttr, -Int.reduceNatCast',R0,b192_2,h_12,eq_true hlt,hw,w16a,w16b,w18,w20,w22,w24,wx25,w27,w29,w31a,w31b,w31c,w31e,eq_true c32,takes (α:=Int) l30,take_len (α:=Int) (l:=l30) (n:=(Int.toNat x28)) (by first|rfl|simp only[w31d]),le_of_len (α:=Int) (l:=l30) (n:=(Int.toNat x28)) (by first|rfl|simp only[w31d]),wx33,w35,w37,w39,w41,w43,eq_false c44,w61];refine And.intro rfl (Exists.intro _ (And.intro rfl ?_));simp only[simprocAttr, -Int.reduceNatCast',R0,h_12,eq_true hlt,hw,w16a,w16b,w18,w20,w22,w24,wx25,w27,w29,w31a,w31b,w31c,w31e,eq_true c32,takes (α:=Int) l30,take_len (α:=Int) (l:=l30) (n:=(Int.toNat x28)) (by first|rfl|simp only[w31d]),le_of_len (α:=Int) (l:=l30) (n:=(Int.toNat x28)) (by first|rfl|simp only[w31d]),wx33,w35,w37,w39,w41,w43,eq_false c44,w61,w31d]
     |false=>
      rw[if_neg Bool.false_ne_true]at ho;cases ho;simp only[simprocAttr, -Int.reduceNatCast',R0,b192_2,h_12,eq_true hlt,hw,w16a,w16b,w18,w20,w22,w24,wx25,w27,w29,w31a,w31b,w31c,w31e,eq_true c32,takes (α:=Int) l30,take_len (α:=Int) (l:=l30) (n:=(Int.toNat x28)) (by first|rfl|simp only[w31d]),le_of_len (α:=Int) (l:=l30) (n:=(Int.toNat x28)) (by first|rfl|simp only[w31d]),wx33,w35,w37,w39,w41,w43,eq_false c44,w61];intro ht; subst ht;simp only[simprocAttr, -Int.reduceNatCast',RR,RB];exact And.intro rfl (fin_ret (by simp only[simprocAttr, -Int.reduceNatCast',R0,fn_out,p192,Rs.ev,take_len_self,h_12,eq_true hlt,hw,w16a,w16b,w18,w20,w22,w24,wx25,w27,w29,w31a,w31b,w31c,w31e,eq_true c32,takes (α:=Int) l30,take_len (α:=Int) (l:=l30) (n:=(Int.toNat x28)) (by first|rfl|simp only[w31d]),le_of_len (α:=Int) (l:=l30) (n:=(Int.toNat x28)) (by first|rfl|simp only[w31d]),wx33,w35,w37,w39,w41,w43,eq_false c44,w61,w31d]))
   |false=>
    rw[if_neg Bool.false_ne_true]at ho;cases ho;simp only[simprocAttr, -Int.reduceNatCast',R0,b192_2,h_12,eq_true hlt,hw,w16a,w16b,w18,w20,w22,w24,wx25,w27,w29,w31a,w31b,w31c,w31e,eq_true c32,takes (α:=Int) l30,take_len (α:=Int) (l:=l30) (n:=(Int.toNat x28)) (by first|rfl|simp only[w31d]),le_of_len (α:=Int) (l:=l30) (n:=(Int.toNat x28)) (by first|rfl|simp only[w31d]),wx33,w35,w37,w39,w41];intro ht; subst ht;simp only[simprocAttr, -Int.reduceNatCast',RR,RB];exact And.intro rfl (fin_ret (by simp only[simprocAttr, -Int.reduceNatCast',R0,fn_out,p192,Rs.ev,take_len_self,h_12,eq_true hlt,hw,w16a,w16b,w18,w20,w22,w24,wx25,w27,w29,w31a,w31b,w31c,w31e,eq_true c32,takes (α:=Int) l30,take_len (α:=Int) (l:=l30) (n:=(Int.toNat x28)) (by first|rfl|simp only[w31d]),le_of_len (α:=Int) (l:=l30) (n:=(Int.toNat x28)) (by first|rfl|simp only[w31d]),wx33,w35,w37,w39,w41,w31d]))
  ·rw[if_neg c32]at ho
   obtain⟨x62,gx62,ho⟩:=bS ho;have w63:ans A 86 [(eC a1)]=some (V.int .i64 x62):=s86 a1 gx62;by_cases c64:v25_1 < x62
   ·rw[if_pos c64]at ho
    obtain⟨x65,gx65,ho⟩:=bS ho;have wx65:=chk_w gx65;obtain⟨x66,gx66,ho⟩:=bS ho;have w67:ans A 91 [(eC a1),V.int .i64 x65,V.isl (x19.map Enc.enc)]=some (V.isl (x66.map Enc.enc)):=s91 a1 x65 x19 gx66;obtain⟨x68,gx68,ho⟩:=bS ho;have w69:ans A 173 [V.int .i64 a1.Prime,V.isl (l30.map Enc.enc),V.isl (x66.map Enc.enc),V.int .i64 1]=some (V.isl (x68.map Enc.enc)):=s173 a1.Prime l30 x66 1 gx68;obtain⟨x70,gx70,ho⟩:=bS ho;have w71:ans A 194 [(eK a0),(eC a1),V.int .i64 x65,V.isl (x19.map Enc.enc)]=some (V.isl (x70.map Enc.enc)):=s194 a0 a1 x65 x19 gx70;obtain⟨x72,gx72,ho⟩:=bS ho;have w73:ans A 92 [V.isl (x70.map Enc.enc)]=some (V.bool x72):=s92 x70 gx72;cases x72 with
    |true=>
     rw[if_pos rfl]at ho;obtain⟨x74,gx74,ho⟩:=bS ho;have w75:ans A 175 [(eK a0),(eC a1),V.int .i64 x65,V.isl (x19.map Enc.enc)]=some (V.isl (x74.map Enc.enc)):=s175 a0 a1 x65 x19 gx74;obtain⟨x76,gx76,ho⟩:=bS ho;have w77:ans A 92 [V.isl (x74.map Enc.enc)]=some (V.bool x76):=s92 x74 gx76;cases x76 with
     |true=>
      rw[if_pos rfl]at ho;obtain⟨x78,gx78,ho⟩:=bS ho;have w79:ans A 165 [V.isl (x26.map Enc.enc),V.isl (x68.map Enc.enc)]=some (V.bool x78):=s165 x26 x68 gx78;cases x78 with
      |true=>
       rw[if_pos rfl]at ho;cases ho;simp only[simprocAttr, -Int.reduceNatCast',R0,b192_2,h_12,eq_true hlt,hw,w16a,w16b,w18,w20,w22,w24,wx25,w27,w29,w31a,w31b,w31c,w31e,eq_false c32,w63,eq_true c64,takes (α:=Int) l30,take_len (α:=Int) (l:=l30) (n:=(Int.toNat x28)) (by first|rfl|simp only[w31d]),le_of_len (α:=Int) (l:=l30) (n:=(Int.toNat x28)) (by first|rfl|simp only[w31d]),wx65,w67,w69,w71,w73,w75,w77,w79];refine And.intro rfl (Exists.intro _ (And.intro rfl ?_));simp only[simprocAttr, -Int.reduceNatCast',R0,h_12,eq_true hlt,hw,w16a,w16b,w18,w20,w22,w24,wx25,w27,w29,w31a,w31b,w31c,w31e,eq_false c32,w63,eq_true c64,takes (α:=Int) l30,take_len (α:=Int) (l:=l30) (n:=(Int.toNat x28)) (by first|rfl|simp only[w31d]),le_of_len (α:=Int) (l:=l30) (n:=(Int.toNat x28)) (by first|rfl|simp only[w31d]),wx65,w67,w69,w71,w73,w75,w77,w79,w31d]
      |false=>
       rw[if_neg Bool.false_ne_true]at ho;cases ho;simp only[simprocAttr, -Int.reduceNatCast',R0,b192_2,h_12,eq_true hlt,hw,w16a,w16b,w18,w20,w22,w24,wx25,w27,w29,w31a,w31b,w31c,w31e,eq_false c32,w63,eq_true c64,takes (α:=Int) l30,take_len (α:=Int) (l:=l30) (n:=(Int.toNat x28)) (by first|rfl|simp only[w31d]),le_of_len (α:=Int) (l:=l30) (n:=(Int.toNat x28)) (by first|rfl|simp only[w31d]),wx65,w67,w69,w71,w73,w75,w77,w79];intro ht; subst ht;simp only[simprocAttr, -Int.reduceNatCast',RR,RB];exact And.intro rfl (fin_ret (by simp only[simprocAttr, -Int.reduceNatCast',R0,fn_out,p192,Rs.ev,take_len_self,h_12,eq_true hlt,hw,w16a,w16b,w18,w20,w22,w24,wx25,w27,w29,w31a,w31b,w31c,w31e,eq_false c32,w63,eq_true c64,takes (α:=Int) l30,take_len (α:=Int) (l:=l30) (n:=(Int.toNat x28)) (by first|rfl|simp only[w31d]),le_of_len (α:=Int) (l:=l30) (n:=(Int.toNat x28)) (by first|rfl|simp only[w31d]),wx65,w67,w69,w71,w73,w75,w77,w79,w31d]))
     |false=>
      rw[if_neg Bool.false_ne_true]at ho;cases ho;simp only[simprocAttr, -Int.reduceNatCast',R0,b192_2,h_12,eq_true hlt,hw,w16a,w16b,w18,w20,w22,w24,wx25,w27,w29,w31a,w31b,w31c,w31e,eq_false c32,w63,eq_true c64,takes (α:=Int) l30,take_len (α:=Int) (l:=l30) (n:=(Int.toNat x28)) (by first|rfl|simp only[w31d]),le_of_len (α:=Int) (l:=l30) (n:=(Int.toNat x28)) (by first|rfl|simp only[w31d]),wx65,w67,w69,w71,w73,w75,w77];intro ht; subst ht;simp only[simprocAttr, -Int.reduceNatCast',RR,RB];exact And.intro rfl (fin_ret (by simp only[simprocAttr, -Int.reduceNatCast',R0,fn_out,p192,Rs.ev,take_len_self,h_12,eq_true hlt,hw,w16a,w16b,w18,w20,w22,w24,wx25,w27,w29,w31a,w31b,w31c,w31e,eq_false c32,w63,eq_true c64,takes (α:=Int) l30,take_len (α:=Int) (l:=l30) (n:=(Int.toNat x28)) (by first|rfl|simp only[w31d]),le_of_len (α:=Int) (l:=l30) (n:=(Int.toNat x28)) (by first|rfl|simp only[w31d]),wx65,w67,w69,w71,w73,w75,w77,w31d]))
    |false=>
     rw[if_neg Bool.false_ne_true]at ho;cases ho;simp only[simprocAttr, -Int.reduceNatCast',R0,b192_2,h_12,eq_true hlt,hw,w16a,w16b,w18,w20,w22,w24,wx25,w27,w29,w31a,w31b,w31c,w31e,eq_false c32,w63,eq_true c64,takes (α:=Int) l30,take_len (α:=Int) (l:=l30) (n:=(Int.toNat x28)) (by first|rfl|simp only[w31d]),le_of_len (α:=Int) (l:=l30) (n:=(Int.toNat x28)) (by first|rfl|simp only[w31d]),wx65,w67,w69,w71,w73];intro ht; subst ht;simp only[simprocAttr, -Int.reduceNatCast',RR,RB];exact And.intro rfl (fin_ret (by simp only[simprocAttr, -Int.reduceNatCast',R0,fn_out,p192,Rs.ev,take_len_self,h_12,eq_true hlt,hw,w16a,w16b,w18,w20,w22,w24,wx25,w27,w29,w31a,w31b,w31c,w31e,eq_false c32,w63,eq_true c64,takes (α:=Int) l30,take_len (α:=Int) (l:=l30) (n:=(Int.toNat x28)) (by first|rfl|simp only[w31d]),le_of_len (α:=Int) (l:=l30) (n:=(Int.toNat x28)) (by first|rfl|simp only[w31d]),wx65,w67,w69,w71,w73,w31d]))
   ·rw[if_neg c64]at ho
    obtain⟨x80,gx80,ho⟩:=bS ho;have w81:ans A 165 [V.isl (x26.map Enc.enc),V.isl (l30.map Enc.enc)]=some (V.bool x80):=s165 x26 l30 gx80;cases x80 with
    |true=>
     rw[if_pos rfl]at ho;cases ho;simp only[simprocAttr, -Int.reduceNatCast',R0,b192_2,h_12,eq_true hlt,hw,w16a,w16b,w18,w20,w22,w24,wx25,w27,w29,w31a,w31b,w31c,w31e,eq_false c32,w63,eq_false c64,frzs (α:=Int) l30,take_len (α:=Int) (l:=l30) (n:=(Int.toNat x28)) (by first|rfl|simp only[w31d]),le_of_len (α:=Int) (l:=l30) (n:=(Int.toNat x28)) (by first|rfl|simp only[w31d]),w81];refine And.intro rfl (Exists.intro _ (And.intro rfl ?_));simp only[simprocAttr, -Int.reduceNatCast',R0,h_12,eq_true hlt,hw,w16a,w16b,w18,w20,w22,w24,wx25,w27,w29,w31a,w31b,w31c,w31e,eq_false c32,w63,eq_false c64,frzs (α:=Int) l30,take_len (α:=Int) (l:=l30) (n:=(Int.toNat x28)) (by first|rfl|simp only[w31d]),le_of_len (α:=Int) (l:=l30) (n:=(Int.toNat x28)) (by first|rfl|simp only[w31d]),w81,w31d]
    |false=>
     rw[if_neg Bool.false_ne_true]at ho;cases ho;simp only[simprocAttr, -Int.reduceNatCast',R0,b192_2,h_12,eq_true hlt,hw,w16a,w16b,w18,w20,w22,w24,wx25,w27,w29,w31a,w31b,w31c,w31e,eq_false c32,w63,eq_false c64,frzs (α:=Int) l30,take_len (α:=Int) (l:=l30) (n:=(Int.toNat x28)) (by first|rfl|simp only[w31d]),le_of_len (α:=Int) (l:=l30) (n:=(Int.toNat x28)) (by first|rfl|simp only[w31d]),w81];intro ht; subst ht;simp only[simprocAttr, -Int.reduceNatCast',RR,RB];exact And.intro rfl (fin_ret (by simp only[simprocAttr, -Int.reduceNatCast',R0,fn_out,p192,Rs.ev,take_len_self,h_12,eq_true hlt,hw,w16a,w16b,w18,w20,w22,w24,wx25,w27,w29,w31a,w31b,w31c,w31e,eq_false c32,w63,eq_false c64,frzs (α:=Int) l30,take_len (α:=Int) (l:=l30) (n:=(Int.toNat x28)) (by first|rfl|simp only[w31d]),le_of_len (α:=Int) (l:=l30) (n:=(Int.toNat x28)) (by first|rfl|simp only[w31d]),w81,w31d]))
 ·rintro v33_2 _ e h ⟨k13,rfl,h_12⟩ hge t1 ho
  unfold F192_2_D at ho;cases ho;simp only[simprocAttr, -Int.reduceNatCast',R0,b192_2,h_12,eq_false hge];intro ht; subst ht;refine And.intro rfl (Exists.intro _ (And.intro rfl ?_));simp only[simprocAttr, -Int.reduceNatCast',R0,h_12,eq_false hge]
def I192_3(a0:GContraction)(a1:GComplex)(v25_1:Int)(x87:List (List Int))(v126_3:Int)(s:Unit)(e:Env)(h:Heap):Prop:=
 ∃k90:Nat,h=⟨[(0,none),(0,none)],k90⟩∧e.length=162∧e.at 2=V.iptr [V.isl (a0.Down.map Enc.enc),V.isl (a0.Up.map Enc.enc),V.isl (a0.Back.map Enc.enc)]∧e.at 3=V.iptr [V.int .i64 a1.Prime,V.isl (a1.Dims.map Enc.enc),V.isl (a1.Maps.map Enc.enc)]∧e.at 5=V.int .i64 a1.Prime∧e.at 6=V.int .i64 v25_1∧e.at 24=V.int .i64 (a1.Dims.length:Int)∧e.at 25=V.int .i64 v25_1∧e.at 124=V.isl (x87.map Enc.enc)∧e.at 125=V.int .i64 (x87.length:Int)∧e.at 126=V.int .i64 v126_3
def P192_3(a0:GContraction)(a1:GComplex)(v25_1:Int)(x87:List (List Int))(t:(Unit)⊕Bool)(x:Ex)(e:Env)(h:Heap):Prop:=
 match t with
 | .inl _=> x= .normal∧∃k90:Nat,h=⟨[(0,none),(0,none)],k90⟩∧e.length=162∧e.at 2=V.iptr [V.isl (a0.Down.map Enc.enc),V.isl (a0.Up.map Enc.enc),V.isl (a0.Back.map Enc.enc)]∧e.at 3=V.iptr [V.int .i64 a1.Prime,V.isl (a1.Dims.map Enc.enc),V.isl (a1.Maps.map Enc.enc)]∧e.at 5=V.int .i64 a1.Prime∧e.at 24=V.int .i64 (a1.Dims.length:Int)∧e.at 25=V.int .i64 v25_1
 | .inr r=> x= .ret∧Fin p192 (Enc.enc r) .ret e h
theorem l192_3(a0:GContraction)(a1:GComplex)(v25_1:Int)(x87:List (List Int)){lo:Int}{s:Unit}{t:(Unit)⊕Bool}(hF:forR lo (x87.length:Int) (F192_3_B a0 a1 v25_1 x87) (F192_3_D a0 a1 v25_1 x87) s=some t){e:Env}{h:Heap}(hI:I192_3 a0 a1 v25_1 x87 lo s e h):W A c192_3 e h (P192_3 a0 a1 v25_1 x87 t):=by
 show W A (.block 4 (.loop false b192_3)) e h _;rw[W_block];refine W_forR hF 2 (by obtain⟨_,rfl,_⟩:=hI; rfl) (I192_3 a0 a1 v25_1 x87) hI ?_ ?_
 ·rintro v126_3 _ e h ⟨k90,rfl,h_89⟩ hlt hw o ho
  unfold F192_3_B at ho;obtain⟨x92,gx92,ho⟩:=bS ho;obtain⟨w93a,w93b⟩:=getI_w gx92;obtain⟨x94,gx94,ho⟩:=bS ho;have w95:ans A 207 [(eK a0),(eC a1),V.int .i64 v25_1,V.isl (x92.map Enc.enc)]=some (V.isl (x94.map Enc.enc)):=s207 a0 a1 v25_1 x92 gx94;obtain⟨x96,gx96,ho⟩:=bS ho;have w97:ans A 91 [(eC a1),V.int .i64 v25_1,V.isl (x94.map Enc.enc)]=some (V.isl (x96.map Enc.enc)):=s91 a1 v25_1 x94 gx96;obtain⟨x98,gx98,ho⟩:=bS ho;have w99:ans A 92 [V.isl (x96.map Enc.enc)]=some (V.bool x98):=s92 x96 gx98;cases x98 with
  |true=>
   rw[if_pos rfl]at ho;obtain⟨x100,gx100,ho⟩:=bS ho;have w101:ans A 175 [(eK a0),(eC a1),V.int .i64 v25_1,V.isl (x94.map Enc.enc)]=some (V.isl (x100.map Enc.enc)):=s175 a0 a1 v25_1 x94 gx100;obtain⟨x102,gx102,ho⟩:=bS ho;have w103:ans A 165 [V.isl (x100.map Enc.enc),V.isl (x92.map Enc.enc)]=some (V.bool x102):=s165 x100 x92 gx102;cases x102 with
   |true=>
    rw[if_pos rfl]at ho;obtain⟨x104,gx104,ho⟩:=bS ho;have w105:ans A 194 [(eK a0),(eC a1),V.int .i64 v25_1,V.isl (x94.map Enc.enc)]=some (V.isl (x104.map Enc.enc)):=s194 a0 a1 v25_1 x94 gx104;obtain⟨x106,gx106,ho⟩:=bS ho;have w107:ans A 92 [V.isl (x104.map Enc.enc)]=some (V.bool x106):=s92 x104 gx106;cases x106 with
    |true=>
     rw[if_pos rfl]at ho;cases ho;simp only[simprocAttr,R0,b192_3,h_89,eq_true hlt,hw,w93a,w93b,w95,w97,w99,w101,w103,w105,w107];refine And.intro rfl (Exists.intro _ (And.intro rfl ?_));simp only[simprocAttr,R0,h_89,eq_true hlt,hw,w93a,w93b,w95,w97,w99,w101,w103,w105,w107]
    |false=>
     rw[if_neg Bool.false_ne_true]at ho;cases ho;simp only[simprocAttr,R0,b192_3,h_89,eq_true hlt,hw,w93a,w93b,w95,w97,w99,w101,w103,w105,w107];intro ht; subst ht;simp only[simprocAttr,RR,RB];exact And.intro rfl (fin_ret (by simp only[simprocAttr,R0,fn_out,p192,Rs.ev,take_len_self,h_89,eq_true hlt,hw,w93a,w93b,w95,w97,w99,w101,w103,w105,w107]))
   |false=>
    rw[if_neg Bool.false_ne_true]at ho;cases ho;simp only[simprocAttr,R0,b192_3,h_89,eq_true hlt,hw,w93a,w93b,w95,w97,w99,w101,w103];intro ht; subst ht;simp only[simprocAttr,RR,RB];exact And.intro rfl (fin_ret (by simp only[simprocAttr,R0,fn_out,p192,Rs.ev,take_len_self,h_89,eq_true hlt,hw,w93a,w93b,w95,w97,w99,w101,w103]))
  |false=>
   rw[if_neg Bool.false_ne_true]at ho;cases ho;simp only[simprocAttr,R0,b192_3,h_89,eq_true hlt,hw,w93a,w93b,w95,w97,w99];intro ht; subst ht;simp only[simprocAttr,RR,RB];exact And.intro rfl (fin_ret (by simp only[simprocAttr,R0,fn_out,p192,Rs.ev,take_len_self,h_89,eq_true hlt,hw,w93a,w93b,w95,w97,w99]))
 ·rintro v126_3 _ e h ⟨k90,rfl,h_89⟩ hge t1 ho
  unfold F192_3_D at ho;cases ho;simp only[simprocAttr,R0,b192_3,h_89,eq_false hge];intro ht; subst ht;refine And.intro rfl (Exists.intro _ (And.intro rfl ?_));simp only[simprocAttr,R0,h_89,eq_false hge]
def I192_1(a0:GContraction)(a1:GComplex)(v25_1:Int)(s:Unit)(e:Env)(h:Heap):Prop:=
 ∃k6:Nat,h=⟨[(0,none),(0,none)],k6⟩∧e.length=162∧e.at 2=V.iptr [V.isl (a0.Down.map Enc.enc),V.isl (a0.Up.map Enc.enc),V.isl (a0.Back.map Enc.enc)]∧e.at 3=V.iptr [V.int .i64 a1.Prime,V.isl (a1.Dims.map Enc.enc),V.isl (a1.Maps.map Enc.enc)]∧e.at 5=V.int .i64 a1.Prime∧e.at 24=V.int .i64 (a1.Dims.length:Int)∧e.at 25=V.int .i64 v25_1
def P192_1(a0:GContraction)(a1:GComplex)(t:(Unit)⊕Bool)(x:Ex)(e:Env)(h:Heap):Prop:=
 match t with
 | .inl _=> x= .normal∧∃k6:Nat,h=⟨[(0,none),(0,none)],k6⟩∧e.length=162
 | .inr r=> x= .ret∧Fin p192 (Enc.enc r) .ret e h
theorem l192_1(a0:GContraction)(a1:GComplex){lo:Int}{s:Unit}{t:(Unit)⊕Bool}(hF:forR lo (a1.Dims.length:Int) (F192_1_B a0 a1) (F192_1_D a0 a1) s=some t){e:Env}{h:Heap}(hI:I192_1 a0 a1 lo s e h):W A c192_1 e h (P192_1 a0 a1 t):=by
 show W A (.block 0 (.loop false b192_1)) e h _;rw[W_block];refine W_forR hF 2 (by obtain⟨_,rfl,_⟩:=hI; rfl) (I192_1 a0 a1) hI ?_ ?_
 ·rintro v25_1 _ e h ⟨k6,rfl,h_5⟩ hlt hw o ho
  unfold F192_1_B at ho;obtain⟨x8,gx8,ho⟩:=bS ho;have w9:ans A 102 [(eC a1),V.int .i64 v25_1]=some (V.int .i64 x8):=s102 a1 v25_1 gx8;obtain⟨x10,gx10,ho⟩:=bS ho;have w11:ans A 124 [V.int .i64 x8]=some (V.isl (x10.map Enc.enc)):=s124 x8 gx10;obtain⟨t82,gt82,ho⟩:=bS ho;rcases t82 with _|r110
  ·dsimp only at ho
   simp only[simprocAttr,R0,b192_1,h_5,eq_true hlt,hw,w9,w11];refine W.mono (l192_2 a0 a1 v25_1 x10 gt82 (Exists.intro _ (And.intro rfl ?_))) ?_
   ·simp only[simprocAttr,R0,h_5,eq_true hlt,hw,w9,w11]
   rintro _ e _ ⟨rfl,k13,rfl,h_14⟩;obtain⟨x83,gx83,ho⟩:=bS ho;obtain⟨w84a,w84b⟩:=getI_w gx83;have w86:ans A 89 [V.isl (x83.map Enc.enc)]=some (V.int .i64 (x83.length:Int)):=s89 x83 rfl;obtain⟨x87,gx87,ho⟩:=bS ho;have w88:ans A 124 [V.int .i64 (x83.length:Int)]=some (V.isl (x87.map Enc.enc)):=s124 (x83.length:Int) gx87;obtain⟨t108,gt108,ho⟩:=bS ho;rcases t108 with _|r109
   ·dsimp only at ho
    simp only[simprocAttr,R0,h_14,eq_true hlt,hw,w84a,w84b,w86,w88];refine W.mono (l192_3 a0 a1 v25_1 x87 gt108 (Exists.intro _ (And.intro rfl ?_))) ?_
    ·simp only[simprocAttr,R0,h_14,eq_true hlt,hw,w84a,w84b,w86,w88]
    rintro _ e _ ⟨rfl,k90,rfl,h_91⟩;cases ho;simp only[simprocAttr,R0,h_91,eq_true hlt,hw];refine And.intro rfl (Exists.intro _ (And.intro rfl ?_));simp only[simprocAttr,R0,h_91,eq_true hlt,hw]
   ·dsimp only at ho
    cases ho;simp only[simprocAttr,R0,h_14,eq_true hlt,hw,w84a,w84b,w86,w88];refine W.mono (l192_3 a0 a1 v25_1 x87 gt108 (Exists.intro _ (And.intro rfl ?_))) ?_
    ·simp only[simprocAttr,R0,h_14,eq_true hlt,hw,w84a,w84b,w86,w88]
    rintro _ e h ⟨rfl,hq⟩;simp only[simprocAttr,RR,RB];intro ht; subst ht;simp only[simprocAttr,RR,RB];exact And.intro rfl hq
  ·dsimp only at ho
   cases ho;simp only[simprocAttr,R0,b192_1,h_5,eq_true hlt,hw,w9,w11];refine W.mono (l192_2 a0 a1 v25_1 x10 gt82 (Exists.intro _ (And.intro rfl ?_))) ?_
   ·simp only[simprocAttr,R0,h_5,eq_true hlt,hw,w9,w11]
   rintro _ e h ⟨rfl,hq⟩;simp only[simprocAttr,RR,RB];intro ht; subst ht;simp only[simprocAttr,RR,RB];exact And.intro rfl hq
 ·rintro v25_1 _ e h ⟨k6,rfl,h_5⟩ hge t1 ho
  unfold F192_1_D at ho;cases ho;simp only[simprocAttr,R0,b192_1,h_5,eq_false hge];intro ht; subst ht;refine And.intro rfl (Exists.intro _ (And.intro rfl ?_));simp only[simprocAttr,R0,h_5,eq_false hge]
theorem s192(a0:GContraction)(a1:GComplex){r:Bool}(hF:F192 a0 a1=some r):ans A 192 [(eK a0),(eC a1)]=some (Enc.enc r):=by
 refine ans_of (f:=p192) rfl rfl rfl fun e hl he=>?_;have h0_0:e.at 0=(eK a0):=he 0 _ rfl;have h1_0:e.at 1=(eC a1):=he 1 _ rfl;have hl_0:e.length=162:=hl;clear he hl;have h_0:=And.intro hl_0 (And.intro h0_0 h1_0);show W A b192 e ⟨[],0⟩ _;unfold F192 at hF;obtain⟨x1,gx1,hF⟩:=bS hF;have w2:ans A 206 [(eK a0),(eC a1)]=some (V.bool x1):=s206 a0 a1 gx1;cases x1 with
 |true=>
  rw[if_pos rfl]at hF;have w4:ans A 73 [V.isl (a1.Dims.map Enc.enc)]=some (V.int .i64 (a1.Dims.length:Int)):=s73 a1.Dims rfl;obtain⟨t111,gt111,hF⟩:=bS hF;rcases t111 with _|r112
  ·dsimp only at hF
   simp only[simprocAttr,R0,b192,h_0,w2,w4];refine W.mono (l192_1 a0 a1 gt111 (Exists.intro _ (And.intro rfl ?_))) ?_
   ·simp only[simprocAttr,R0,h_0,w2,w4]
   rintro _ e _ ⟨rfl,k6,rfl,hl_7⟩;cases hF;simp only[simprocAttr,R0,hl_7];exact fin_ret (by simp only[simprocAttr,R0,fn_out,p192,Rs.ev,take_len_self,hl_7])
  ·dsimp only at hF
   cases hF;simp only[simprocAttr,R0,b192,h_0,w2,w4];refine W.mono (l192_1 a0 a1 gt111 (Exists.intro _ (And.intro rfl ?_))) ?_
   ·simp only[simprocAttr,R0,h_0,w2,w4]
   rintro _ e h ⟨rfl,hq⟩;simp only[simprocAttr,RR,RB];exact hq
 |false=>
  rw[if_neg Bool.false_ne_true]at hF;cases hF;simp only[simprocAttr,R0,b192,h_0,w2];exact fin_ret (by simp only[simprocAttr,R0,fn_out,p192,Rs.ev,take_len_self,h_0,w2])
def F174(a0:GContraction)(a1:GComplex)(a2:GComplex)(a3:Int)(a4:List Int):Option (List Int):=
 (F86 a1).bind fun x1=>
 if x1≤a3 then
  (F102 a1 a3).bind fun x4=>
  (mkL 8 x4 0).bind fun l6=>
  some l6
 else
  (chk (a3+1)).bind fun x8=>
  (F194 a0 a1 a3 a4).bind fun x9=>
  (F91 a2 x8 x9).bind fun x11=>
  some x11
theorem s174(a0:GContraction)(a1:GComplex)(a2:GComplex)(a3:Int)(a4:List Int){r:List Int}(hF:F174 a0 a1 a2 a3 a4=some r):ans A 174 [(eK a0),(eC a1),(eC a2),V.int .i64 a3,V.isl (a4.map Enc.enc)]=some (Enc.enc r):=by
 refine ans_of (f:=p174) rfl rfl rfl fun e hl he=>?_;have h0_0:e.at 0=(eK a0):=he 0 _ rfl;have h1_0:e.at 1=(eC a1):=he 1 _ rfl;have h2_0:e.at 2=(eC a2):=he 2 _ rfl;have h3_0:e.at 3=V.int .i64 a3:=he 3 _ rfl;have h4_0:e.at 4=V.isl (a4.map Enc.enc):=he 4 _ rfl;have hl_0:e.length=28:=hl;clear he hl;show W A b174 e ⟨[],0⟩ _;unfold F174 at hF;obtain⟨x1,gx1,hF⟩:=bS hF;have w2:ans A 86 [(eC a1)]=some (V.int .i64 x1):=s86 a1 gx1;by_cases c3:x1≤a3
 ·rw[if_pos c3]at hF
  obtain⟨x4,gx4,hF⟩:=bS hF;have w5:ans A 102 [(eC a1),V.int .i64 a3]=some (V.int .i64 x4):=s102 a1 a3 gx4;obtain⟨l6,gl6,hF⟩:=bS hF;obtain⟨w7a,w7b,w7c,w7d,w7e⟩:=mkL_w gl6;replace w7e:(List.replicate (Int.toNat x4) [V.int .i64 0]).flatten=List.map Enc.enc l6:=w7e;have hE:=Option.some.inj hF; subst hE;simp only[simprocAttr, -Int.reduceNatCast',R0,b174,hl_0,h0_0,h1_0,h2_0,h3_0,h4_0,w2,eq_true c3,w5,w7a,w7b,w7c,w7e];exact fin_ret (by simp only[simprocAttr, -Int.reduceNatCast',R0,fn_out,p174,Rs.ev,take_len_self,hl_0,h0_0,h1_0,h2_0,h3_0,h4_0,w2,eq_true c3,w5,w7a,w7b,w7c,w7e,frzs (α:=Int) l6,takes (α:=Int) l6,take_len (α:=Int) (l:=l6) (n:=(Int.toNat x4)) (by first|rfl|simp only[w7d]),w7d])
 ·rw[if_neg c3]at hF
  obtain⟨x8,gx8,hF⟩:=bS hF;have wx8:=chk_w gx8;obtain⟨x9,gx9,hF⟩:=bS hF;have w10:ans A 194 [(eK a0),(eC a1),V.int .i64 a3,V.isl (a4.map Enc.enc)]=some (V.isl (x9.map Enc.enc)):=s194 a0 a1 a3 a4 gx9;obtain⟨x11,gx11,hF⟩:=bS hF;have w12:tans A 91 [1] [(eC a2),V.int .i64 x8,V.isl (x9.map Enc.enc)]=some (V.isl (x11.map Enc.enc)):=t91 a2 x8 x9 gx11;have w12t:=thaw_one (α:=Int) x11;have hE:=Option.some.inj hF; subst hE;simp only[simprocAttr, -Int.reduceNatCast',R0,b174,hl_0,h0_0,h1_0,h2_0,h3_0,h4_0,w2,eq_false c3,wx8,w10,w12,w12t];exact fin_ret (by simp only[simprocAttr, -Int.reduceNatCast',R0,fn_out,p174,Rs.ev,take_len_self,hl_0,h0_0,h1_0,h2_0,h3_0,h4_0,w2,eq_false c3,wx8,w10,w12,w12t,frzs (α:=Int) x11,takes (α:=Int) x11])
theorem t174(a0:GContraction)(a1:GComplex)(a2:GComplex)(a3:Int)(a4:List Int){r:List Int}(hF:F174 a0 a1 a2 a3 a4=some r):tans A 174 [1] [(eK a0),(eC a1),(eC a2),V.int .i64 a3,V.isl (a4.map Enc.enc)]=some (Enc.enc r):=by
 refine tans_of (f:=p174) rfl rfl rfl fun e hl he=>?_;have h0_0:e.at 0=(eK a0):=he 0 _ rfl;have h1_0:e.at 1=(eC a1):=he 1 _ rfl;have h2_0:e.at 2=(eC a2):=he 2 _ rfl;have h3_0:e.at 3=V.int .i64 a3:=he 3 _ rfl;have h4_0:e.at 4=V.isl (a4.map Enc.enc):=he 4 _ rfl;have hl_0:e.length=28:=hl;clear he hl;show W A b174 e ⟨[],0⟩ _;unfold F174 at hF;obtain⟨x1,gx1,hF⟩:=bS hF;have w2:ans A 86 [(eC a1)]=some (V.int .i64 x1):=s86 a1 gx1;by_cases c3:x1≤a3
 ·rw[if_pos c3]at hF
  obtain⟨x4,gx4,hF⟩:=bS hF;have w5:ans A 102 [(eC a1),V.int .i64 a3]=some (V.int .i64 x4):=s102 a1 a3 gx4;obtain⟨l6,gl6,hF⟩:=bS hF;obtain⟨w7a,w7b,w7c,w7d,w7e⟩:=mkL_w gl6;replace w7e:(List.replicate (Int.toNat x4) [V.int .i64 0]).flatten=List.map Enc.enc l6:=w7e;have hE:=Option.some.inj hF; subst hE;simp only[simprocAttr, -Int.reduceNatCast',R0,b174,hl_0,h0_0,h1_0,h2_0,h3_0,h4_0,w2,eq_true c3,w5,w7a,w7b,w7c,w7e];exact tfin_ret (by simp only[simprocAttr, -Int.reduceNatCast',R0,fn_out,p174,Rs.ev,take_len_self,hl_0,h0_0,h1_0,h2_0,h3_0,h4_0,w2,eq_true c3,w5,w7a,w7b,w7c,w7e,frzs (α:=Int) l6,takes (α:=Int) l6,take_len (α:=Int) (l:=l6) (n:=(Int.toNat x4)) (by first|rfl|simp only[w7d]),w7d])
 ·rw[if_neg c3]at hF
  obtain⟨x8,gx8,hF⟩:=bS hF;have wx8:=chk_w gx8;obtain⟨x9,gx9,hF⟩:=bS hF;have w10:ans A 194 [(eK a0),(eC a1),V.int .i64 a3,V.isl (a4.map Enc.enc)]=some (V.isl (x9.map Enc.enc)):=s194 a0 a1 a3 a4 gx9;obtain⟨x11,gx11,hF⟩:=bS hF;have w12:tans A 91 [1] [(eC a2),V.int .i64 x8,V.isl (x9.map Enc.enc)]=some (V.isl (x11.map Enc.enc)):=t91 a2 x8 x9 gx11;have w12t:=thaw_one (α:=Int) x11;have hE:=Option.some.inj hF; subst hE;simp only[simprocAttr, -Int.reduceNatCast',R0,b174,hl_0,h0_0,h1_0,h2_0,h3_0,h4_0,w2,eq_false c3,wx8,w10,w12,w12t];exact tfin_ret (by simp only[simprocAttr, -Int.reduceNatCast',R0,fn_out,p174,Rs.ev,take_len_self,hl_0,h0_0,h1_0,h2_0,h3_0,h4_0,w2,eq_false c3,wx8,w10,w12,w12t,frzs (α:=Int) x11,takes (α:=Int) x11])
def F212_1_B(a0:List (List (List Int)))(f1:(List (List Int))→Option Bool)(v8_1:Int)(s:Unit):Option ((Unit)⊕((Unit)⊕Int)):=
 (getI a0 v8_1).bind fun x4=>
(f1 x4).bind fun x6=>
if x6=true then
 some (.inr (.inr v8_1))
else
 some (.inl ())
def F212_1_D(a0:List (List (List Int)))(f1:(List (List Int))→Option Bool)(v8_1:Int)(s:Unit):Option ((Unit)⊕Int):=
 some (.inl ())
def F212(a0:List (List (List Int)))(f1:(List (List Int))→Option Bool):Option Int:=
 (forR 0 (a0.length:Int) (F212_1_B a0 f1) (F212_1_D a0 f1) ()).bind fun t8=> match t8 with
  | .inl _=>
   some (-1)
  | .inr r9=> some r9
def I212_1(a0:List (List (List Int)))(f1:(List (List Int))→Option Bool)(vf1:V)(v8_1:Int)(s:Unit)(e:Env)(h:Heap):Prop:=
 ∃k2:Nat,h=⟨[],k2⟩∧e.length=19∧e.at 0=V.isl (a0.map Enc.enc)∧e.at 1=vf1∧e.at 7=V.int .i64 (a0.length:Int)∧e.at 8=V.int .i64 v8_1
def P212_1(a0:List (List (List Int)))(f1:(List (List Int))→Option Bool)(vf1:V)(t:(Unit)⊕Int)(x:Ex)(e:Env)(h:Heap):Prop:=
 match t with
 | .inl _=> x= .normal∧∃k2:Nat,h=⟨[],k2⟩∧e.length=19
 | .inr r=> x= .ret∧Fin p212 (Enc.enc r) .ret e h
theorem l212_1(a0:List (List (List Int)))(f1:(List (List Int))→Option Bool)(vf1:V)(hf1:Clo1 A vf1 f1){lo:Int}{s:Unit}{t:(Unit)⊕Int}(hF:forR lo (a0.length:Int) (F212_1_B a0 f1) (F212_1_D a0 f1) s=some t){e:Env}{h:Heap}(hI:I212_1 a0 f1 vf1 lo s e h):W A c212_1 e h (P212_1 a0 f1 vf1 t):=by
 obtain⟨g_f1,fs_f1,cs_f1,hv_f1,hc_f1⟩:=id hf1;show W A (.block 0 (.loop false b212_1)) e h _;rw[W_block];refine W_forR hF 0 (by obtain⟨_,rfl,_⟩:=hI; rfl) (I212_1 a0 f1 vf1) hI ?_ ?_
 ·rintro v8_1 _ e h ⟨k2,rfl,h_1⟩ hlt hw o ho
  unfold F212_1_B at ho;obtain⟨x4,gx4,ho⟩:=bS ho;obtain⟨w5a,w5b⟩:=getI_w gx4;obtain⟨x6,gx6,ho⟩:=bS ho;have w7a:∀h,mapO (frz h 16) (fs_f1++[V.isl (x4.map Enc.enc)]++cs_f1)=some (fs_f1++[V.isl (x4.map Enc.enc)]++cs_f1):=fun h=> hc_f1.zf x4 h;have w7b:List.all (fs_f1++[V.isl (x4.map Enc.enc)]++cs_f1) (refless 16)=true:=hc_f1.zr x4;have w7c:ans A g_f1 (fs_f1++[V.isl (x4.map Enc.enc)]++cs_f1)=some (V.bool x6):=hc_f1.ka x4 _ gx6;cases x6 with
  |true=>
   rw[if_pos rfl]at ho;cases ho;simp only[simprocAttr,R0,b212_1,h_1,eq_true hlt,hw,w5a,w5b,hv_f1,w7a,w7b,w7c];intro ht; subst ht;simp only[simprocAttr,RR,RB];exact And.intro rfl (fin_ret (by simp only[simprocAttr,R0,fn_out,p212,Rs.ev,take_len_self,h_1,eq_true hlt,hw,w5a,w5b,hv_f1,w7a,w7b,w7c]))
  |false=>
   rw[if_neg Bool.false_ne_true]at ho;cases ho;simp only[simprocAttr,R0,b212_1,h_1,eq_true hlt,hw,w5a,w5b,hv_f1,w7a,w7b,w7c];refine And.intro rfl (Exists.intro _ (And.intro rfl ?_));simp only[simprocAttr,R0,h_1,eq_true hlt,hw,w5a,w5b,hv_f1,w7a,w7b,w7c]
 ·rintro v8_1 _ e h ⟨k2,rfl,h_1⟩ hge t1 ho
  unfold F212_1_D at ho;cases ho;simp only[simprocAttr,R0,b212_1,h_1,eq_false hge];intro ht; subst ht;refine And.intro rfl (Exists.intro _ (And.intro rfl ?_));simp only[simprocAttr,R0,h_1,eq_false hge]
theorem s212(a0:List (List (List Int)))(f1:(List (List Int))→Option Bool){vf1:V}(hf1:Clo1 A vf1 f1){r:Int}(hF:F212 a0 f1=some r):ans A 212 [V.isl (a0.map Enc.enc),vf1]=some (Enc.enc r):=by
 refine ans_of (f:=p212) rfl rfl rfl fun e hl he=>?_;have h0_0:e.at 0=V.isl (a0.map Enc.enc):=he 0 _ rfl;have h1_0:e.at 1=vf1:=he 1 _ rfl;obtain⟨g_f1,fs_f1,cs_f1,hv_f1,hc_f1⟩:=id hf1;have hl_0:e.length=19:=hl;clear he hl;have h_0:=And.intro hl_0 (And.intro h0_0 h1_0);show W A b212 e ⟨[],0⟩ _;unfold F212 at hF;obtain⟨t8,gt8,hF⟩:=bS hF;rcases t8 with _|r9
 ·dsimp only at hF
  simp only[simprocAttr,R0,b212,h_0];refine W.mono (l212_1 a0 f1 vf1 hf1 gt8 (Exists.intro _ (And.intro rfl ?_))) ?_
  ·simp only[simprocAttr,R0,h_0]
  rintro _ e _ ⟨rfl,k2,rfl,hl_3⟩;cases hF;simp only[simprocAttr,R0,hl_3];exact fin_ret (by simp only[simprocAttr,R0,fn_out,p212,Rs.ev,take_len_self,hl_3])
 ·dsimp only at hF
  cases hF;simp only[simprocAttr,R0,b212,h_0];refine W.mono (l212_1 a0 f1 vf1 hf1 gt8 (Exists.intro _ (And.intro rfl ?_))) ?_
  ·simp only[simprocAttr,R0,h_0]
  rintro _ e h ⟨rfl,hq⟩;simp only[simprocAttr,RR,RB];exact hq
def F208(a0:List (List (List Int)))(f1:(List (List Int))→Option Bool):Option Bool:=
 (F212 a0 f1).bind fun x1=>
 some (decide (0≤x1))
theorem s208(a0:List (List (List Int)))(f1:(List (List Int))→Option Bool){vf1:V}(hf1:Clo1 A vf1 f1){r:Bool}(hF:F208 a0 f1=some r):ans A 208 [V.isl (a0.map Enc.enc),vf1]=some (Enc.enc r):=by
 refine ans_of (f:=p208) rfl rfl rfl fun e hl he=>?_;have h0_0:e.at 0=V.isl (a0.map Enc.enc):=he 0 _ rfl;have h1_0:e.at 1=vf1:=he 1 _ rfl;obtain⟨g_f1,fs_f1,cs_f1,hv_f1,hc_f1⟩:=id hf1;have hl_0:e.length=9:=hl;clear he hl;show W A b208 e ⟨[],0⟩ _;unfold F208 at hF;obtain⟨x1,gx1,hF⟩:=bS hF;have w2:ans A 212 [V.isl (a0.map Enc.enc),vf1]=some (V.int .i64 x1):=s212 a0 f1 hf1 gx1;cases hF;simp only[simprocAttr,R0,b208,hl_0,h0_0,h1_0,hf1.fz,hf1.rl,w2];exact fin_ret (by simp only[simprocAttr,R0,fn_out,p208,Rs.ev,take_len_self,hl_0,h0_0,h1_0,hf1.fz,hf1.rl,w2])
def F213(a0:List Int):Option Bool:=
 (F92 a0).bind fun x1=>
 some (!x1)
theorem s213(a0:List Int){r:Bool}(hF:F213 a0=some r):ans A 213 [V.isl (a0.map Enc.enc)]=some (Enc.enc r):=by
 refine ans_of (f:=p213) rfl rfl rfl fun e hl he=>?_;have h0_0:e.at 0=V.isl (a0.map Enc.enc):=he 0 _ rfl;have hl_0:e.length=6:=hl;clear he hl;show W A b213 e ⟨[],0⟩ _;unfold F213 at hF;obtain⟨x1,gx1,hF⟩:=bS hF;have w2:ans A 92 [V.isl (a0.map Enc.enc)]=some (V.bool x1):=s92 a0 gx1;cases hF;simp only[simprocAttr,R0,b213,hl_0,h0_0,w2];exact fin_ret (by simp only[simprocAttr,R0,fn_out,p213,Rs.ev,take_len_self,hl_0,h0_0,w2])
def F209(a0:List (List Int)):Option Bool:=
 (F117 a0 (fun x=> F213 x)).bind fun x1=>
 some x1
theorem s209(a0:List (List Int)){r:Bool}(hF:F209 a0=some r):ans A 209 [V.isl (a0.map Enc.enc)]=some (Enc.enc r):=by
 refine ans_of (f:=p209) rfl rfl rfl fun e hl he=>?_;have h0_0:e.at 0=V.isl (a0.map Enc.enc):=he 0 _ rfl;have hl_0:e.length=5:=hl;clear he hl;show W A b209 e ⟨[],0⟩ _;unfold F209 at hF;obtain⟨x1,gx1,hF⟩:=bS hF;have w2:ans A 117 [V.isl (a0.map Enc.enc),V.fn 213 [] []]=some (V.bool x1):=s117 a0 (fun x=> F213 x) (Clo1.of (by intro h f; simp only[RZ,mapO]) (by intro h f; simp only[RZ,mapO]) (by intro f; simp only[RZ,RB]) (by intro f; simp only[RZ,RB]) (fun x _ hr=> s213 x hr)) gx1;cases hF;simp only[simprocAttr,R0,b209,hl_0,h0_0,w2];exact fin_ret (by simp only[simprocAttr,R0,fn_out,p209,Rs.ev,take_len_self,hl_0,h0_0,w2])
def F193_1_B(x:GComplex)(i:Int)(s:List (List (List Int))):Option (List (List (List Int))⊕List (List (List Int))):=(getI x.Dims i).bind fun d=>(F124 d).bind fun u=>(app 24 s [u]).bind fun r=> some (.inl r)
def F193_1_D(i:Int)(s:List (List (List Int))):Option (List (List (List Int))):=some s
def F193_4_B(c:GContraction)(x y:GComplex)(n:Int)(i:Int)(l:List (List Int)):Option (List (List Int)⊕List (List Int)):=(getI l i).bind fun v=>(F174 c x y n v).bind fun w=>(setI l i w).bind fun l'=> some (.inl l')
def F193_4_D(i:Int)(l:List (List Int)):Option (List (List Int)):=some l
def F193_3_B(c:GContraction)(x y:GComplex)(n:Int)(s:List (List (List Int))):Option (List (List (List Int))⊕List (List (List Int))):=(getI s n).bind fun l=>(forR 0 (l.length:Int) (F193_4_B c x y n) F193_4_D l).bind fun l'=>(setI s n l').bind fun s'=> some (.inl s')
def F193_3_D(n:Int)(s:List (List (List Int))):Option (List (List (List Int))):=some s
def F193_2_B(c:GContraction)(x y:GComplex)(k:Int)(s:List (List (List Int))):Option (List (List (List Int))⊕(Unit⊕T2 Int Bool)):=(F208 s fun l=> F209 l).bind fun b=> if b=true then(forR 0 (s.length:Int) (F193_3_B c x y) F193_3_D s).bind fun s'=> some (.inl s')else some (.inr (.inr ⟨k,true⟩))
def F193_2_D(k:Int)(s:List (List (List Int))):Option (Unit⊕T2 Int Bool):=some (.inl ())
def F193(a0:GContraction)(a1 a2:GComplex):Option (T2 Int Bool):=(forR 0 (a1.Dims.length:Int) (F193_1_B a1) F193_1_D []).bind fun s=>(forR 0 10 (F193_2_B a0 a1 a2) F193_2_D s).bind fun t=> match t with
 | .inl _=> some ⟨0,false⟩
 | .inr r=> some r
theorem swap193{α:Type}[Enc α][Deep α][One α]{h:Heap}{v:V}{l:List α}{K:Ks}{i:Nat}{a:α}(r:Deep.rep h v l K)(hi:l[i]? =some a):∃key uid vs x,∃K1 K2:Ks,v= .sl key uid 0 l.length 1∧h.ents[key]? =some (uid,some vs)∧vs[i]? =some x∧vs.length=l.length∧Deep.rep h x a K1∧(∀k,K1 k→¬K2 k∧k≠key)∧¬K2 key∧(∀k,K k↔k=key∨K1 k∨K2 k)∧
  ∀ (h':Heap) (x':V) (a':α) (K1':Ks),Deep.rep h' x' a' K1'→h'.ents[key]? =some (uid,some (vs.set i x'))→(∀k,K2 k→h'.ents[k]? =h.ents[k]?)→(∀k,K1' k→¬K2 k∧k≠key)→Deep.rep h' v (l.set i a') (fun k=> k=key∨K1' k∨K2 k):=by
 obtain⟨hlt,rfl⟩:=List.getElem?_eq_some_iff.1 hi;rcases r with⟨rfl,rfl,_⟩|⟨key,uid,vs,K',rfl,h2,h3,h4,h5⟩
 ·exact absurd hlt (by simp)
 ·obtain⟨x,K1,K2,f1,f2,f3,f4,f5⟩:=h3.focus hlt
  refine⟨key,uid,vs,x,K1,K2,rfl,h2,f1,h3.len,f2,fun k q=>⟨f3 k q,fun e=> h4 ((f4 key).2 (.inl (e▸q)))⟩,fun q=> h4 ((f4 key).2 (.inr q)),fun k=>(h5 k).trans (or_congr_right (f4 k)),fun h' x' a' K1' q1 q2 q3 q4=>?_⟩;have e:(V.sl key uid 0 l.length 1)= .sl key uid 0 (l.set i a').length 1:=by rw[List.length_set]
  rw[e];exact .inr ⟨key,uid,_,fun k=> K1' k∨K2 k,rfl,q2,f5 h' x' a' K1' _ q1 q3 (fun k q=>(q4 k q).1) (fun k=> Iff.rfl),fun q=> q.elim (fun q=>(q4 key q).2 rfl) (fun q=> h4 ((f4 key).2 (.inr q))),fun k=> Iff.rfl⟩
theorem l193_4(a0:GContraction)(a1 a2:GComplex){n:Int}{l l':List (List Int)}(hF:forR 0 (l.length:Int) (F193_4_B a0 a1 a2 n) F193_4_D l=some l'){Z:Ks}{h0:Heap}{e:Env}{v8 x1 z10 z11 z37 z38 z39:V}{K1:Ks}(hr:Deep.rep h0 x1 l K1)(hz:∀k,K1 k→¬Z k)(hzb:∀k,Z k→k < h0.ents.length)
  (hl:e.length=63) (h3:e.at 3=V.iptr [V.isl (a0.Down.map Enc.enc),V.isl (a0.Up.map Enc.enc),V.isl (a0.Back.map Enc.enc)]) (h4:e.at 4=V.iptr [V.int .i64 a1.Prime,V.isl (a1.Dims.map Enc.enc),V.isl (a1.Maps.map Enc.enc)]) (h5:e.at 5=V.iptr [V.int .i64 a2.Prime,V.isl (a2.Dims.map Enc.enc),V.isl (a2.Maps.map Enc.enc)]) (h8:e.at 8=v8) (h11:e.at 11=z11) (h12:e.at 12=V.int .i64 n) (h13:e.at 13=x1) (h30:e.at 30=z10) (h37:e.at 37=z37) (h38:e.at 38=z38) (h39:e.at 39=z39) (h44:e.at 44=x1) (h45:e.at 45=V.int .i64 (l.length:Int)) (h46:e.at 46=V.int .i64 0):
  W A (.block 6 (.loop true b193_4)) e h0 (fun x e h=> x= .normal∧(∃K1:Ks,Deep.rep h x1 l' K1∧∀k,K1 k→¬Z k)∧(∀k,Z k→h.ents[k]? =h0.ents[k]?)∧h0.ents.length≤h.ents.length∧e.length=63∧e.at 3=V.iptr [V.isl (a0.Down.map Enc.enc),V.isl (a0.Up.map Enc.enc),V.isl (a0.Back.map Enc.enc)]∧e.at 4=V.iptr [V.int .i64 a1.Prime,V.isl (a1.Dims.map Enc.enc),V.isl (a1.Maps.map Enc.enc)]∧e.at 5=V.iptr [V.int .i64 a2.Prime,V.isl (a2.Dims.map Enc.enc),V.isl (a2.Maps.map Enc.enc)]∧e.at 8=v8∧e.at 11=z11∧e.at 30=z10∧e.at 37=z37∧e.at 38=z38∧e.at 39=z39):=by
 rw[W_block];refine W_forR hF _ rfl (fun i s e h=> s.length=l.length∧(∃K1:Ks,Deep.rep h x1 s K1∧∀k,K1 k→¬Z k)∧(∀k,Z k→h.ents[k]? =h0.ents[k]?)∧h0.ents.length≤h.ents.length∧e.length=63∧e.at 3=V.iptr [V.isl (a0.Down.map Enc.enc),V.isl (a0.Up.map Enc.enc),V.isl (a0.Back.map Enc.enc)]∧e.at 4=V.iptr [V.int .i64 a1.Prime,V.isl (a1.Dims.map Enc.enc),V.isl (a1.Maps.map Enc.enc)]∧e.at 5=V.iptr [V.int .i64 a2.Prime,V.isl (a2.Dims.map Enc.enc),V.isl (a2.Maps.map Enc.enc)]∧e.at 8=v8∧e.at 11=z11∧e.at 12=V.int .i64 n∧e.at 13=x1∧e.at 30=z10∧e.at 37=z37∧e.at 38=z38∧e.at 39=z39∧e.at 44=x1∧e.at 45=V.int .i64 (l.length:Int)∧e.at 46=V.int .i64 i) ⟨rfl,⟨K1,hr,hz⟩,fun _ _=> rfl,Nat.le_refl _,hl,h3,h4,h5,h8,h11,h12,h13,h30,h37,h38,h39,h44,h45,h46⟩ ?_ ?_
 ·clear hr hz hl h3 h4 h5 h8 h11 h12 h13 h30 h37 h38 h39 h44 h45 h46
  rintro i s e ⟨E,c⟩ ⟨hsl,⟨K1,r1,r2⟩,r3,r4,h_1⟩ hlt hw o ho;simp only at r3 r4;unfold F193_4_B at ho;obtain⟨v,gv,ho⟩:=bS ho;obtain⟨va,vb⟩:=getI_w gv;have vc:=getI_lt gv;obtain⟨w,gw,ho⟩:=bS ho;have ww:tans A 174 [1] [(eK a0),(eC a1),(eC a2),V.int .i64 n,V.isl (v.map Enc.enc)]=some (V.isl (w.map Enc.enc)):=t174 a0 a1 a2 n v gw;obtain⟨s',gs,ho⟩:=bS ho;have es:=setI_eq gs;cases ho;obtain⟨key,uid,vs,xv,Kv,K2,hx,q1,q2,q3,q4,q5,q6,q7,q8⟩:=swap193 r1 vb;simp only at q1;have hk:key < E.length:=(List.getElem?_eq_some_iff.1 q1).1;have zv:frz ⟨E,c⟩ 16 xv=some (V.isl (v.map Enc.enc)):=Deep.fz q4 11;have wb:bare 16 [1] (V.isl (w.map Enc.enc))=true:=bare_one (α:=Int) w;have oc:=ofCells_drop q2;have hk2:(E++[(c,some (w.map Enc.enc))])[key]? =some (uid,some vs):=(List.getElem?_append_left hk).trans q1;have hlv:i.toNat < vs.length:=by omega
  have e1:List.take i.toNat vs++[V.sl E.length c 0 w.length 1]++List.drop (i.toNat+1) vs=vs.set i.toNat (V.sl E.length c 0 w.length 1):=by rw[List.set_eq_take_append_cons_drop,if_pos hlv]; simp
  have hle:i.toNat+1≤vs.length:=hlv;simp only[simprocAttr,R0,b193_4,h_1,eq_true hlt,hw,hx,va,eq_true vc,q1,oc,zv,ww,wb,callM_tans,thaw_one,hk2,e1,eq_true hle];have hks:((E++[(c,some (w.map Enc.enc))]).set key (uid,some (vs.set i.toNat (V.sl E.length c 0 w.length 1))))[key]? =some (uid,some (vs.set i.toNat (V.sl E.length c 0 w.length 1))):=set_app_key (by simp; omega);have old:∀k,k < E.length→k≠key→((E++[(c,some (w.map Enc.enc))]).set key (uid,some (vs.set i.toNat (V.sl E.length c 0 w.length 1))))[k]? =E[k]?:=fun k a b=> set_app_new b a;have lst:((E++[(c,some (w.map Enc.enc))]).set key (uid,some (vs.set i.toNat (V.sl E.length c 0 w.length 1))))[E.length]? =some (c,some (w.map Enc.enc)):=(set_ne (by omega)).trans (get_last _ _);have rr:=q8 ⟨(E++[(c,some (w.map Enc.enc))]).set key (uid,some (vs.set i.toNat (V.sl E.length c 0 w.length 1))),c+1⟩ (V.sl E.length c 0 w.length 1) w (fun k=> k=E.length) (int_row (l:=w) lst fun k=> Iff.rfl) hks (fun k q=> old k (Deep.bd r1 ((q7 k).2 (.inr (.inr q)))) (fun e=> q6 (e▸q))) (fun k q=> by
   subst q;exact⟨fun q=> by have:=Deep.bd r1 ((q7 _).2 (.inr (.inr q))); simp only at this; omega,by omega⟩)
  rw[←es,hx]at rr;refine And.intro rfl ⟨by rw[es,List.length_set]; exact hsl,⟨_,rr,fun k q z=>?_⟩,fun k z=>?_,by simp; omega,?_⟩
  ·rcases q with q|q|q
   ·exact r2 k ((q7 k).2 (.inl q)) z
   ·have:=hzb k z; omega
   ·exact r2 k ((q7 k).2 (.inr (.inr q))) z
  ·exact(old k (by have:=hzb k z; omega) (fun e=> r2 key ((q7 key).2 (.inl rfl)) (e▸z))).trans (r3 k z)
  ·simp only[simprocAttr,R0,h_1,hw]
   simp only[hx]
 ·clear hr hz hl h3 h4 h5 h8 h11 h12 h13 h30 h37 h38 h39 h44 h45 h46
  rintro i s e ⟨E,c⟩ ⟨hsl,r1,r3,r4,h_1⟩ hge t1 ho;unfold F193_4_D at ho;cases ho;simp only[simprocAttr,R0,b193_4,h_1,eq_false hge];intro ht; subst ht;exact⟨r1,r3,r4⟩
theorem l193_3(a0:GContraction)(a1 a2:GComplex){s0 s1:List (List (List Int))}(hF:forR 0 (s0.length:Int) (F193_3_B a0 a1 a2) F193_3_D s0=some s1){h0:Heap}{e:Env}{v8 z10 z11:V}{K0:Ks}(hr:Deep.rep h0 v8 s0 K0)
  (hl:e.length=63) (h3:e.at 3=V.iptr [V.isl (a0.Down.map Enc.enc),V.isl (a0.Up.map Enc.enc),V.isl (a0.Back.map Enc.enc)]) (h4:e.at 4=V.iptr [V.int .i64 a1.Prime,V.isl (a1.Dims.map Enc.enc),V.isl (a1.Maps.map Enc.enc)]) (h5:e.at 5=V.iptr [V.int .i64 a2.Prime,V.isl (a2.Dims.map Enc.enc),V.isl (a2.Maps.map Enc.enc)]) (h8:e.at 8=v8) (h11:e.at 11=z11) (h30:e.at 30=z10) (h37:e.at 37=v8) (h38:e.at 38=V.int .i64 (s0.length:Int)) (h39:e.at 39=V.int .i64 0):
  W A (.block 4 (.loop true b193_3)) e h0 (fun x e h=> x= .normal∧(∃K,Deep.rep h v8 s1 K)∧e.length=63∧e.at 3=V.iptr [V.isl (a0.Down.map Enc.enc),V.isl (a0.Up.map Enc.enc),V.isl (a0.Back.map Enc.enc)]∧e.at 4=V.iptr [V.int .i64 a1.Prime,V.isl (a1.Dims.map Enc.enc),V.isl (a1.Maps.map Enc.enc)]∧e.at 5=V.iptr [V.int .i64 a2.Prime,V.isl (a2.Dims.map Enc.enc),V.isl (a2.Maps.map Enc.enc)]∧e.at 8=v8∧e.at 11=z11∧e.at 30=z10):=by
 rw[W_block];refine W_forR hF _ rfl (fun n s e h=> s.length=s0.length∧(∃K,Deep.rep h v8 s K)∧e.length=63∧e.at 3=V.iptr [V.isl (a0.Down.map Enc.enc),V.isl (a0.Up.map Enc.enc),V.isl (a0.Back.map Enc.enc)]∧e.at 4=V.iptr [V.int .i64 a1.Prime,V.isl (a1.Dims.map Enc.enc),V.isl (a1.Maps.map Enc.enc)]∧e.at 5=V.iptr [V.int .i64 a2.Prime,V.isl (a2.Dims.map Enc.enc),V.isl (a2.Maps.map Enc.enc)]∧e.at 8=v8∧e.at 11=z11∧e.at 30=z10∧e.at 37=v8∧e.at 38=V.int .i64 (s0.length:Int)∧e.at 39=V.int .i64 n) ⟨rfl,⟨K0,hr⟩,hl,h3,h4,h5,h8,h11,h30,h37,h38,h39⟩ ?_ ?_
 ·clear hr hl h3 h4 h5 h8 h11 h30 h37 h38 h39
  rintro n s e ⟨E,c⟩ ⟨hsl,⟨K,r1⟩,h_1⟩ hlt hw o ho;unfold F193_3_B at ho;obtain⟨l,gl,ho⟩:=bS ho;obtain⟨la,lb⟩:=getI_w gl;have lc:=getI_lt gl;obtain⟨l',gl',ho⟩:=bS ho;obtain⟨s',gs,ho⟩:=bS ho;have es:=setI_eq gs;cases ho;obtain⟨key,uid,vs,x1,K1,K2,hx,q1,q2,q3,q4,q5,q6,q7,q8⟩:=swap193 r1 lb;simp only at q1;have oc:=ofCells_drop q2;have hln:=rep_len q4;simp only[simprocAttr,R0,b193_3,h_1,eq_true hlt,hw,hx,la,eq_true lc,q1,oc,hln];refine W.mono (l193_4 a0 a1 a2 gl' (Z:=fun k=> k=key∨K2 k) (v8:=v8) (z10:=z10) (z11:=z11) (z37:=v8) (z38:=V.int .i64 (s0.length:Int)) (z39:=V.int .i64 n) q4 (fun k q z=> z.elim (fun z=>(q5 k q).2 z) (fun z=>(q5 k q).1 z)) (fun k z=> Deep.bd r1 ((q7 k).2 (z.elim (fun z=> .inl z) fun z=> .inr (.inr z)))) ?_ ?_ ?_ ?_ ?_ ?_ ?_ ?_ ?_ ?_ ?_ ?_ ?_ ?_ ?_) ?_
  rotate_right
  ·rintro _ e ⟨E2,c2⟩ ⟨rfl,⟨K1',p1,p2⟩,p3,p4,h_2⟩
   simp only at p3 p4;simp only[simprocAttr,R0,h_2,hw];have hvx:vs.set n.toNat x1=vs:=set_self q2;have rr:=q8 ⟨E2,c2⟩ x1 l' K1' p1 (by rw[hvx]; exact(p3 key (.inl rfl)).trans q1) (fun k z=> p3 k (.inr z)) (fun k q=>⟨fun z=> p2 k q (.inr z),fun z=> p2 k q (.inl z)⟩);rw[←es,hx]at rr;refine And.intro rfl ⟨by rw[es,List.length_set]; exact hsl,⟨_,rr⟩,?_⟩;simp only[simprocAttr,R0,h_2];simp only[hx]
  all_goals simp only[simprocAttr,R0,h_1]
  all_goals simp only[hx]
 ·clear hr hl h3 h4 h5 h8 h11 h30 h37 h38 h39
  rintro n s e ⟨E,c⟩ ⟨hsl,r1,h_1⟩ hge t1 ho;unfold F193_3_D at ho;cases ho;simp only[simprocAttr,R0,b193_3,h_1,eq_false hge];intro ht; subst ht;exact r1
theorem s193(a0:GContraction)(a1 a2:GComplex){r:T2 Int Bool}(hF:F193 a0 a1 a2=some r):ans A 193 [(eK a0),(eC a1),(eC a2)]=some (EncR.enc r):=by
 refine ans_of (f:=p193) rfl rfl rfl fun e hl he=>?_;have h0_0:e.at 0=(eK a0):=he 0 _ rfl;have h1_0:e.at 1=(eC a1):=he 1 _ rfl;have h2_0:e.at 2=(eC a2):=he 2 _ rfl;have hl_0:e.length=63:=hl;clear he hl;show W A b193 e ⟨[],0⟩ _;unfold F193 at hF;obtain⟨s0,g0,hF⟩:=bS hF;obtain⟨t,gt,hF⟩:=bS hF;simp only[simprocAttr, -Int.reduceNatCast',R0,b193,hl_0,h0_0,h1_0,h2_0];refine W.mono (Q:=fun x e h=> x= .normal∧∃v,∃K:Ks,Deep.rep h v s0 K∧e.length=63∧e.at 3=V.iptr [V.isl (a0.Down.map Enc.enc),V.isl (a0.Up.map Enc.enc),V.isl (a0.Back.map Enc.enc)]∧e.at 4=V.iptr [V.int .i64 a1.Prime,V.isl (a1.Dims.map Enc.enc),V.isl (a1.Maps.map Enc.enc)]∧e.at 5=V.iptr [V.int .i64 a2.Prime,V.isl (a2.Dims.map Enc.enc),V.isl (a2.Maps.map Enc.enc)]∧e.at 8=v) ?_ ?_
 ·show W A (.block 0 (.loop true b193_1)) _ _ _
  rw[W_block];refine W_forR g0 _ rfl (fun i s e h=>∃v,∃K:Ks,Deep.rep h v s K∧e.length=63∧e.at 3=V.iptr [V.isl (a0.Down.map Enc.enc),V.isl (a0.Up.map Enc.enc),V.isl (a0.Back.map Enc.enc)]∧e.at 4=V.iptr [V.int .i64 a1.Prime,V.isl (a1.Dims.map Enc.enc),V.isl (a1.Maps.map Enc.enc)]∧e.at 5=V.iptr [V.int .i64 a2.Prime,V.isl (a2.Dims.map Enc.enc),V.isl (a2.Maps.map Enc.enc)]∧e.at 8=v∧e.at 18=V.isl (a1.Dims.map Enc.enc)∧e.at 19=V.int .i64 (a1.Dims.length:Int)∧e.at 20=V.int .i64 i) ?_ ?_ ?_
  ·refine⟨V.sl 3 3 0 0 1,fun k=> k=3∨False,rep_at (α:=List (List Int)) (l:=[]) (K:=fun _=> False) (h:=⟨[(0,none),(0,none),(0,none),(3,some [])],4⟩) rfl (fun _ x=> x) (fun x=> x),?_⟩
   simp only[simprocAttr, -Int.reduceNatCast',R0,hl_0,h0_0,h1_0,h2_0]
  ·clear hl_0 h0_0 h1_0 h2_0
   rintro i s e ⟨E,c⟩ ⟨v,K,g1,hl_1,h3_1,h4_1,h5_1,h8_1,h18_1,h19_1,h20_1⟩ hlt hw s' ho;unfold F193_1_B at ho;obtain⟨d,gd,ho⟩:=bS ho;obtain⟨da,db⟩:=getI_w gd;obtain⟨u,gu,ho⟩:=bS ho;have wu:tans A 124 [1,1] [V.int .i64 d]=some (V.isl (u.map Enc.enc)):=x124 d gu;obtain⟨l14,gl14,ho⟩:=bS ho;have hE:=Option.some.inj ho; subst hE;obtain⟨vu,⟨E1,c1⟩,Ku,t1,t2,t3,t4,t5⟩:=thawD (α:=List (List Int)) (by decide) u ⟨E,c⟩;simp only at t3 t4 t5;have t1':thaw 16 [1,1] (V.isl (u.map Enc.enc)) ⟨E,c⟩=some (vu,⟨E1,c1⟩):=t1;obtain⟨u1,u2⟩:=rep_one t2;have pre:∀ (y:Nat×Option (List V)) k,k < E1.length→(E1++[y])[k]? =E1[k]?:=fun y k q=> List.getElem?_append_left q;have g1':Deep.rep ⟨E1,c1⟩ v s K:=Deep.frame g1 fun k q=> t5 k (Deep.bd g1 q);obtain⟨v',E',c',K',p1,p2,p3,p4,p5⟩:=append_rep (E:=E1++[(c1,some [vu])]) (c:=c1+1) (Deep.frame g1' fun k q=> pre _ k (Deep.bd g1' q)) (Deep.frame t2 fun k q=> pre _ k (Deep.bd t2 q)) (fun k q z=> by have a:=Deep.bd g1 q; have b:=(t3 k z).1; simp only at a; omega) gl14;simp only[simprocAttr, -Int.reduceNatCast',R0,b193_1,hl_1,h3_1,h4_1,h5_1,h8_1,h18_1,h19_1,h20_1,eq_true hlt,hw,da,db,wu,callM_tans,t1',u1,u2,get_last,p1];refine And.intro rfl ⟨v',K',p2,?_⟩;simp only[simprocAttr, -Int.reduceNatCast',R0,hl_1,h3_1,h4_1,h5_1,h8_1,h18_1,h19_1,h20_1,hw]
  ·clear hl_0 h0_0 h1_0 h2_0
   rintro i s e ⟨E,c⟩ ⟨v,K,g1,hl_1,h3_1,h4_1,h5_1,h8_1,h18_1,h19_1,h20_1⟩ hge t1 ho;unfold F193_1_D at ho;have hE:=Option.some.inj ho; subst hE;simp only[simprocAttr, -Int.reduceNatCast',R0,b193_1,hl_1,h3_1,h4_1,h5_1,h8_1,h18_1,h19_1,h20_1,eq_false hge];intro ht; subst ht;exact⟨v,K,g1,rfl⟩
 clear hl_0 h0_0 h1_0 h2_0;rintro _ e ⟨E,c⟩ ⟨rfl,v8,K0,g1,hl_0,h3_0,h4_0,h5_0,h8_0⟩;simp only[simprocAttr, -Int.reduceNatCast',R0,hl_0,h3_0,h4_0,h5_0,h8_0];refine W.mono (Q:=fun x e h=> match t with| .inl _=> x= .normal∧e.length=63| .inr r=> x= .ret∧Fin p193 (EncR.enc r) .ret e h) ?_ ?_
 ·show W A (.block 2 (.loop true b193_2)) _ _ _
  rw[W_block];refine W_forR gt _ rfl (fun k s e h=>∃K:Ks,Deep.rep h v8 s K∧e.length=63∧e.at 3=V.iptr [V.isl (a0.Down.map Enc.enc),V.isl (a0.Up.map Enc.enc),V.isl (a0.Back.map Enc.enc)]∧e.at 4=V.iptr [V.int .i64 a1.Prime,V.isl (a1.Dims.map Enc.enc),V.isl (a1.Maps.map Enc.enc)]∧e.at 5=V.iptr [V.int .i64 a2.Prime,V.isl (a2.Dims.map Enc.enc),V.isl (a2.Maps.map Enc.enc)]∧e.at 8=v8∧e.at 30=V.int .i64 k) ?_ ?_ ?_
  ·refine⟨K0,g1,?_⟩
   simp only[simprocAttr, -Int.reduceNatCast',R0,hl_0,h3_0,h4_0,h5_0,h8_0]
  ·clear hl_0 h3_0 h4_0 h5_0 h8_0
   rintro k s e ⟨E,c⟩ ⟨K,g2,hl_1,h3_1,h4_1,h5_1,h8_1,h30_1⟩ hlt hw o ho;unfold F193_2_B at ho;obtain⟨b,gb,ho⟩:=bS ho;have zf:frz ⟨E,c⟩ 16 v8=some (V.isl (s.map Enc.enc)):=Deep.fz g2 9;have wb:ans A 208 [V.isl (s.map Enc.enc),V.fn 209 [] []]=some (V.bool b):=s208 s (fun l=> F209 l)
    (Clo1.of (by intro h f; simp only[RZ,mapO]) (by intro h f; simp only[RZ,mapO]) (by intro f; simp only[RZ,RB]) (by intro f; simp only[RZ,RB]) (fun x _ hr=> s209 x hr)) gb
   by_cases cb:b=true
   ·subst cb
    rw[if_pos rfl]at ho;obtain⟨s1,gs1,ho⟩:=bS ho;have hE:=Option.some.inj ho; subst hE;have hln:=rep_len g2;simp only[simprocAttr, -Int.reduceNatCast',R0,b193_2,hl_1,h3_1,h4_1,h5_1,h8_1,h30_1,eq_true hlt,hw,zf,wb,hln];refine W.mono (l193_3 a0 a1 a2 gs1 (z10:=V.int .i64 k) (z11:=V.int .i64 k) g2 ?_ ?_ ?_ ?_ ?_ ?_ ?_ ?_ ?_ ?_) ?_
    rotate_right
    ·rintro _ e ⟨E2,c2⟩ ⟨rfl,⟨K',g3⟩,hl_2,h3_2,h4_2,h5_2,h8_2,h11_2,h30_2⟩
     simp only[simprocAttr, -Int.reduceNatCast',R0,hl_2,h3_2,h4_2,h5_2,h8_2,h11_2,h30_2,hw];refine And.intro rfl ⟨K',g3,?_⟩;simp only[simprocAttr, -Int.reduceNatCast',R0,hl_2,h3_2,h4_2,h5_2,h8_2,h11_2,h30_2]
    all_goals simp only[simprocAttr, -Int.reduceNatCast',R0,hl_1,h3_1,h4_1,h5_1,h8_1,h30_1]
   ·have cb':b=false:=by simpa using cb
    subst cb';rw[if_neg Bool.false_ne_true]at ho;have hE:=Option.some.inj ho; subst hE;simp only[simprocAttr, -Int.reduceNatCast',R0,b193_2,hl_1,h3_1,h4_1,h5_1,h8_1,h30_1,eq_true hlt,hw,zf,wb];intro ht; subst ht;simp only[simprocAttr, -Int.reduceNatCast',RR,RB];exact fin_ret (by simp only[simprocAttr, -Int.reduceNatCast',R0,fn_out,p193,Rs.ev,hl_1,h30_1])
  ·clear hl_0 h3_0 h4_0 h5_0 h8_0
   rintro k s e ⟨E,c⟩ ⟨K,g2,hl_1,h3_1,h4_1,h5_1,h8_1,h30_1⟩ hge t1 ho;unfold F193_2_D at ho;have hE:=Option.some.inj ho; subst hE;simp only[simprocAttr, -Int.reduceNatCast',R0,b193_2,hl_1,h3_1,h4_1,h5_1,h8_1,h30_1,eq_false hge];intro ht; subst ht;simp only[simprocAttr, -Int.reduceNatCast',R0,hl_1]
 clear hl_0 h3_0 h4_0 h5_0 h8_0;rintro x e h hq;cases t with
 |inl _=>
  obtain⟨rfl,hl_0⟩:=hq;have hE:=Option.some.inj hF; subst hE;simp only[simprocAttr, -Int.reduceNatCast',R0,hl_0];exact fin_ret (by simp only[simprocAttr, -Int.reduceNatCast',R0,fn_out,p193,Rs.ev,hl_0])
 |inr r2=>
  obtain⟨rfl,hq⟩:=hq;have hE:=Option.some.inj hF; subst hE;simp only[simprocAttr, -Int.reduceNatCast',RR,RB];exact hq
def F172(a0:GComplex)(a1:GContraction)(a2:List (List (List Int))):Option (T3 Int GComplex Int):=
 (F49 a0 a2).bind fun x1=>
 if x1=0 then
  (F192 a1 a0).bind fun x4=>
  if x4=true then
   (F50 a0 a2).bind fun x6=>
   (F42 x6).bind fun x8=>
   if x8=true then
    (F193 a1 a0 ⟨a0.Prime,a0.Dims,a2⟩).bind fun x10=>
    if x10.b=true then
     some ⟨x10.a,⟨a0.Prime,a0.Dims,a2⟩,0⟩
    else
     some ⟨0,⟨0,[],[]⟩,5⟩
   else
    some ⟨0,⟨0,[],[]⟩,5⟩
  else
   some ⟨0,⟨0,[],[]⟩,2⟩
 else
  some ⟨0,⟨0,[],[]⟩,x1⟩
theorem s172(a0:GComplex)(a1:GContraction)(a2:List (List (List Int))){r:T3 Int GComplex Int}(hF:F172 a0 a1 a2=some r):ans A 172 [(eC a0),(eK a1),V.isl (a2.map Enc.enc)]=some (EncR.enc r):=by
 refine ans_of (f:=p172) rfl rfl rfl fun e hl he=>?_;have h0_0:e.at 0=(eC a0):=he 0 _ rfl;have h1_0:e.at 1=(eK a1):=he 1 _ rfl;have h2_0:e.at 2=V.isl (a2.map Enc.enc):=he 2 _ rfl;have hl_0:e.length=52:=hl;clear he hl;have h_0:=And.intro hl_0 (And.intro h0_0 (And.intro h1_0 h2_0));show W A b172 e ⟨[],0⟩ _;unfold F172 at hF;obtain⟨x1,gx1,hF⟩:=bS hF;have w2:ans A 49 [(eC a0),V.isl (a2.map Enc.enc)]=some (V.int .i64 x1):=s49 a0 a2 gx1;by_cases c3:x1=0
 ·rw[if_pos c3]at hF
  obtain⟨x4,gx4,hF⟩:=bS hF;have w5:ans A 192 [(eK a1),(eC a0)]=some (V.bool x4):=s192 a1 a0 gx4;cases x4 with
  |true=>
   rw[if_pos rfl]at hF;obtain⟨x6,gx6,hF⟩:=bS hF;have w7:ans A 50 [(eC a0),V.isl (a2.map Enc.enc)]=some ((eC x6)):=s50 a0 a2 gx6;obtain⟨x8,gx8,hF⟩:=bS hF;have w9:ans A 42 [(eC x6)]=some (V.bool x8):=s42 x6 gx8;cases x8 with
   |true=>
    rw[if_pos rfl]at hF;obtain⟨x10,gx10,hF⟩:=bS hF;have w11:ans A 193 [(eK a1),(eC a0),V.agg [V.int .i64 a0.Prime,V.isl (a0.Dims.map Enc.enc),V.isl (a2.map Enc.enc)]]=some (V.tup [V.int .i64 x10.a,V.bool x10.b]):=s193 a1 a0 ⟨a0.Prime,a0.Dims,a2⟩ gx10;by_cases c12:x10.b=true
    ·rw[if_pos c12]at hF
     cases hF;simp only[simprocAttr,R0,b172,h_0,w2,eq_true c3,w5,w7,w9,w11,c12];exact fin_ret (by simp only[simprocAttr,R0,fn_out,p172,Rs.ev,take_len_self,h_0,w2,eq_true c3,w5,w7,w9,w11,c12])
    ·rw[if_neg c12]at hF
     cases hF;simp only[simprocAttr,R0,b172,h_0,w2,eq_true c3,w5,w7,w9,w11,Bool.eq_false_iff.2 c12];exact fin_ret (by simp only[simprocAttr,R0,fn_out,p172,Rs.ev,take_len_self,h_0,w2,eq_true c3,w5,w7,w9,w11,Bool.eq_false_iff.2 c12])
   |false=>
    rw[if_neg Bool.false_ne_true]at hF;cases hF;simp only[simprocAttr,R0,b172,h_0,w2,eq_true c3,w5,w7,w9];exact fin_ret (by simp only[simprocAttr,R0,fn_out,p172,Rs.ev,take_len_self,h_0,w2,eq_true c3,w5,w7,w9])
  |false=>
   rw[if_neg Bool.false_ne_true]at hF;cases hF;simp only[simprocAttr,R0,b172,h_0,w2,eq_true c3,w5];exact fin_ret (by simp only[simprocAttr,R0,fn_out,p172,Rs.ev,take_len_self,h_0,w2,eq_true c3,w5])
 ·rw[if_neg c3]at hF
  cases hF;simp only[simprocAttr,R0,b172,h_0,w2,eq_false c3];exact fin_ret (by simp only[simprocAttr,R0,fn_out,p172,Rs.ev,take_len_self,h_0,w2,eq_false c3])
def cpL(r w:List Int):List Int:=w.take r.length++r.drop w.length
def F155_1_B(c:GContraction)(i:Int)(s:List Int):Option (List Int⊕List Int):=(getI c.Up i).bind fun rows=>(app 8 s [(rows.length:Int)]).bind fun r=> some (.inl r)
def F155_1_D(i:Int)(s:List Int):Option (List Int):=some s
def F155_4_B(x:GComplex)(c:GContraction)(y:GComplex)(n k:Int)(s:List Int×List Int×Int):Option ((List Int×List Int×Int)⊕List Int):=(F173 x.Prime s.1 s.2.1 s.2.2).bind fun s1=>(chk (n - 1)).bind fun n1=>(F174 c x y n1 s.2.1).bind fun z=>(chk (x.Prime - s.2.2)).bind fun b=> some (.inl (s1,z,b))
def F155_4_D(k:Int)(s:List Int×List Int×Int):Option (List Int):=some s.1
def F155_3_B(x:GComplex)(c:GContraction)(y:GComplex)(k n:Int)(rows:List (List Int))(i:Int)(s:List (List (List Int))):Option (List (List (List Int))⊕List (List (List Int))):=(getI rows i).bind fun v=>(F91 y n v).bind fun z=>(chk (n - 1)).bind fun n1=>(F102 x n1).bind fun d=>(mkL 8 d (0:Int)).bind fun s0=>(forR 0 k (F155_4_B x c y n) F155_4_D (s0,z,1)).bind fun sum=>(getI s n1).bind fun t=>(getI t i).bind fun row=>(F175 c x n1 sum).bind fun w=>(setI t i (cpL row w)).bind fun t'=>(setI s n1 t').bind fun s'=> some (.inl s')
def F155_3_D(i:Int)(s:List (List (List Int))):Option (List (List (List Int))):=some s
def F155_2_B(x:GComplex)(c:GContraction)(y:GComplex)(k n:Int)(s:List (List (List Int))):Option (List (List (List Int))⊕List (List (List Int))):=(getI c.Up n).bind fun rows=>(forR 0 (rows.length:Int) (F155_3_B x c y k n rows) F155_3_D s).bind fun s'=> some (.inl s')
def F155_2_D(n:Int)(s:List (List (List Int))):Option (List (List (List Int))):=some s
def F155(x:GComplex)(c:GContraction)(f:List (List (List Int))):Option (T2 GComplex Int):=(F172 x c f).bind fun t=> if t.c=0 then(forR 0 (c.Up.length:Int) (F155_1_B c) F155_1_D []).bind fun d=>(F74 x.Prime d).bind fun o=>(F86 x).bind fun tp=>(forR 1 (tp+1) (F155_2_B x c t.b t.a) F155_2_D o.Maps).bind fun m=> some ⟨⟨o.Prime,o.Dims,m⟩,0⟩else some ⟨⟨0,[],[]⟩,t.c⟩
def S155(p:Int)(dv m:V)(N c1:Nat)(K:Ks)(y:GComplex)(R:List (Nat×Option (List V))→Prop)(s:List (List (List Int)))(E:List (Nat×Option (List V))):Prop:=
 Deep.rep ⟨E,0⟩ m s K∧R E∧E[N]? =some (c1,some [V.int .i64 p,dv,m])∧E[3]? =some (3,some [V.int .i64 y.Prime,V.isl (y.Dims.map Enc.enc),V.isl (y.Maps.map Enc.enc)])
theorem copyV155(row w:List Int):(if(min w.length row.length)=0 then List.map Enc.enc row else List.take (min w.length row.length) (w.map Enc.enc)++List.drop (min w.length row.length) (row.map Enc.enc))=List.map (Enc.enc (α:=Int)) (cpL row w):=by
 unfold cpL;rw[List.map_append,List.map_take,List.map_drop];split
 ·rename_i h
  rcases Nat.le_total w.length row.length with h1|h1
  ·rw[Nat.min_eq_left h1]at h
   have:w=[]:=List.eq_nil_of_length_eq_zero h;subst this; simp
  ·rw[Nat.min_eq_right h1]at h
   have:row=[]:=List.eq_nil_of_length_eq_zero h;subst this; simp
 ·rcases Nat.le_total w.length row.length with h1|h1
  ·rw[Nat.min_eq_left h1,List.take_of_length_le (by simp),List.take_of_length_le (by simpa using h1)]
  ·rw[Nat.min_eq_right h1,List.drop_of_length_le (by simp),List.drop_of_length_le (by simpa using h1)]
theorem map_enc_inj155:∀ {a b:List Int},List.map Enc.enc a=List.map Enc.enc b→a=b
 | [],[],_=> rfl
 | [],_::_,h=> by simp at h
 |_::_,[],h=> by simp at h
 |x::a,y::b,h=> by
  simp only[List.map_cons,List.cons.injEq]at h;obtain⟨h1,h2⟩:=h;have:x=y:=by simpa[Enc.enc]using h1
  rw[this,map_enc_inj155 h2]
theorem srcV_w155(h:Heap)(w:List Int):srcV h 1 (V.isl (w.map Enc.enc))=some (w.length,List.map Enc.enc w):=by
 have:flat (w.map Enc.enc)=List.map Enc.enc w:=by
  unfold flat;induction w with
  |nil=> rfl
  |cons a l ih=> simp only[List.map_cons,List.flatMap_cons,ih]; rfl
 simp[srcV,this]
theorem sp155{p:Int}{dv m:V}{N c1:Nat}{K:Ks}{R:List (Nat×Option (List V))→Prop}{y:GComplex}(hR:∀E E',R E→(∀k,k < E.length→¬K k→E'[k]? =E[k]?)→R E'){s:List (List (List Int))}{E:List (Nat×Option (List V))}{x:Nat×Option (List V)}(h:S155 p dv m N c1 K y R s E):S155 p dv m N c1 K y R s (E++[x]):=by
 obtain⟨h1,h2,h3,h4⟩:=h;exact⟨Deep.frame h1 fun k q=> List.getElem?_append_left (Deep.bd h1 q),hR E _ h2 fun k q _=> List.getElem?_append_left q,(List.getElem?_append_left (List.getElem?_eq_some_iff.1 h3).1).trans h3,(List.getElem?_append_left (List.getElem?_eq_some_iff.1 h4).1).trans h4⟩
theorem l155_4(x:GComplex)(c:GContraction)(y:GComplex){n k:Int}{p:Int}{dv m:V}{N c1:Nat}{K:Ks}{R:List (Nat×Option (List V))→Prop}(hR:∀E E',R E→(∀k,k < E.length→¬K k→E'[k]? =E[k]?)→R E'){sm z r:List Int}{b:Int}(hF:forR 0 k (F155_4_B x c y n) F155_4_D (sm,z,b)=some r){s:List (List (List Int))}{rows:List (List Int)}{i:Int}{e:Env}{h:Heap}(hS:S155 p dv m N c1 K y R s h.ents)
  (hl_0:e.length=116) (h3_0:e.at 3=V.iptr [V.int .i64 x.Prime,V.isl (x.Dims.map Enc.enc),V.isl (x.Maps.map Enc.enc)]) (h4_0:e.at 4=V.iptr [V.isl (c.Down.map Enc.enc),V.isl (c.Up.map Enc.enc),V.isl (c.Back.map Enc.enc)]) (h6_0:e.at 6=V.ptr 2 2 0) (h8_0:e.at 8=V.int .i64 k) (h9_0:e.at 9=V.ptr 3 3 0) (h12_0:e.at 12=V.int .i64 x.Prime) (h15_0:e.at 15=V.ptr N c1 0) (h16_0:e.at 16=V.int .i64 n) (h63_0:e.at 63=V.isl (rows.map Enc.enc)) (h64_0:e.at 64=V.int .i64 (rows.length:Int)) (h65_0:e.at 65=V.int .i64 i) (h17_0:e.at 17=V.int .i64 i) (h19_0:e.at 19=V.isl (z.map Enc.enc)) (h20_0:e.at 20=V.isl (sm.map Enc.enc)) (h21_0:e.at 21=V.int .i64 b) (h79_0:e.at 79=V.int .i64 k) (h80_0:e.at 80=V.int .i64 0):
  W A (.block 6 (.loop true b155_4)) e h (fun x' e h=> x'= .normal∧S155 p dv m N c1 K y R s h.ents∧e.length=116∧e.at 3=V.iptr [V.int .i64 x.Prime,V.isl (x.Dims.map Enc.enc),V.isl (x.Maps.map Enc.enc)]∧e.at 4=V.iptr [V.isl (c.Down.map Enc.enc),V.isl (c.Up.map Enc.enc),V.isl (c.Back.map Enc.enc)]∧e.at 6=V.ptr 2 2 0∧e.at 8=V.int .i64 k∧e.at 9=V.ptr 3 3 0∧e.at 12=V.int .i64 x.Prime∧e.at 15=V.ptr N c1 0∧e.at 16=V.int .i64 n∧e.at 63=V.isl (rows.map Enc.enc)∧e.at 64=V.int .i64 (rows.length:Int)∧e.at 65=V.int .i64 i∧e.at 17=V.int .i64 i∧e.at 20=V.isl (r.map Enc.enc)):=by
 rw[W_block];refine W_forR hF _ rfl (fun j q e h=> S155 p dv m N c1 K y R s h.ents∧e.length=116∧e.at 3=V.iptr [V.int .i64 x.Prime,V.isl (x.Dims.map Enc.enc),V.isl (x.Maps.map Enc.enc)]∧e.at 4=V.iptr [V.isl (c.Down.map Enc.enc),V.isl (c.Up.map Enc.enc),V.isl (c.Back.map Enc.enc)]∧e.at 6=V.ptr 2 2 0∧e.at 8=V.int .i64 k∧e.at 9=V.ptr 3 3 0∧e.at 12=V.int .i64 x.Prime∧e.at 15=V.ptr N c1 0∧e.at 16=V.int .i64 n∧e.at 63=V.isl (rows.map Enc.enc)∧e.at 64=V.int .i64 (rows.length:Int)∧e.at 65=V.int .i64 i∧e.at 17=V.int .i64 i∧e.at 19=V.isl (List.map Enc.enc q.2.1)∧e.at 20=V.isl (List.map Enc.enc q.1)∧e.at 21=V.int .i64 q.2.2∧e.at 79=V.int .i64 k∧e.at 80=V.int .i64 j) ⟨hS,hl_0,h3_0,h4_0,h6_0,h8_0,h9_0,h12_0,h15_0,h16_0,h63_0,h64_0,h65_0,h17_0,h19_0,h20_0,h21_0,h79_0,h80_0⟩ ?_ ?_
 ·clear hS hl_0 h3_0 h4_0 h6_0 h8_0 h9_0 h12_0 h15_0 h16_0 h63_0 h64_0 h65_0 h17_0 h19_0 h20_0 h21_0 h79_0 h80_0
  rintro j ⟨sm,z,b⟩ e ⟨E,q⟩ ⟨hS,hl_1,h3_1,h4_1,h6_1,h8_1,h9_1,h12_1,h15_1,h16_1,h63_1,h64_1,h65_1,h17_1,h19_1,h20_1,h21_1,h79_1,h80_1⟩ hlt hw o ho;unfold F155_4_B at ho;dsimp only at ho h19_1 h20_1 h21_1;obtain⟨s1,g1,ho⟩:=bS ho;have w1:ans A 173 [V.int .i64 x.Prime,V.isl (sm.map Enc.enc),V.isl (z.map Enc.enc),V.int .i64 b]=some (V.isl (s1.map Enc.enc)):=s173 x.Prime sm z b g1;obtain⟨n1,g2,ho⟩:=bS ho;have w2:=chk_w g2;obtain⟨z1,g3,ho⟩:=bS ho;have w3:ans A 174 [(eK c),(eC x),(eC y),V.int .i64 n1,V.isl (z.map Enc.enc)]=some (V.isl (z1.map Enc.enc)):=s174 c x y n1 z g3;obtain⟨b1,g4,ho⟩:=bS ho;have w4:=chk_w g4;have hE:=Option.some.inj ho; subst hE;have h3:=hS.2.2.2;simp only at h3;simp only[simprocAttr, -Int.reduceNatCast',R0,b155_4,hl_1,h3_1,h4_1,h6_1,h8_1,h9_1,h12_1,h15_1,h16_1,h63_1,h64_1,h65_1,h17_1,h19_1,h20_1,h21_1,h79_1,h80_1,eq_true hlt,hw,w1,w2,h3,w3,w4];refine And.intro rfl (And.intro hS ?_);simp only[simprocAttr, -Int.reduceNatCast',R0,hl_1,h3_1,h4_1,h6_1,h8_1,h9_1,h12_1,h15_1,h16_1,h63_1,h64_1,h65_1,h17_1,h19_1,h20_1,h21_1,h79_1,h80_1,hw]
 ·clear hS hl_0 h3_0 h4_0 h6_0 h8_0 h9_0 h12_0 h15_0 h16_0 h63_0 h64_0 h65_0 h17_0 h19_0 h20_0 h21_0 h79_0 h80_0
  rintro j ⟨sm,z,b⟩ e ⟨E,q⟩ ⟨hS,hl_1,h3_1,h4_1,h6_1,h8_1,h9_1,h12_1,h15_1,h16_1,h63_1,h64_1,h65_1,h17_1,h19_1,h20_1,h21_1,h79_1,h80_1⟩ hge t1 ho;unfold F155_4_D at ho;dsimp only at ho h20_1;have hE:=Option.some.inj ho; subst hE;simp only[simprocAttr, -Int.reduceNatCast',R0,b155_4,hl_1,h3_1,h4_1,h6_1,h8_1,h9_1,h12_1,h15_1,h16_1,h63_1,h64_1,h65_1,h17_1,h19_1,h20_1,h21_1,h79_1,h80_1,eq_false hge];intro ht; subst ht;exact⟨hS,rfl⟩
theorem l155_3(x:GComplex)(c:GContraction)(y:GComplex){n k:Int}{rows:List (List Int)}{p:Int}{dv m:V}{N c1:Nat}{K:Ks}{R:List (Nat×Option (List V))→Prop}(hR:∀E E',R E→(∀k,k < E.length→¬K k→E'[k]? =E[k]?)→R E')(hN:¬K N)(hK3:¬K 3){s s':List (List (List Int))}(hF:forR 0 (rows.length:Int) (F155_3_B x c y k n rows) F155_3_D s=some s'){e:Env}{h:Heap}(hS:S155 p dv m N c1 K y R s h.ents)
  (hl_0:e.length=116) (h3_0:e.at 3=V.iptr [V.int .i64 x.Prime,V.isl (x.Dims.map Enc.enc),V.isl (x.Maps.map Enc.enc)]) (h4_0:e.at 4=V.iptr [V.isl (c.Down.map Enc.enc),V.isl (c.Up.map Enc.enc),V.isl (c.Back.map Enc.enc)]) (h6_0:e.at 6=V.ptr 2 2 0) (h8_0:e.at 8=V.int .i64 k) (h9_0:e.at 9=V.ptr 3 3 0) (h12_0:e.at 12=V.int .i64 x.Prime) (h15_0:e.at 15=V.ptr N c1 0) (h16_0:e.at 16=V.int .i64 n) (h63_0:e.at 63=V.isl (rows.map Enc.enc)) (h64_0:e.at 64=V.int .i64 (rows.length:Int)) (h65_0:e.at 65=V.int .i64 0):
  W A (.block 4 (.loop true b155_3)) e h (fun x' e h=> x'= .normal∧S155 p dv m N c1 K y R s' h.ents∧e.length=116∧e.at 3=V.iptr [V.int .i64 x.Prime,V.isl (x.Dims.map Enc.enc),V.isl (x.Maps.map Enc.enc)]∧e.at 4=V.iptr [V.isl (c.Down.map Enc.enc),V.isl (c.Up.map Enc.enc),V.isl (c.Back.map Enc.enc)]∧e.at 6=V.ptr 2 2 0∧e.at 8=V.int .i64 k∧e.at 9=V.ptr 3 3 0∧e.at 12=V.int .i64 x.Prime∧e.at 15=V.ptr N c1 0∧e.at 16=V.int .i64 n):=by
 rw[W_block];refine W_forR hF _ rfl (fun i s e h=> S155 p dv m N c1 K y R s h.ents∧e.length=116∧e.at 3=V.iptr [V.int .i64 x.Prime,V.isl (x.Dims.map Enc.enc),V.isl (x.Maps.map Enc.enc)]∧e.at 4=V.iptr [V.isl (c.Down.map Enc.enc),V.isl (c.Up.map Enc.enc),V.isl (c.Back.map Enc.enc)]∧e.at 6=V.ptr 2 2 0∧e.at 8=V.int .i64 k∧e.at 9=V.ptr 3 3 0∧e.at 12=V.int .i64 x.Prime∧e.at 15=V.ptr N c1 0∧e.at 16=V.int .i64 n∧e.at 63=V.isl (rows.map Enc.enc)∧e.at 64=V.int .i64 (rows.length:Int)∧e.at 65=V.int .i64 i) ⟨hS,hl_0,h3_0,h4_0,h6_0,h8_0,h9_0,h12_0,h15_0,h16_0,h63_0,h64_0,h65_0⟩ ?_ ?_
 ·clear hS hl_0 h3_0 h4_0 h6_0 h8_0 h9_0 h12_0 h15_0 h16_0 h63_0 h64_0 h65_0
  rintro i s e ⟨E,q⟩ ⟨hS,h_1⟩ hlt hw o ho;unfold F155_3_B at ho;obtain⟨v,g1,ho⟩:=bS ho;obtain⟨w1a,w1b⟩:=getI_w g1;have w1c:=getI_lt g1;obtain⟨z,g2,ho⟩:=bS ho;have w2:ans A 91 [(eC y),V.int .i64 n,V.isl (v.map Enc.enc)]=some (V.isl (z.map Enc.enc)):=s91 y n v g2;obtain⟨n1,g3,ho⟩:=bS ho;have w3:=chk_w g3;obtain⟨d,g4,ho⟩:=bS ho;have w4:ans A 102 [(eC x),V.int .i64 n1]=some (V.int .i64 d):=s102 x n1 g4;obtain⟨s0,g5,ho⟩:=bS ho;obtain⟨m1,m2,m3,m4,m5⟩:=mkL_w g5;replace m5:(List.replicate (Int.toNat d) [V.int .i64 0]).flatten=List.map Enc.enc s0:=m5;have zf:take 16 [] (V.sl E.length q 0 d.toNat 1) ⟨E++[(q,some (s0.map Enc.enc))],q+1⟩=some (V.isl (s0.map Enc.enc),⟨E++[(0,none)],q+1⟩):=by
   rw[←m4,take_sl1];simp[Heap.get,Heap.kill,hdOk,chunk];rw[take_map_len,take_ints 14]
  obtain⟨sum,g6,ho⟩:=bS ho;obtain⟨t,g7,ho⟩:=bS ho;obtain⟨w7a,w7b⟩:=getI_w g7;have w7c:=getI_lt g7;obtain⟨row,g8,ho⟩:=bS ho;obtain⟨w8a,w8b⟩:=getI_w g8;have w8c:=getI_lt g8;obtain⟨w,g9,ho⟩:=bS ho;have w9:ans A 175 [(eK c),(eC x),V.int .i64 n1,V.isl (sum.map Enc.enc)]=some (V.isl (w.map Enc.enc)):=s175 c x n1 sum g9;obtain⟨t',g10,ho⟩:=bS ho;have st:=setI_eq g10;obtain⟨s2,g11,ho⟩:=bS ho;have sm:=setI_eq g11;cases ho;have h3:=hS.2.2.2;simp only at h3;simp only[simprocAttr, -Int.reduceNatCast',R0,b155_3,h_1,eq_true hlt,hw,w1a,w1b,eq_true w1c,h3,w2,w3,w4,m1,m2,m3,m5,zf];have sp:S155 p dv m N c1 K y R s (E++[(0,none)]):=sp155 hR hS;refine W.mono (l155_4 x c y hR g6 (s:=s) (rows:=rows) (i:=i) (h:=⟨E++[(0,none)],q+1⟩) sp ?_ ?_ ?_ ?_ ?_ ?_ ?_ ?_ ?_ ?_ ?_ ?_ ?_ ?_ ?_ ?_ ?_ ?_) ?_
  rotate_right
  ·rintro _ e ⟨E2,q2⟩ ⟨rfl,hS2,h_2⟩
   have r0:Deep.rep ⟨E2,q2⟩ m s K:=Deep.frame hS2.1 fun _ _=> rfl;obtain⟨u1,u2,u3,u4⟩:=hS2;simp only at u2 u3 u4;obtain⟨key,uid,vs,x1,K1,hm,a1,a2,a3,a4,a5,a6⟩:=rep_focus r0 w7b;obtain⟨key2,uid2,vs2,x2,K2,hx1,b1,b2,b3,b4,b5,b6⟩:=rep_focus a4 w8b;have o1:=ofCells_drop a2;have o2:=ofCells_drop b2;simp only at a1 b1;have hln:=rep_len b4;have b5':∀k,K2 k→K k:=fun k q=> a5 k (b5 k q);subst hm;subst hx1;by_cases hj:min w.length row.length=0
   ·have hrow:cpL row w=row:=map_enc_inj155 (by rw[←copyV155 row w,if_pos hj])
    have e1:t'=t:=by rw[st,hrow]; exact set_self w8b
    have e2:s2=s:=by rw[sm,e1]; exact set_self w7b
    simp only[simprocAttr, -Int.reduceNatCast',R0,h_2,hw,u3,u4,w3,w7a,eq_true w7c,a1,o1,w8a,eq_true w8c,b1,o2,w9,hln,srcV_w155,eq_true hj];refine And.intro rfl (And.intro ?_ ?_)
    ·rw[e2]; exact⟨Deep.frame r0 fun _ _=> rfl,u2,u3,u4⟩
    ·simp only[simprocAttr, -Int.reduceNatCast',R0,h_2,hw]
   ·rcases row_int b4 with⟨_,rfl,_⟩|⟨key3,uid3,hx2,d1,d2⟩
    ·exact absurd (by simp) hj
    subst hx2;simp only at d1;have hle:min w.length row.length≤row.length:=Nat.min_le_right _ _;have cp:=copyV155 row w;rw[if_neg hj]at cp;have k3:key3 < E2.length:=(List.getElem?_eq_some_iff.1 d1).1;have dK:K key3:=b5' _ (d2 _ |>.2 rfl);simp only[simprocAttr, -Int.reduceNatCast',R0,h_2,hw,u3,u4,w3,w7a,eq_true w7c,a1,o1,w8a,eq_true w8c,b1,o2,w9,hln,srcV_w155,eq_false hj,d1,eq_true hle,cp];have hcl:(cpL row w).length=row.length:=by unfold cpL; simp; omega
    have r3:Deep.rep ⟨E2.set key3 (uid3,some (List.map Enc.enc (cpL row w))),q2⟩ (V.sl key3 uid3 0 row.length 1) (cpL row w) K2:=by
     rw[←hcl]; exact int_row (set_app_key k3) d2
    have r1:=b6 _ _ r3 (fun k hk nk=> set_ne (fun e=> nk ((d2 k).2 e)));rw[←st]at r1;have r2:=a6 _ _ r1 (fun k hk nk=> set_ne (fun e=> nk (b5 k ((d2 k).2 e))));rw[←sm]at r2;refine And.intro rfl (And.intro ⟨Deep.frame r2 fun _ _=> rfl,hR _ _ u2 fun k a b=> set_ne (fun e=> b (e▸dK)),(set_ne (k:=N) (key:=key3) fun e=> hN (by rw[e]; exact dK)).trans u3,(set_ne (k:=3) (key:=key3) fun e=> hK3 (by rw[e]; exact dK)).trans u4⟩ ?_);simp only[simprocAttr, -Int.reduceNatCast',R0,h_2,hw]
  all_goals simp only[simprocAttr, -Int.reduceNatCast',R0,h_1]
 ·clear hS hl_0 h3_0 h4_0 h6_0 h8_0 h9_0 h12_0 h15_0 h16_0 h63_0 h64_0 h65_0
  rintro i s e ⟨E,q⟩ ⟨hS,h_1⟩ hge t1 ho;unfold F155_3_D at ho;cases ho;simp only[simprocAttr, -Int.reduceNatCast',R0,b155_3,h_1,eq_false hge];intro ht; subst ht;exact hS
theorem l155_2(x:GComplex)(c:GContraction)(y:GComplex){k tp:Int}{p:Int}{dv m:V}{N c1:Nat}{K:Ks}{R:List (Nat×Option (List V))→Prop}(hR:∀E E',R E→(∀k,k < E.length→¬K k→E'[k]? =E[k]?)→R E')(hN:¬K N)(hK3:¬K 3)(wtp:ans A 86 [(eC x)]=some (V.int .i64 tp)){s s':List (List (List Int))}(hF:forR 1 (tp+1) (F155_2_B x c y k) F155_2_D s=some s'){e:Env}{h:Heap}(hS:S155 p dv m N c1 K y R s h.ents)
  (hl_0:e.length=116) (h3_0:e.at 3=V.iptr [V.int .i64 x.Prime,V.isl (x.Dims.map Enc.enc),V.isl (x.Maps.map Enc.enc)]) (h4_0:e.at 4=V.iptr [V.isl (c.Down.map Enc.enc),V.isl (c.Up.map Enc.enc),V.isl (c.Back.map Enc.enc)]) (h6_0:e.at 6=V.ptr 2 2 0) (h8_0:e.at 8=V.int .i64 k) (h9_0:e.at 9=V.ptr 3 3 0) (h12_0:e.at 12=V.int .i64 x.Prime) (h15_0:e.at 15=V.ptr N c1 0) (h16_0:e.at 16=V.int .i64 1):
  W A (.block 2 (.loop true b155_2)) e h (fun x' e h=> x'= .normal∧S155 p dv m N c1 K y R s' h.ents∧e.length=116∧e.at 3=V.iptr [V.int .i64 x.Prime,V.isl (x.Dims.map Enc.enc),V.isl (x.Maps.map Enc.enc)]∧e.at 4=V.iptr [V.isl (c.Down.map Enc.enc),V.isl (c.Up.map Enc.enc),V.isl (c.Back.map Enc.enc)]∧e.at 6=V.ptr 2 2 0∧e.at 8=V.int .i64 k∧e.at 9=V.ptr 3 3 0∧e.at 12=V.int .i64 x.Prime∧e.at 15=V.ptr N c1 0):=by
 rw[W_block];refine W_forR hF _ rfl (fun n s e h=> S155 p dv m N c1 K y R s h.ents∧e.length=116∧e.at 3=V.iptr [V.int .i64 x.Prime,V.isl (x.Dims.map Enc.enc),V.isl (x.Maps.map Enc.enc)]∧e.at 4=V.iptr [V.isl (c.Down.map Enc.enc),V.isl (c.Up.map Enc.enc),V.isl (c.Back.map Enc.enc)]∧e.at 6=V.ptr 2 2 0∧e.at 8=V.int .i64 k∧e.at 9=V.ptr 3 3 0∧e.at 12=V.int .i64 x.Prime∧e.at 15=V.ptr N c1 0∧e.at 16=V.int .i64 n) ⟨hS,hl_0,h3_0,h4_0,h6_0,h8_0,h9_0,h12_0,h15_0,h16_0⟩ ?_ ?_
 ·clear hS hl_0 h3_0 h4_0 h6_0 h8_0 h9_0 h12_0 h15_0 h16_0
  rintro n s e ⟨E,q⟩ ⟨hS,h_1⟩ hlt hw o ho;unfold F155_2_B at ho;have hle:n≤tp:=by omega
  obtain⟨rows,g1,ho⟩:=bS ho;obtain⟨w1a,w1b⟩:=getI_w g1;have w1c:=getI_lt g1;obtain⟨s2,g2,ho⟩:=bS ho;cases ho;simp only[simprocAttr,R0,b155_2,h_1,wtp,eq_true hle,w1a,w1b,eq_true w1c];refine W.mono (l155_3 x c y hR hN hK3 g2 (h:=⟨E,q⟩) hS ?_ ?_ ?_ ?_ ?_ ?_ ?_ ?_ ?_ ?_ ?_ ?_) ?_
  rotate_right
  ·rintro _ e ⟨E2,q2⟩ ⟨rfl,hS2,h_2⟩
   simp only[simprocAttr,R0,h_2,hw];refine And.intro rfl (And.intro hS2 ?_);simp only[simprocAttr,R0,h_2,hw]
  all_goals simp only[simprocAttr,R0,h_1]
 ·clear hS hl_0 h3_0 h4_0 h6_0 h8_0 h9_0 h12_0 h15_0 h16_0
  rintro n s e ⟨E,q⟩ ⟨hS,h_1⟩ hge t1 ho;unfold F155_2_D at ho;have hle:¬n≤tp:=by omega
  cases ho;simp only[simprocAttr,R0,b155_2,h_1,wtp,eq_false hle];intro ht; subst ht;exact hS
theorem d155(x:GComplex)(c:GContraction)(f:List (List (List Int))){r:T2 GComplex Int}(hF:F155 x c f=some r):∃v h',res A 155 [(eC x),(eK c),V.isl (f.map Enc.enc)] Heap.empty=some (v,h')∧∃vs K,v=V.tup vs∧repF h' vs [⟨r.a⟩,⟨r.b⟩] K:=by
 refine res_dp (f:=p155) rfl rfl rfl fun e hl he=>?_;have h0_0:e.at 0=(eC x):=he 0 _ rfl;have h1_0:e.at 1=(eK c):=he 1 _ rfl;have h2_0:e.at 2=V.isl (f.map Enc.enc):=he 2 _ rfl;have hl_0:e.length=116:=hl;clear he hl;show W A b155 e ⟨[],0⟩ _;unfold F155 at hF;obtain⟨t,gt,hF⟩:=bS hF;have wt:ans A 172 [(eC x),(eK c),V.isl (f.map Enc.enc)]=some (V.tup [V.int .i64 t.a,(eC t.b),V.int .i64 t.c]):=s172 x c f gt;by_cases c3:t.c=0
 ·rw[if_pos c3]at hF
  obtain⟨d,gd,hF⟩:=bS hF;obtain⟨o,go,hF⟩:=bS hF;obtain⟨tp,gtp,hF⟩:=bS hF;obtain⟨m',gm,hF⟩:=bS hF;have hE:=Option.some.inj hF; subst hE;have wtp:ans A 86 [(eC x)]=some (V.int .i64 tp):=s86 x gtp;simp only[simprocAttr, -Int.reduceNatCast',R0,b155,hl_0,h0_0,h1_0,h2_0,wt,eq_true c3];refine W.mono (Q:=fun x' e h=> x'= .normal∧e.length=116∧e.at 3=V.iptr [V.int .i64 x.Prime,V.isl (x.Dims.map Enc.enc),V.isl (x.Maps.map Enc.enc)]∧e.at 4=V.iptr [V.isl (c.Down.map Enc.enc),V.isl (c.Up.map Enc.enc),V.isl (c.Back.map Enc.enc)]∧e.at 6=V.ptr 2 2 0∧e.at 8=V.int .i64 t.a∧e.at 9=V.ptr 3 3 0∧e.at 12=V.int .i64 x.Prime∧h.ents[2]? =some (2,some [V.int .i64 0,V.nils,V.nils])∧h.ents[3]? =some (3,some [V.int .i64 t.b.Prime,V.isl (t.b.Dims.map Enc.enc),V.isl (t.b.Maps.map Enc.enc)])∧∃u,h.ents[4]? =some (u,some (d.map Enc.enc))∧e.at 11=V.sl 4 u 0 d.length 1) ?_ ?_
  ·show W A (.block 0 (.loop true b155_1)) _ _ _
   rw[W_block];refine W_forR gd _ rfl (fun i s e h=> e.length=116∧e.at 3=V.iptr [V.int .i64 x.Prime,V.isl (x.Dims.map Enc.enc),V.isl (x.Maps.map Enc.enc)]∧e.at 4=V.iptr [V.isl (c.Down.map Enc.enc),V.isl (c.Up.map Enc.enc),V.isl (c.Back.map Enc.enc)]∧e.at 6=V.ptr 2 2 0∧e.at 8=V.int .i64 t.a∧e.at 9=V.ptr 3 3 0∧e.at 12=V.int .i64 x.Prime∧e.at 38=V.isl (c.Up.map Enc.enc)∧e.at 39=V.int .i64 (c.Up.length:Int)∧e.at 40=V.int .i64 i∧h.ents[2]? =some (2,some [V.int .i64 0,V.nils,V.nils])∧h.ents[3]? =some (3,some [V.int .i64 t.b.Prime,V.isl (t.b.Dims.map Enc.enc),V.isl (t.b.Maps.map Enc.enc)])∧∃u,h.ents[4]? =some (u,some (s.map Enc.enc))∧e.at 11=V.sl 4 u 0 s.length 1) ?_ ?_ ?_
   ·simp only[simprocAttr, -Int.reduceNatCast',R0,hl_0,h0_0,h1_0,h2_0]
    exact⟨4,rfl,rfl⟩
   ·clear hl_0 h0_0 h1_0 h2_0
    rintro i s e ⟨E,q⟩ ⟨hl_1,h3_1,h4_1,h6_1,h8_1,h9_1,h12_1,h38_1,h39_1,h40_1,g2,g3,u,g4,h11_1⟩ hlt hw s' ho;simp only at g2 g3 g4;unfold F155_1_B at ho;obtain⟨rows,g5,ho⟩:=bS ho;obtain⟨w5a,w5b⟩:=getI_w g5;obtain⟨l2,gl2,ho⟩:=bS ho;have ws:ans A 89 [V.isl (rows.map Enc.enc)]=some (V.int .i64 (rows.length:Int)):=s89 rows rfl;have hE:=Option.some.inj ho; subst hE;have h4l:4 < E.length:=(List.getElem?_eq_some_iff.1 g4).1;have g4':(E++[(q,some [V.int .i64 (rows.length:Int)])])[4]? =some (u,some (s.map Enc.enc)):=(List.getElem?_append_left h4l).trans g4;have wap:=appendV_w (α:=Int) (n:=s.length) (m:=1) (ds:=[V.int .i64 (rows.length:Int)]) gl2 rfl rfl rfl (E++[(q,some [V.int .i64 (rows.length:Int)])]) 4 u (q+1) g4';simp only[simprocAttr, -Int.reduceNatCast',R0,b155_1,hl_1,h3_1,h4_1,h6_1,h8_1,h9_1,h12_1,h38_1,h39_1,h40_1,h11_1,eq_true hlt,hw,w5a,w5b,ws,get_last,wap];refine And.intro rfl ?_;simp only[simprocAttr, -Int.reduceNatCast',R0,hl_1,h3_1,h4_1,h6_1,h8_1,h9_1,h12_1,h38_1,h39_1,h40_1,h11_1,hw];exact⟨(set_ne (by decide)).trans ((List.getElem?_append_left (by omega)).trans g2),(set_ne (by decide)).trans ((List.getElem?_append_left (by omega)).trans g3),_,set_app_key (by simp; omega),rfl⟩
   ·clear hl_0 h0_0 h1_0 h2_0
    rintro i s e ⟨E,q⟩ ⟨hl_1,h3_1,h4_1,h6_1,h8_1,h9_1,h12_1,h38_1,h39_1,h40_1,g2,g3,u,g4,h11_1⟩ hge t1 ho;unfold F155_1_D at ho;have hE:=Option.some.inj ho; subst hE;simp only[simprocAttr, -Int.reduceNatCast',R0,b155_1,hl_1,h3_1,h4_1,h6_1,h8_1,h9_1,h12_1,h38_1,h39_1,h40_1,h11_1,eq_false hge];intro ht; subst ht;exact⟨g2,g3,u,g4,rfl⟩
  clear hl_0 h0_0 h1_0 h2_0;rintro _ e ⟨E0,c0⟩ ⟨rfl,hl_0,h3_0,h4_0,h6_0,h8_0,h9_0,h12_0,g2,g3,u,g4,h11_0⟩;simp only at g2 g3 g4;have h4l:4 < E0.length:=(List.getElem?_eq_some_iff.1 g4).1;obtain⟨_,⟨E1,c1⟩,w1,e1,e2,m,K,rfl,t1,t2,t3,t4⟩:=d74 x.Prime d go E0 c0 g4;simp only at t3 t4;have a2:=(t3 2 (by omega)).trans g2;have a3:=(t3 3 (by omega)).trans g3;have a4:=(t3 4 h4l).trans g4;have hKN:¬K E1.length:=fun q=> by have:=Deep.bd t1 q; simp at this
  have hK3:¬K 3:=fun q=> by have:=t2 _ q; omega
  have hR:∀E E',(fun E:List (Nat×Option (List V))=> E[2]? =some (2,some [V.int .i64 0,V.nils,V.nils])∧E[4]? =some (u,some (d.map Enc.enc))) E→(∀k,k < E.length→¬K k→E'[k]? =E[k]?)→(fun E:List (Nat×Option (List V))=> E[2]? =some (2,some [V.int .i64 0,V.nils,V.nils])∧E[4]? =some (u,some (d.map Enc.enc))) E':=fun E E' h hk=>
   ⟨(hk 2 (List.getElem?_eq_some_iff.1 h.1).1 (fun q=> by have:=t2 _ q; omega)).trans h.1,(hk 4 (List.getElem?_eq_some_iff.1 h.2).1 (fun q=> by have:=t2 _ q; omega)).trans h.2⟩
  have S0:S155 o.Prime (V.sl 4 u 0 d.length 1) m E1.length c1 K t.b (fun E:List (Nat×Option (List V))=> E[2]? =some (2,some [V.int .i64 0,V.nils,V.nils])∧E[4]? =some (u,some (d.map Enc.enc))) o.Maps (E1++[(c1,some [V.int .i64 o.Prime,V.sl 4 u 0 d.length 1,m])]):=
   ⟨Deep.frame t1 fun k q=> List.getElem?_append_left (Deep.bd t1 q),⟨(List.getElem?_append_left (by omega)).trans a2,(List.getElem?_append_left (by omega)).trans a4⟩,get_last _ _,(List.getElem?_append_left (by omega)).trans a3⟩
  simp only[simprocAttr, -Int.reduceNatCast',R0,hl_0,h3_0,h4_0,h6_0,h8_0,h9_0,h12_0,h11_0,callM_plain_eq,w1,get_last,set_last];refine W.mono (l155_2 x c t.b hR hKN hK3 wtp gm (h:=⟨E1++[(c1,some [V.int .i64 o.Prime,V.sl 4 u 0 d.length 1,m])],c1+1⟩) S0 ?_ ?_ ?_ ?_ ?_ ?_ ?_ ?_ ?_) ?_
  rotate_right
  ·rintro _ e ⟨E4,c4⟩ ⟨rfl,⟨S3,⟨S6,S7⟩,S5,S8⟩,hl_2,h3_2,h4_2,h6_2,h8_2,h9_2,h12_2,h15_2⟩
   simp only at S5 S6 S7 S8;have hE0:2 < E4.length:=(List.getElem?_eq_some_iff.1 S6).1;simp only[simprocAttr, -Int.reduceNatCast',R0,hl_2,h3_2,h4_2,h6_2,h8_2,h9_2,h12_2,h15_2,S5,S6];have hq:(E4.set 2 (2,some [V.int .i64 o.Prime,V.sl 4 u 0 d.length 1,m]))[4]? =some (u,some (d.map Enc.enc)):=(set_ne (by decide)).trans S7;have r1:Deep.rep ⟨E4.set 2 (2,some [V.int .i64 o.Prime,V.sl 4 u 0 d.length 1,m]),c4⟩ (V.sl 4 u 0 d.length 1) o.Dims (fun k=> k=4):=by rw[e2]; exact int_row hq fun k=> Iff.rfl
   have r2:Deep.rep ⟨E4.set 2 (2,some [V.int .i64 o.Prime,V.sl 4 u 0 d.length 1,m]),c4⟩ m m' K:=Deep.frame S3 fun k q=> set_ne (by have:=t2 _ q; omega);have rr:Deep.rep ⟨E4.set 2 (2,some [V.int .i64 o.Prime,V.sl 4 u 0 d.length 1,m]),c4⟩ (V.agg [V.int .i64 o.Prime,V.sl 4 u 0 d.length 1,m]) (⟨o.Prime,o.Dims,m'⟩:GComplex) (fun k=> k=4∨K k):=⟨_,rfl,rec3 r1 r2 (fun k p q=> by have:=t2 _ q; omega)⟩;refine And.intro (fun _=> trivial) ⟨V.tup [V.agg [V.int .i64 o.Prime,V.sl 4 u 0 d.length 1,m],V.int .i64 0],by simp only[simprocAttr, -Int.reduceNatCast',R0,fn_out,p155,Rs.ev,hl_2,h3_2,h4_2,h6_2,h8_2,h9_2,h12_2,h15_2,set_app_key hE0],_,_,rfl,pair_rep rr _⟩
  all_goals simp only[simprocAttr, -Int.reduceNatCast',R0,hl_0,h3_0,h4_0,h6_0,h8_0,h9_0,h12_0,h11_0]
 ·rw[if_neg c3]at hF
  have hE:=Option.some.inj hF; subst hE;have zr:∀h,Deep.rep h (V.agg [V.int .i64 0,V.nils,V.nils]) (⟨0,[],[]⟩:GComplex) _:=fun h=>⟨_,rfl,rec3 (rep_nils h) (rep_nils h) fun _ x _=> x⟩;simp only[simprocAttr, -Int.reduceNatCast',R0,b155,hl_0,h0_0,h1_0,h2_0,wt,eq_false c3];refine And.intro (fun _=> trivial) ⟨V.tup [V.agg [V.int .i64 0,V.nils,V.nils],V.int .i64 t.c],?_,_,_,rfl,pair_rep (α:=GComplex) (zr _) _⟩;simp only[simprocAttr, -Int.reduceNatCast',R0,fn_out,p155,Rs.ev,hl_0]
theorem x155(x:GComplex)(c:GContraction)(f:List (List (List Int))){r:T2 GComplex Int}(hF:F155 x c f=some r):tans A 155 [1,1,1] [(eC x),(eK c),V.isl (f.map Enc.enc)]=some (V.tup [Enc.enc r.a,V.int .i64 r.b]):=by
 obtain⟨_,h',h1,vs,K,rfl,h2⟩:=d155 x c f hF;exact tans_tup (fits_pair rfl (by decide)) h1 h2
theorem s155(x:GComplex)(c:GContraction)(f:List (List (List Int))){r:T2 GComplex Int}(hF:F155 x c f=some r):ans A 155 [(eC x),(eK c),V.isl (f.map Enc.enc)]=some (EncR.enc r):=by
 obtain⟨_,h',h1,vs,K,rfl,h2⟩:=d155 x c f hF;exact ans_tup (ss:=[1,1,1]) (fits_pair rfl (by decide)) h1 h2
def F224(a0:GContraction)(a1:Int):Option Int:=
 (F11 a0.Down a1).bind fun x1=>
 if x1 < 0 then
  some (-1)
 else
  (F11 a0.Up x1).bind fun x4=>
  if x4 < 0 then
   some (-1)
  else
   (F11 a0.Back x4).bind fun x7=>
   if x7 < 0 then
    some (-1)
   else
    some x7
theorem s224(a0:GContraction)(a1:Int){r:Int}(hF:F224 a0 a1=some r):ans A 224 [(eK a0),V.int .i64 a1]=some (Enc.enc r):=by
 refine ans_of (f:=p224) rfl rfl rfl fun e hl he=>?_;have h0_0:e.at 0=(eK a0):=he 0 _ rfl;have h1_0:e.at 1=V.int .i64 a1:=he 1 _ rfl;have hl_0:e.length=24:=hl;clear he hl;have h_0:=And.intro hl_0 (And.intro h0_0 h1_0);show W A b224 e ⟨[],0⟩ _;unfold F224 at hF;obtain⟨x1,gx1,hF⟩:=bS hF;have w2:ans A 11 [V.isl (a0.Down.map Enc.enc),V.int .i64 a1]=some (V.int .i64 x1):=s11 a0.Down a1 gx1;by_cases c3:x1 < 0
 ·rw[if_pos c3]at hF
  cases hF;simp only[simprocAttr,R0,b224,h_0,w2,eq_true c3];exact fin_ret (by simp only[simprocAttr,R0,fn_out,p224,Rs.ev,take_len_self,h_0,w2,eq_true c3])
 ·rw[if_neg c3]at hF
  obtain⟨x4,gx4,hF⟩:=bS hF;have w5:ans A 11 [V.isl (a0.Up.map Enc.enc),V.int .i64 x1]=some (V.int .i64 x4):=s11 a0.Up x1 gx4;by_cases c6:x4 < 0
  ·rw[if_pos c6]at hF
   cases hF;simp only[simprocAttr,R0,b224,h_0,w2,eq_false c3,w5,eq_true c6];exact fin_ret (by simp only[simprocAttr,R0,fn_out,p224,Rs.ev,take_len_self,h_0,w2,eq_false c3,w5,eq_true c6])
  ·rw[if_neg c6]at hF
   obtain⟨x7,gx7,hF⟩:=bS hF;have w8:ans A 11 [V.isl (a0.Back.map Enc.enc),V.int .i64 x4]=some (V.int .i64 x7):=s11 a0.Back x4 gx7;by_cases c9:x7 < 0
   ·rw[if_pos c9]at hF
    cases hF;simp only[simprocAttr,R0,b224,h_0,w2,eq_false c3,w5,eq_false c6,w8,eq_true c9];exact fin_ret (by simp only[simprocAttr,R0,fn_out,p224,Rs.ev,take_len_self,h_0,w2,eq_false c3,w5,eq_false c6,w8,eq_true c9])
   ·rw[if_neg c9]at hF
    cases hF;simp only[simprocAttr,R0,b224,h_0,w2,eq_false c3,w5,eq_false c6,w8,eq_false c9];exact fin_ret (by simp only[simprocAttr,R0,fn_out,p224,Rs.ev,take_len_self,h_0,w2,eq_false c3,w5,eq_false c6,w8,eq_false c9])
def F225(a0:GContraction):Option GContraction:=
 (F13 a0.Down).bind fun x1=>
 (F13 a0.Up).bind fun x3=>
 (F13 a0.Back).bind fun x5=>
 some ⟨x1,x3,x5⟩
theorem rec3225{α β γ:Type}[Enc α][Deep α][Enc β][Deep β][Enc γ][Deep γ]{h:Heap}{a:α}{b:β}{c:γ}{u v w:V}{K1 K2 K3:Ks}(h1:Deep.rep h u a K1)(h2:Deep.rep h v b K2)(h3:Deep.rep h w c K3)(d1:∀k,K1 k→¬K2 k)(d2:∀k,K1 k→¬K3 k)(d3:∀k,K2 k→¬K3 k):
  repF h [u,v,w] [⟨a⟩,⟨b⟩,⟨c⟩] (fun k=> K1 k∨K2 k∨K3 k):=
 repF_cons h1 (repF_cons h2 (repF_1 h3) d3) fun k x y=> y.elim (d1 k x) (d2 k x)
theorem d225(x:GContraction){r:GContraction}(hF:F225 x=some r):∃v h',res A 225 [(eK x)] Heap.empty=some (v,h')∧∃K,Deep.rep h' v r K:=by
 refine res_dp (f:=p225) rfl rfl rfl fun e hl he=>?_;have h0_0:e.at 0=(eK x):=he 0 _ rfl;have hl_0:e.length=17:=hl;clear he hl;show W A b225 e ⟨[],0⟩ _;unfold F225 at hF;obtain⟨d,gd,hF⟩:=bS hF;have w1:=x13 x.Down gd;obtain⟨u,gu,hF⟩:=bS hF;have w2:=x13 x.Up gu;obtain⟨b,gb,hF⟩:=bS hF;have w3:=x13 x.Back gb;cases hF;obtain⟨v1,⟨E1,c1⟩,K1,t1,t2,t3,t4,t5⟩:=thawD (α:=List (List (List Int))) (by decide) d ⟨[(0,none),(1,some [V.nils,V.nils,V.nils]),(2,some [V.nils,V.nils,V.nils])],3⟩;have t1':thaw 16 [1,1,1] (V.isl (d.map Enc.enc)) ⟨[(0,none),(1,some [V.nils,V.nils,V.nils]),(2,some [V.nils,V.nils,V.nils])],3⟩=some (v1,⟨E1,c1⟩):=t1;obtain⟨a1,a2⟩:=rep_one t2;simp only[List.length_cons,List.length_nil,Nat.zero_add,Nat.reduceAdd]at t3 t4 t5;have m1:E1[1]? =some (1,some [V.nils,V.nils,V.nils]):=t5 1 (by decide);have m2:E1[2]? =some (2,some [V.nils,V.nils,V.nils]):=t5 2 (by decide);obtain⟨v2,⟨E2,c2⟩,K2,r1,r2,r3,r4,r5⟩:=thawD (α:=List (List (List Int))) (by decide) u ⟨E1.set 2 (2,some [v1,V.nils,V.nils]),c1⟩;have r1':thaw 16 [1,1,1] (V.isl (u.map Enc.enc)) ⟨E1.set 2 (2,some [v1,V.nils,V.nils]),c1⟩=some (v2,⟨E2,c2⟩):=r1;obtain⟨b1,b2⟩:=rep_one r2;simp only[List.length_set]at r3 r4 r5;have n1:E2[1]? =some (1,some [V.nils,V.nils,V.nils]):=(r5 1 (by omega)).trans ((set_ne (by decide)).trans m1);have n2:E2[2]? =some (2,some [v1,V.nils,V.nils]):=(r5 2 (by omega)).trans (set_app_key (by omega));obtain⟨v3,⟨E3,c3⟩,K3,q1,q2,q3,q4,q5⟩:=thawD (α:=List (List (List Int))) (by decide) b ⟨E2.set 2 (2,some [v1,v2,V.nils]),c2⟩;have q1':thaw 16 [1,1,1] (V.isl (b.map Enc.enc)) ⟨E2.set 2 (2,some [v1,v2,V.nils]),c2⟩=some (v3,⟨E3,c3⟩):=q1;obtain⟨d1,d2⟩:=rep_one q2;simp only[List.length_set]at q3 q4 q5;have o1:E3[1]? =some (1,some [V.nils,V.nils,V.nils]):=(q5 1 (by omega)).trans ((set_ne (by decide)).trans n1);have o2:E3[2]? =some (2,some [v1,v2,V.nils]):=(q5 2 (by omega)).trans (set_app_key (by omega));have z1:∀z,(E3.set 2 z)[1]? =_:=fun z=>(set_ne (by decide)).trans o1;have z2:∀z,(E3.set 2 z)[2]? =some z:=fun z=> set_app_key (by omega);simp only[simprocAttr,R0,b225,hl_0,h0_0,w1,w2,w3,callM_tans,thaw_one,t1',a1,a2,m2,r1',b1,b2,n2,q1',d1,d2,o2,z1,z2];have f1:Deep.rep ⟨(E3.set 2 (2,some [v1,v2,v3])).set 1 (1,some [v1,v2,v3]),c3⟩ v1 d K1:=Deep.frame t2 fun k q=> by
  have:=t3 k q;exact(set_ne (by omega)).trans ((set_ne (by omega)).trans ((q5 k (by omega)).trans ((set_ne (by omega)).trans ((r5 k (by omega)).trans (set_ne (by omega))))))
 have f2:Deep.rep ⟨(E3.set 2 (2,some [v1,v2,v3])).set 1 (1,some [v1,v2,v3]),c3⟩ v2 u K2:=Deep.frame r2 fun k q=> by
  have:=r3 k q;exact(set_ne (by omega)).trans ((set_ne (by omega)).trans ((q5 k (by omega)).trans (set_ne (by omega))))
 have f3:Deep.rep ⟨(E3.set 2 (2,some [v1,v2,v3])).set 1 (1,some [v1,v2,v3]),c3⟩ v3 b K3:=Deep.frame q2 fun k q=> by
  have:=q3 k q;exact(set_ne (by omega)).trans (set_ne (by omega))
 refine And.intro (fun _=> trivial) ⟨_,by simp only[simprocAttr,R0,fn_out,p225,Rs.ev,hl_0,set_app_key (show 1 < (E3.set 2 (2,some [v1,v2,v3])).length by simp; omega)],_,_,rfl,rec3225 f1 f2 f3 (fun k p q=> by have:=t3 k p; have:=r3 k q; omega) (fun k p q=> by have:=t3 k p; have:=q3 k q; omega) (fun k p q=> by have:=r3 k p; have:=q3 k q; omega)⟩
theorem x225(x:GContraction){r:GContraction}(hF:F225 x=some r):tans A 225 [1,1,1] [(eK x)]=some (Enc.enc r):=tans_of_deep (α:=GContraction) (by decide) (d225 x hF)
theorem s225(x:GContraction){r:GContraction}(hF:F225 x=some r):ans A 225 [(eK x)]=some (Enc.enc r):=ans_of_deep (α:=GContraction) (by decide) (d225 x hF)
def F228(a0:GContraction)(a1:GContraction):Option Bool:=
 (F17 a0.Down a1.Down).bind fun x1=>
 if x1=true then
  (F17 a0.Up a1.Up).bind fun x3=>
  if x3=true then
   (F17 a0.Back a1.Back).bind fun x5=>
   if x5=true then
    some true
   else
    some false
  else
   some false
 else
  some false
theorem s228(a0:GContraction)(a1:GContraction){r:Bool}(hF:F228 a0 a1=some r):ans A 228 [(eK a0),(eK a1)]=some (Enc.enc r):=by
 refine ans_of (f:=p228) rfl rfl rfl fun e hl he=>?_;have h0_0:e.at 0=(eK a0):=he 0 _ rfl;have h1_0:e.at 1=(eK a1):=he 1 _ rfl;have hl_0:e.length=23:=hl;clear he hl;have h_0:=And.intro hl_0 (And.intro h0_0 h1_0);show W A b228 e ⟨[],0⟩ _;unfold F228 at hF;obtain⟨x1,gx1,hF⟩:=bS hF;have w2:ans A 17 [V.isl (a0.Down.map Enc.enc),V.isl (a1.Down.map Enc.enc)]=some (V.bool x1):=s17 a0.Down a1.Down gx1;cases x1 with
 |true=>
  rw[if_pos rfl]at hF;obtain⟨x3,gx3,hF⟩:=bS hF;have w4:ans A 17 [V.isl (a0.Up.map Enc.enc),V.isl (a1.Up.map Enc.enc)]=some (V.bool x3):=s17 a0.Up a1.Up gx3;cases x3 with
  |true=>
   rw[if_pos rfl]at hF;obtain⟨x5,gx5,hF⟩:=bS hF;have w6:ans A 17 [V.isl (a0.Back.map Enc.enc),V.isl (a1.Back.map Enc.enc)]=some (V.bool x5):=s17 a0.Back a1.Back gx5;cases x5 with
   |true=>
    rw[if_pos rfl]at hF;cases hF;simp only[simprocAttr,R0,b228,h_0,w2,w4,w6];exact fin_ret (by simp only[simprocAttr,R0,fn_out,p228,Rs.ev,take_len_self,h_0,w2,w4,w6])
   |false=>
    rw[if_neg Bool.false_ne_true]at hF;cases hF;simp only[simprocAttr,R0,b228,h_0,w2,w4,w6];exact fin_ret (by simp only[simprocAttr,R0,fn_out,p228,Rs.ev,take_len_self,h_0,w2,w4,w6])
  |false=>
   rw[if_neg Bool.false_ne_true]at hF;cases hF;simp only[simprocAttr,R0,b228,h_0,w2,w4];exact fin_ret (by simp only[simprocAttr,R0,fn_out,p228,Rs.ev,take_len_self,h_0,w2,w4])
 |false=>
  rw[if_neg Bool.false_ne_true]at hF;cases hF;simp only[simprocAttr,R0,b228,h_0,w2];exact fin_ret (by simp only[simprocAttr,R0,fn_out,p228,Rs.ev,take_len_self,h_0,w2])
def FM327(x:GContraction)(k:Int):Option (GContraction×Int):=(F21 x.Down k).bind fun t=>(F21 x.Up t.2).bind fun u=>(F21 x.Back u.2).bind fun w=> some (⟨t.1,u.1,w.1⟩,w.2)
theorem rec3d_un{α β γ:Type}[Enc α][Deep α][Enc β][Deep β][Enc γ][Deep γ]{h:Heap}{vs:List V}{a:α}{b:β}{c:γ}{K:Ks}(r:repF h vs [⟨a⟩,⟨b⟩,⟨c⟩] K):∃u v w,∃K1 K2 K3:Ks,vs=[u,v,w]∧Deep.rep h u a K1∧Deep.rep h v b K2∧Deep.rep h w c K3∧
  (∀k,K1 k→¬K2 k)∧(∀k,K1 k→¬K3 k)∧(∀k,K2 k→¬K3 k)∧∀k,K k↔K1 k∨K2 k∨K3 k:=by
 obtain⟨u,ws',K1,J1,rfl,h1,r2,h3,h4⟩:=repF_cons_un r;obtain⟨v,ws2,K2,J2,rfl,h5,r3,h6,h7⟩:=repF_cons_un r2;obtain⟨w,rfl,h8⟩:=repF_1un r3;exact⟨u,v,w,K1,K2,J2,rfl,h1,h5,h8,fun k x y=> h3 k x ((h7 k).2 (.inl y)),fun k x y=> h3 k x ((h7 k).2 (.inr y)),h6,fun k=> by rw[h4,h7]⟩
theorem rec3d{α β γ:Type}[Enc α][Deep α][Enc β][Deep β][Enc γ][Deep γ]{h:Heap}{a:α}{b:β}{c:γ}{u v w:V}{K1 K2 K3:Ks}(h1:Deep.rep h u a K1)(h2:Deep.rep h v b K2)(h3:Deep.rep h w c K3)(d1:∀k,K1 k→¬K2 k)(d2:∀k,K1 k→¬K3 k)(d3:∀k,K2 k→¬K3 k):
  repF h [u,v,w] [⟨a⟩,⟨b⟩,⟨c⟩] (fun k=> K1 k∨K2 k∨K3 k):=
 repF_cons h1 (repF_cons h2 (repF_1 h3) d3) fun k x y=> y.elim (d1 k x) (d2 k x)
theorem dm327{x:GContraction}{k:Int}{r:GContraction×Int}(hF:FM327 x k=some r)(h:Heap){v:V}{K:Ks}(hr:Deep.rep h v x K):∃h',res A 327 [v,V.int .i64 k] h=some (V.int .i64 r.2,h')∧Deep.rep h' v r.1 K∧(∀k,k < h.ents.length→¬K k→h'.ents[k]? =h.ents[k]?)∧h.ents.length≤h'.ents.length:=by
 obtain⟨vs,rfl,r0⟩:=hr;obtain⟨dv,av,bv,K1,K2,K3,rfl,g1,g2,g3,d1,d2,d3,hK⟩:=rec3d_un r0;refine res_ex (f:=p327) rfl rfl rfl fun e hl he=>?_;have h0_0:e.at 0=V.agg [dv,av,bv]:=he 0 _ rfl;have h1_0:e.at 1=V.int .i64 k:=he 1 _ rfl;have hl_0:e.length=18:=hl;clear he hl;show W A b327 e h _;unfold FM327 at hF;obtain⟨t,gt,hF⟩:=bS hF;obtain⟨u,gu,hF⟩:=bS hF;obtain⟨w,gw,hF⟩:=bS hF;cases hF;obtain⟨E,c⟩:=h;have pre:∀ (x:Nat×Option (List V)) k,k < E.length→(E++[x])[k]? =E[k]?:=fun x k hk=> List.getElem?_append_left hk;have n1:¬K1 E.length:=fun x=> by have:=Deep.bd g1 x; simp at this
 have n2:¬K2 E.length:=fun x=> by have:=Deep.bd g2 x; simp at this
 have n3:¬K3 E.length:=fun x=> by have:=Deep.bd g3 x; simp at this
 obtain⟨⟨E3,c3⟩,w1,a1,a2,a3⟩:=d21 gt ⟨E++[(c,some [dv,av,bv])],c+1⟩ (Deep.frame g1 fun k hk=> pre _ k (Deep.bd g1 hk));simp only[le1]at a2 a3;have m1:E3[E.length]? =some (c,some [dv,av,bv]):=(a2 _ n1).trans (get_last _ _);have g2':Deep.rep ⟨E3,c3⟩ av x.Up K2:=Deep.frame g2 fun k hk=>(a2 k fun q=> d1 k q hk).trans (pre _ k (Deep.bd g2 hk));obtain⟨⟨E4,c4⟩,w2,b1,b2,b3⟩:=d21 gu ⟨E3,c3⟩ g2';simp only at b2 b3;have m2:E4[E.length]? =some (c,some [dv,av,bv]):=(b2 _ n2).trans m1;have g3':Deep.rep ⟨E4,c4⟩ bv x.Back K3:=Deep.frame g3 fun k hk=>(b2 k fun q=> d3 k q hk).trans ((a2 k fun q=> d2 k q hk).trans (pre _ k (Deep.bd g3 hk)));obtain⟨⟨E5,c5⟩,w3,e1,e2,e3⟩:=d21 gw ⟨E4,c4⟩ g3';simp only at e2 e3;have r1:Deep.rep ⟨E5,c5⟩ dv t.1 K1:=Deep.frame a1 fun k hk=>(e2 k fun q=> d2 k hk q).trans (b2 k fun q=> d1 k hk q);have r2:Deep.rep ⟨E5,c5⟩ av u.1 K2:=Deep.frame b1 fun k hk=> e2 k fun q=> d3 k hk q;simp only[simprocAttr,R1,b327,hl_0,h0_0,h1_0,get_last,callM_plain_eq,w1,m1,w2,m2,w3];refine And.intro (fun _=> trivial) ⟨?_,⟨_,rfl,(rec3d r1 r2 e1 d1 d2 d3).to hK⟩,fun k hk nk=>?_,by first|omega|(simp at a3; omega)⟩
 ·simp only[simprocAttr,R1,fn_out,p327,Rs.ev,mapO,hl_0]
 ·rw[hK]at nk
  exact(e2 k fun q=> nk (.inr (.inr q))).trans ((b2 k fun q=> nk (.inr (.inl q))).trans ((a2 k fun q=> nk (.inl q)).trans (pre _ k hk)))
def F80_2_S(a0:Int)(a1:List (List Int))(a2:List Int)(v10_1:Int)(s:(List Int)×Int):Option (((List Int)×Int)⊕((List Int))):=
 match s with
 |(o0_2,v11_2)=>
  if v11_2 < ((o0_2.length:Nat):Int)then
   (getI o0_2 v11_2).bind fun x12=>
   (getI a2 v10_1).bind fun x14=>
   (getI a1 v10_1).bind fun x16=>
   (getI x16 v11_2).bind fun x18=>
   (chk (x14*x18)).bind fun x20=>
   (chk (x12+x20)).bind fun x21=>
   (remI x21 a0).bind fun x22=>
   (setI o0_2 v11_2 x22).bind fun l24=>
   (chk (v11_2+1)).bind fun x26=>
   some (.inl (l24,x26))
  else
   some (.inr o0_2)
def F80_1_B(a0:Int)(a1:List (List Int))(a2:List Int)(v10_1:Int)(o0_1:(List Int)):Option (((List Int))⊕((List Int))):=
 (loopW (F80_2_S a0 a1 a2 v10_1) (o0_1,0)).bind fun zo0_2=>
some (.inl zo0_2)
def F80_1_D(a0:Int)(a1:List (List Int))(a2:List Int)(v10_1:Int)(o0_1:(List Int)):Option ((List Int)):=
 some o0_1
def F80(a0:Int)(a1:List (List Int))(a2:List Int)(a3:Int):Option (List Int):=
 (mkL 8 a3 0).bind fun l1=>
 (forR 0 (a2.length:Int) (F80_1_B a0 a1 a2) (F80_1_D a0 a1 a2) l1).bind fun zo0_1=>
 some zo0_1
def I80_2(a0:Int)(a1:List (List Int))(a2:List Int)(v10_1:Int)(s:(List Int)×Int)(e:Env)(h:Heap):Prop:=
 match s with
 |(o0_2,v11_2)=>
  ∃u8 k9:Nat,h=⟨[(u8,some (o0_2.map Enc.enc))],k9⟩∧e.length=49∧e.at 0=V.int .i64 a0∧e.at 1=V.isl (a1.map Enc.enc)∧e.at 2=V.isl (a2.map Enc.enc)∧e.at 9=V.sl 0 u8 0 o0_2.length 1∧e.at 10=V.int .i64 v10_1∧e.at 11=V.int .i64 v11_2
def P80_2(a0:Int)(a1:List (List Int))(a2:List Int)(v10_1:Int)(zo0_2:(List Int))(x:Ex)(e:Env)(h:Heap):Prop:=
 x= .normal∧∃u8 k9:Nat,h=⟨[(u8,some (zo0_2.map Enc.enc))],k9⟩∧e.length=49∧e.at 0=V.int .i64 a0∧e.at 1=V.isl (a1.map Enc.enc)∧e.at 2=V.isl (a2.map Enc.enc)∧e.at 9=V.sl 0 u8 0 zo0_2.length 1∧e.at 10=V.int .i64 v10_1
theorem l80_2(a0:Int)(a1:List (List Int))(a2:List Int)(v10_1:Int){s:(List Int)×Int}{t:(List Int)}(hF:loopW (F80_2_S a0 a1 a2 v10_1) s=some t){e:Env}{h:Heap}(hI:I80_2 a0 a1 a2 v10_1 s e h):W A c80_2 e h (P80_2 a0 a1 a2 v10_1 t):=by
 show W A (.block 2 (.loop false b80_2)) e h _;rw[W_block];refine W_loop hF 1 (by rcases s with⟨_,_⟩; obtain⟨_,_,rfl,_⟩:=hI; rfl) (I80_2 a0 a1 a2 v10_1) hI ?_
 ·rintro⟨o0_2,v11_2⟩ e h ⟨u8,k9,rfl,h_7⟩ o ho
  unfold F80_2_S at ho;dsimp only at ho;by_cases c11:v11_2 < ((o0_2.length:Nat):Int)
  ·rw[if_pos c11]at ho
   obtain⟨x12,gx12,ho⟩:=bS ho;obtain⟨w13a,w13b⟩:=getI_w gx12;have w13c:=getI_lt gx12;have w13d:List.drop (Int.toNat v11_2) (o0_2.map Enc.enc)=(V.int .i64 x12)::List.drop ((Int.toNat v11_2)+1) (o0_2.map Enc.enc):=drop_enc w13b;obtain⟨x14,gx14,ho⟩:=bS ho;obtain⟨w15a,w15b⟩:=getI_w gx14;obtain⟨x16,gx16,ho⟩:=bS ho;obtain⟨w17a,w17b⟩:=getI_w gx16;obtain⟨x18,gx18,ho⟩:=bS ho;obtain⟨w19a,w19b⟩:=getI_w gx18;obtain⟨x20,gx20,ho⟩:=bS ho;have wx20:=chk_w gx20;obtain⟨x21,gx21,ho⟩:=bS ho;have wx21:=chk_w gx21;obtain⟨x22,gx22,ho⟩:=bS ho;obtain⟨w23a,w23b⟩:=rem_w gx22;obtain⟨l24,gl24,ho⟩:=bS ho;obtain⟨w25a,w25b,w25c,w25d,w25e⟩:=setI_w gl24;replace w25e:List.take (Int.toNat v11_2) (o0_2.map Enc.enc)++[V.int .i64 x22]++List.drop (Int.toNat v11_2+1) (o0_2.map Enc.enc)=List.map Enc.enc l24:=w25e;obtain⟨x26,gx26,ho⟩:=bS ho;have wx26:=chk_w gx26;cases ho;simp only[simprocAttr,R0,b80_2,h_7,eq_true c11,w13a,w13b,w13c,w13d,w15a,w15b,w17a,w17b,w19a,w19b,wx20,wx21,eq_false w23a,w23b,w25a,w25b,w25c,w25e,wx26];refine And.intro rfl (Exists.intro _ (Exists.intro _ (And.intro rfl ?_)));simp only[simprocAttr,R0,h_7,eq_true c11,w13a,w13b,w13c,w13d,w15a,w15b,w17a,w17b,w19a,w19b,wx20,wx21,eq_false w23a,w23b,w25a,w25b,w25c,w25e,wx26,w25d]
  ·rw[if_neg c11]at ho
   cases ho;simp only[simprocAttr,R0,b80_2,h_7,eq_false c11];intro ht; subst ht;simp only[simprocAttr,RR,RB];refine And.intro rfl (Exists.intro _ (Exists.intro _ (And.intro rfl ?_)));simp only[simprocAttr,R0,h_7,eq_false c11]
def I80_1(a0:Int)(a1:List (List Int))(a2:List Int)(v10_1:Int)(o0_1:(List Int))(e:Env)(h:Heap):Prop:=
 ∃u4 k5:Nat,h=⟨[(u4,some (o0_1.map Enc.enc))],k5⟩∧e.length=49∧e.at 0=V.int .i64 a0∧e.at 1=V.isl (a1.map Enc.enc)∧e.at 2=V.isl (a2.map Enc.enc)∧e.at 9=V.sl 0 u4 0 o0_1.length 1∧e.at 10=V.int .i64 v10_1
def P80_1(a0:Int)(a1:List (List Int))(a2:List Int)(zo0_1:(List Int))(x:Ex)(e:Env)(h:Heap):Prop:=
 x= .normal∧∃u4 k5:Nat,h=⟨[(u4,some (zo0_1.map Enc.enc))],k5⟩∧e.length=49∧e.at 9=V.sl 0 u4 0 zo0_1.length 1
theorem l80_1(a0:Int)(a1:List (List Int))(a2:List Int){lo:Int}{s:(List Int)}{t:(List Int)}(hF:forR lo (a2.length:Int) (F80_1_B a0 a1 a2) (F80_1_D a0 a1 a2) s=some t){e:Env}{h:Heap}(hI:I80_1 a0 a1 a2 lo s e h):W A c80_1 e h (P80_1 a0 a1 a2 t):=by
 show W A (.block 0 (.loop false b80_1)) e h _;rw[W_block];refine W_forR hF 1 (by obtain⟨_,_,rfl,_⟩:=hI; rfl) (I80_1 a0 a1 a2) hI ?_ ?_
 ·rintro v10_1 o0_1 e h ⟨u4,k5,rfl,h_3⟩ hlt hw o ho
  unfold F80_1_B at ho;obtain⟨zo0_2,gt27,ho⟩:=bS ho;simp only[simprocAttr,R0,b80_1,h_3,eq_true hlt,hw];refine W.mono (l80_2 a0 a1 a2 v10_1 gt27 (Exists.intro _ (Exists.intro _ (And.intro rfl ?_)))) ?_
  ·simp only[simprocAttr,R0,h_3,eq_true hlt,hw]
  rintro _ e _ ⟨rfl,u8,k9,rfl,h_10⟩;cases ho;simp only[simprocAttr,R0,h_10,eq_true hlt,hw];refine And.intro rfl (Exists.intro _ (Exists.intro _ (And.intro rfl ?_)));simp only[simprocAttr,R0,h_10,eq_true hlt,hw]
 ·rintro v10_1 o0_1 e h ⟨u4,k5,rfl,h_3⟩ hge t1 ho
  unfold F80_1_D at ho;cases ho;simp only[simprocAttr,R0,b80_1,h_3,eq_false hge];intro ht; subst ht;refine And.intro rfl (Exists.intro _ (Exists.intro _ (And.intro rfl ?_)));simp only[simprocAttr,R0,h_3,eq_false hge]
theorem s80(a0:Int)(a1:List (List Int))(a2:List Int)(a3:Int){r:List Int}(hF:F80 a0 a1 a2 a3=some r):ans A 80 [V.int .i64 a0,V.isl (a1.map Enc.enc),V.isl (a2.map Enc.enc),V.int .i64 a3]=some (Enc.enc r):=by
 refine ans_of (f:=p80) rfl rfl rfl fun e hl he=>?_;have h0_0:e.at 0=V.int .i64 a0:=he 0 _ rfl;have h1_0:e.at 1=V.isl (a1.map Enc.enc):=he 1 _ rfl;have h2_0:e.at 2=V.isl (a2.map Enc.enc):=he 2 _ rfl;have h3_0:e.at 3=V.int .i64 a3:=he 3 _ rfl;have hl_0:e.length=49:=hl;clear he hl;show W A b80 e ⟨[],0⟩ _;unfold F80 at hF;obtain⟨l1,gl1,hF⟩:=bS hF;obtain⟨w2a,w2b,w2c,w2d,w2e⟩:=mkL_w gl1;replace w2e:(List.replicate (Int.toNat a3) [V.int .i64 0]).flatten=List.map Enc.enc l1:=w2e;obtain⟨zo0_1,gt28,hF⟩:=bS hF;simp only[simprocAttr, -Int.reduceNatCast',R0,b80,hl_0,h0_0,h1_0,h2_0,h3_0,w2a,w2b,w2c,w2e];refine W.mono (l80_1 a0 a1 a2 gt28 (Exists.intro _ (Exists.intro _ (And.intro rfl ?_)))) ?_
 ·simp only[simprocAttr, -Int.reduceNatCast',R0,hl_0,h0_0,h1_0,h2_0,h3_0,w2a,w2b,w2c,w2e,w2d]
 rintro _ e _ ⟨rfl,u4,k5,rfl,hl_6,h9_6⟩;have hE:=Option.some.inj hF; subst hE;simp only[simprocAttr, -Int.reduceNatCast',R0,hl_6,h9_6];exact fin_ret (by simp only[simprocAttr, -Int.reduceNatCast',R0,fn_out,p80,Rs.ev,take_len_self,hl_6,h9_6,frzs (α:=Int) zo0_1,takes (α:=Int) zo0_1])
def F54(a0:Int)(a1:Int)(a2:Int):Option Bool:=
 if a1≤a0 then
  some (decide (a0≤a2))
 else
  some false
theorem s54(a0:Int)(a1:Int)(a2:Int){r:Bool}(hF:F54 a0 a1 a2=some r):ans A 54 [V.int .i64 a0,V.int .i64 a1,V.int .i64 a2]=some (Enc.enc r):=by
 refine ans_of (f:=p54) rfl rfl rfl fun e hl he=>?_;have h0_0:e.at 0=V.int .i64 a0:=he 0 _ rfl;have h1_0:e.at 1=V.int .i64 a1:=he 1 _ rfl;have h2_0:e.at 2=V.int .i64 a2:=he 2 _ rfl;have hl_0:e.length=15:=hl;clear he hl;have h_0:=And.intro hl_0 (And.intro h0_0 (And.intro h1_0 h2_0));show W A b54 e ⟨[],0⟩ _;unfold F54 at hF;by_cases c1:a1≤a0
 ·rw[if_pos c1]at hF
  cases hF;simp only[simprocAttr,R0,b54,h_0,eq_true c1];exact fin_ret (by simp only[simprocAttr,R0,fn_out,p54,Rs.ev,take_len_self,h_0,eq_true c1])
 ·rw[if_neg c1]at hF
  cases hF;simp only[simprocAttr,R0,b54,h_0,eq_false c1];exact fin_ret (by simp only[simprocAttr,R0,fn_out,p54,Rs.ev,take_len_self,h_0,eq_false c1])
def F99(a0:GComplex)(a1:Int):Option Int:=
 (chk ((a0.Dims.length:Int) - 1)).bind fun x1=>
 (F54 a1 0 x1).bind fun x2=>
 if x2=true then
  (getI a0.Dims a1).bind fun x4=>
  some x4
 else
  some 0
theorem s99(a0:GComplex)(a1:Int){r:Int}(hF:F99 a0 a1=some r):ans A 99 [(eC a0),V.int .i64 a1]=some (Enc.enc r):=by
 refine ans_of (f:=p99) rfl rfl rfl fun e hl he=>?_;have h0_0:e.at 0=(eC a0):=he 0 _ rfl;have h1_0:e.at 1=V.int .i64 a1:=he 1 _ rfl;have hl_0:e.length=17:=hl;clear he hl;have h_0:=And.intro hl_0 (And.intro h0_0 h1_0);show W A b99 e ⟨[],0⟩ _;unfold F99 at hF;obtain⟨x1,gx1,hF⟩:=bS hF;have wx1:=chk_w gx1;obtain⟨x2,gx2,hF⟩:=bS hF;have w3:ans A 54 [V.int .i64 a1,V.int .i64 0,V.int .i64 x1]=some (V.bool x2):=s54 a1 0 x1 gx2;cases x2 with
 |true=>
  rw[if_pos rfl]at hF;obtain⟨x4,gx4,hF⟩:=bS hF;obtain⟨w5a,w5b⟩:=getI_w gx4;cases hF;simp only[simprocAttr,R0,b99,h_0,wx1,w3,w5a,w5b];exact fin_ret (by simp only[simprocAttr,R0,fn_out,p99,Rs.ev,take_len_self,h_0,wx1,w3,w5a,w5b])
 |false=>
  rw[if_neg Bool.false_ne_true]at hF;cases hF;simp only[simprocAttr,R0,b99,h_0,wx1,w3];exact fin_ret (by simp only[simprocAttr,R0,fn_out,p99,Rs.ev,take_len_self,h_0,wx1,w3])
def F127(a0:Int)(a1:Int):Option Int:=
 (remI a1 a0).bind fun x1=>
 (chk (x1+a0)).bind fun x3=>
 (remI x3 a0).bind fun x4=>
 some x4
theorem s127(a0:Int)(a1:Int){r:Int}(hF:F127 a0 a1=some r):ans A 127 [V.int .i64 a0,V.int .i64 a1]=some (Enc.enc r):=by
 refine ans_of (f:=p127) rfl rfl rfl fun e hl he=>?_;have h0_0:e.at 0=V.int .i64 a0:=he 0 _ rfl;have h1_0:e.at 1=V.int .i64 a1:=he 1 _ rfl;have hl_0:e.length=12:=hl;clear he hl;show W A b127 e ⟨[],0⟩ _;unfold F127 at hF;obtain⟨x1,gx1,hF⟩:=bS hF;obtain⟨w2a,w2b⟩:=rem_w gx1;obtain⟨x3,gx3,hF⟩:=bS hF;have wx3:=chk_w gx3;obtain⟨x4,gx4,hF⟩:=bS hF;obtain⟨w5a,w5b⟩:=rem_w gx4;cases hF;simp only[simprocAttr,R0,b127,hl_0,h0_0,h1_0,eq_false w2a,w2b,wx3,eq_false w5a,w5b];exact fin_ret (by simp only[simprocAttr,R0,fn_out,p127,Rs.ev,take_len_self,hl_0,h0_0,h1_0,eq_false w2a,w2b,wx3,eq_false w5a,w5b])
def F272(a0:Int)(a1:Int):Option (List Int):=
 (mkL 8 a0 0).bind fun l1=>
 (getI l1 a1).bind fun x3=>
 (setI l1 a1 1).bind fun l5=>
 some l5
theorem s272(a0:Int)(a1:Int){r:List Int}(hF:F272 a0 a1=some r):ans A 272 [V.int .i64 a0,V.int .i64 a1]=some (Enc.enc r):=by
 refine ans_of (f:=p272) rfl rfl rfl fun e hl he=>?_;have h0_0:e.at 0=V.int .i64 a0:=he 0 _ rfl;have h1_0:e.at 1=V.int .i64 a1:=he 1 _ rfl;have hl_0:e.length=12:=hl;clear he hl;show W A b272 e ⟨[],0⟩ _;unfold F272 at hF;obtain⟨l1,gl1,hF⟩:=bS hF;obtain⟨w2a,w2b,w2c,w2d,w2e⟩:=mkL_w gl1;replace w2e:(List.replicate (Int.toNat a0) [V.int .i64 0]).flatten=List.map Enc.enc l1:=w2e;obtain⟨x3,gx3,hF⟩:=bS hF;obtain⟨w4a,w4b⟩:=getI_w gx3;have w4c:=getI_lt gx3;replace w4c:a1 < (((Int.toNat a0):Nat):Int):=by first|exact w4c|(simp only[w2d]at w4c ⊢; exact w4c)
 have w4d:List.drop (Int.toNat a1) (l1.map Enc.enc)=(V.int .i64 x3)::List.drop ((Int.toNat a1)+1) (l1.map Enc.enc):=drop_enc w4b;obtain⟨l5,gl5,hF⟩:=bS hF;obtain⟨w6a,w6b,w6c,w6d,w6e⟩:=setI_w gl5;replace w6e:List.take (Int.toNat a1) (l1.map Enc.enc)++[V.int .i64 1]++List.drop (Int.toNat a1+1) (l1.map Enc.enc)=List.map Enc.enc l5:=w6e;have hE:=Option.some.inj hF; subst hE;simp only[simprocAttr, -Int.reduceNatCast',R0,b272,hl_0,h0_0,h1_0,w2a,w2b,w2c,w2e,w4a,w4b,w4c,w4d,w6a,w6b,w6c,w6e];exact fin_ret (by simp only[simprocAttr, -Int.reduceNatCast',R0,fn_out,p272,Rs.ev,take_len_self,hl_0,h0_0,h1_0,w2a,w2b,w2c,w2e,w4a,w4b,w4c,w4d,w6a,w6b,w6c,w6e,frzs (α:=Int) l5,takes (α:=Int) l5,take_len (α:=Int) (l:=l5) (n:=(Int.toNat a0)) (by first|rfl|simp only[w2d,w6d]),w2d,w6d])
def F76_1_S(a0:GComplex)(a1:Int)(s:(List (List Int))×Int):Option (((List (List Int))×Int)⊕((List (List Int)))):=
 match s with
 |(o1_1,v6_1)=>
  (F99 a0 a1).bind fun x11=>
  if v6_1 < x11 then
   (app 24 o1_1 ([([]:List Int)])).bind fun l15=>
   (chk (v6_1+1)).bind fun x16=>
   some (.inl (l15,x16))
  else
   some (.inr o1_1)
def F76(a0:GComplex)(a1:Int):Option (List (List Int)):=
 (chk ((a0.Dims.length:Int) - 1)).bind fun x1=>
 (F54 a1 1 x1).bind fun x2=>
 if x2=true then
  (chk (a1 - 1)).bind fun x4=>
  (getI a0.Maps x4).bind fun x5=>
  some x5
 else
  (loopW (F76_1_S a0 a1) ([],0)).bind fun zo1_1=>
  some zo1_1
def I76_1(a0:GComplex)(a1:Int)(s:(List (List Int))×Int)(e:Env)(h:Heap):Prop:=
 match s with
 |(o1_1,v6_1)=>
  ∃u8 k9:Nat,h=⟨[(0,none),(u8,some (o1_1.map Enc.enc))],k9⟩∧e.length=32∧e.at 1=V.int .i64 a1∧e.at 2=V.iptr [V.int .i64 a0.Prime,V.isl (a0.Dims.map Enc.enc),V.isl (a0.Maps.map Enc.enc)]∧e.at 5=V.sl 1 u8 0 o1_1.length 1∧e.at 6=V.int .i64 v6_1
def P76_1(a0:GComplex)(a1:Int)(zo1_1:(List (List Int)))(x:Ex)(e:Env)(h:Heap):Prop:=
 x= .normal∧∃u8 k9:Nat,h=⟨[(0,none),(u8,some (zo1_1.map Enc.enc))],k9⟩∧e.length=32∧e.at 5=V.sl 1 u8 0 zo1_1.length 1
theorem l76_1(a0:GComplex)(a1:Int){s:(List (List Int))×Int}{t:(List (List Int))}(hF:loopW (F76_1_S a0 a1) s=some t){e:Env}{h:Heap}(hI:I76_1 a0 a1 s e h):W A c76_1 e h (P76_1 a0 a1 t):=by
 show W A (.block 0 (.loop false b76_1)) e h _;rw[W_block];refine W_loop hF 2 (by rcases s with⟨_,_⟩; obtain⟨_,_,rfl,_⟩:=hI; rfl) (I76_1 a0 a1) hI ?_
 ·rintro⟨o1_1,v6_1⟩ e h ⟨u8,k9,rfl,h_7⟩ o ho
  unfold F76_1_S at ho;dsimp only at ho;obtain⟨x11,gx11,ho⟩:=bS ho;have w12:ans A 99 [(eC a0),V.int .i64 a1]=some (V.int .i64 x11):=s99 a0 a1 gx11;by_cases c13:v6_1 < x11
  ·rw[if_pos c13]at ho
   obtain⟨l15,gl15,ho⟩:=bS ho;have w14:=fun a b c d e=> appendV_w (α:=List Int) (n:=o1_1.length) (m:=1) (ds:=[V.isl []]) gl15 (by first|rfl|simp) (by first|rfl|simp) rfl a b c d e;have w14l:=app_len gl15;obtain⟨x16,gx16,ho⟩:=bS ho;have wx16:=chk_w gx16;cases ho;simp only[simprocAttr,R0,b76_1,h_7,w12,eq_true c13,w14,wx16];refine And.intro rfl (Exists.intro _ (Exists.intro _ (And.intro rfl ?_)));simp only[simprocAttr,R0,h_7,w12,eq_true c13,w14,wx16]
  ·rw[if_neg c13]at ho
   cases ho;simp only[simprocAttr,R0,b76_1,h_7,w12,eq_false c13];intro ht; subst ht;simp only[simprocAttr,RR,RB];refine And.intro rfl (Exists.intro _ (Exists.intro _ (And.intro rfl ?_)));simp only[simprocAttr,R0,h_7,w12,eq_false c13]
theorem s76(a0:GComplex)(a1:Int){r:List (List Int)}(hF:F76 a0 a1=some r):ans A 76 [(eC a0),V.int .i64 a1]=some (Enc.enc r):=by
 refine ans_of (f:=p76) rfl rfl rfl fun e hl he=>?_;have h0_0:e.at 0=(eC a0):=he 0 _ rfl;have h1_0:e.at 1=V.int .i64 a1:=he 1 _ rfl;have hl_0:e.length=32:=hl;clear he hl;show W A b76 e ⟨[],0⟩ _;unfold F76 at hF;obtain⟨x1,gx1,hF⟩:=bS hF;have wx1:=chk_w gx1;obtain⟨x2,gx2,hF⟩:=bS hF;have w3:ans A 54 [V.int .i64 a1,V.int .i64 1,V.int .i64 x1]=some (V.bool x2):=s54 a1 1 x1 gx2;cases x2 with
 |true=>
  rw[if_pos rfl]at hF;obtain⟨x4,gx4,hF⟩:=bS hF;have wx4:=chk_w gx4;obtain⟨x5,gx5,hF⟩:=bS hF;obtain⟨w6a,w6b⟩:=getI_w gx5;have hE:=Option.some.inj hF; subst hE;simp only[simprocAttr, -Int.reduceNatCast',R0,b76,hl_0,h0_0,h1_0,wx1,w3,wx4,w6a,w6b];exact fin_ret (by simp only[simprocAttr, -Int.reduceNatCast',R0,fn_out,p76,Rs.ev,take_len_self,hl_0,h0_0,h1_0,wx1,w3,wx4,w6a,w6b])
 |false=>
  rw[if_neg Bool.false_ne_true]at hF;obtain⟨zo1_1,gt17,hF⟩:=bS hF;simp only[simprocAttr, -Int.reduceNatCast',R0,b76,hl_0,h0_0,h1_0,wx1,w3];refine W.mono (l76_1 a0 a1 gt17 (Exists.intro _ (Exists.intro _ (And.intro rfl ?_)))) ?_
  ·simp only[simprocAttr, -Int.reduceNatCast',R0,hl_0,h0_0,h1_0,wx1,w3]
  rintro _ e _ ⟨rfl,u8,k9,rfl,hl_10,h5_10⟩;have hE:=Option.some.inj hF; subst hE;simp only[simprocAttr, -Int.reduceNatCast',R0,hl_10,h5_10];exact fin_ret (by simp only[simprocAttr, -Int.reduceNatCast',R0,fn_out,p76,Rs.ev,take_len_self,hl_10,h5_10,frzs (α:=List Int) zo1_1,takes (α:=List Int) zo1_1])
def F81_1_B(a0:List Int)(v3_1:Int)(s:Unit):Option ((Unit)⊕((Unit)⊕Int)):=
 (getI a0 v3_1).bind fun x4=>
if x4=0 then
 some (.inl ())
else
 some (.inr (.inr v3_1))
def F81_1_D(a0:List Int)(v3_1:Int)(s:Unit):Option ((Unit)⊕Int):=
 some (.inl ())
def F81(a0:List Int):Option Int:=
 (forR 0 (a0.length:Int) (F81_1_B a0) (F81_1_D a0) ()).bind fun t7=> match t7 with
  | .inl _=>
   some (-1)
  | .inr r8=> some r8
def I81_1(a0:List Int)(v3_1:Int)(s:Unit)(e:Env)(h:Heap):Prop:=
 ∃k2:Nat,h=⟨[],k2⟩∧e.length=16∧e.at 0=V.isl (a0.map Enc.enc)∧e.at 3=V.int .i64 v3_1
def P81_1(a0:List Int)(t:(Unit)⊕Int)(x:Ex)(e:Env)(h:Heap):Prop:=
 match t with
 | .inl _=> x= .normal∧∃k2:Nat,h=⟨[],k2⟩∧e.length=16
 | .inr r=> x= .ret∧Fin p81 (Enc.enc r) .ret e h
theorem l81_1(a0:List Int){lo:Int}{s:Unit}{t:(Unit)⊕Int}(hF:forR lo (a0.length:Int) (F81_1_B a0) (F81_1_D a0) s=some t){e:Env}{h:Heap}(hI:I81_1 a0 lo s e h):W A c81_1 e h (P81_1 a0 t):=by
 show W A (.block 0 (.loop false b81_1)) e h _;rw[W_block];refine W_forR hF 0 (by obtain⟨_,rfl,_⟩:=hI; rfl) (I81_1 a0) hI ?_ ?_
 ·rintro v3_1 _ e h ⟨k2,rfl,h_1⟩ hlt hw o ho
  unfold F81_1_B at ho;obtain⟨x4,gx4,ho⟩:=bS ho;obtain⟨w5a,w5b⟩:=getI_w gx4;by_cases c6:x4=0
  ·rw[if_pos c6]at ho
   cases ho;simp only[simprocAttr,R0,b81_1,h_1,eq_true hlt,hw,w5a,w5b,eq_true c6];refine And.intro rfl (Exists.intro _ (And.intro rfl ?_));simp only[simprocAttr,R0,h_1,eq_true hlt,hw,w5a,w5b,eq_true c6]
  ·rw[if_neg c6]at ho
   cases ho;simp only[simprocAttr,R0,b81_1,h_1,eq_true hlt,hw,w5a,w5b,eq_false c6];intro ht; subst ht;simp only[simprocAttr,RR,RB];exact And.intro rfl (fin_ret (by simp only[simprocAttr,R0,fn_out,p81,Rs.ev,take_len_self,h_1,eq_true hlt,hw,w5a,w5b,eq_false c6]))
 ·rintro v3_1 _ e h ⟨k2,rfl,h_1⟩ hge t1 ho
  unfold F81_1_D at ho;cases ho;simp only[simprocAttr,R0,b81_1,h_1,eq_false hge];intro ht; subst ht;refine And.intro rfl (Exists.intro _ (And.intro rfl ?_));simp only[simprocAttr,R0,h_1,eq_false hge]
theorem s81(a0:List Int){r:Int}(hF:F81 a0=some r):ans A 81 [V.isl (a0.map Enc.enc)]=some (Enc.enc r):=by
 refine ans_of (f:=p81) rfl rfl rfl fun e hl he=>?_;have h0_0:e.at 0=V.isl (a0.map Enc.enc):=he 0 _ rfl;have hl_0:e.length=16:=hl;clear he hl;have h_0:=And.intro hl_0 h0_0;show W A b81 e ⟨[],0⟩ _;unfold F81 at hF;obtain⟨t7,gt7,hF⟩:=bS hF;rcases t7 with _|r8
 ·dsimp only at hF
  simp only[simprocAttr,R0,b81,h_0];refine W.mono (l81_1 a0 gt7 (Exists.intro _ (And.intro rfl ?_))) ?_
  ·simp only[simprocAttr,R0,h_0]
  rintro _ e _ ⟨rfl,k2,rfl,hl_3⟩;cases hF;simp only[simprocAttr,R0,hl_3];exact fin_ret (by simp only[simprocAttr,R0,fn_out,p81,Rs.ev,take_len_self,hl_3])
 ·dsimp only at hF
  cases hF;simp only[simprocAttr,R0,b81,h_0];refine W.mono (l81_1 a0 gt7 (Exists.intro _ (And.intro rfl ?_))) ?_
  ·simp only[simprocAttr,R0,h_0]
  rintro _ e h ⟨rfl,hq⟩;simp only[simprocAttr,RR,RB];exact hq
def F94(a0:List Int):Option (List Int):=
 (app 8 ([]:List Int) a0).bind fun l2=>
 some l2
theorem s94(a0:List Int){r:List Int}(hF:F94 a0=some r):ans A 94 [V.isl (a0.map Enc.enc)]=some (Enc.enc r):=by
 refine ans_of (f:=p94) rfl rfl rfl fun e hl he=>?_;have h0_0:e.at 0=V.isl (a0.map Enc.enc):=he 0 _ rfl;have hl_0:e.length=6:=hl;clear he hl;show W A b94 e ⟨[],0⟩ _;unfold F94 at hF;obtain⟨l2,gl2,hF⟩:=bS hF;have w1:=fun ents key uid clk he=> appendV_w (α:=Int) (n:=0) (m:=a0.length) (ds:=List.map Enc.enc a0) gl2 (by first|rfl|simp only[List.length_nil]) (by first|rfl|simp only[List.length_nil]) rfl ents key uid clk he;have w1l:=app_len gl2;have hE:=Option.some.inj hF; subst hE;simp only[simprocAttr, -Int.reduceNatCast',R0,b94,hl_0,h0_0,w1];exact fin_ret (by simp only[simprocAttr, -Int.reduceNatCast',R0,fn_out,p94,Rs.ev,take_len_self,hl_0,h0_0,w1,frzs (α:=Int) l2,takes (α:=Int) l2])
theorem t94(a0:List Int){r:List Int}(hF:F94 a0=some r):tans A 94 [1] [V.isl (a0.map Enc.enc)]=some (Enc.enc r):=by
 refine tans_of (f:=p94) rfl rfl rfl fun e hl he=>?_;have h0_0:e.at 0=V.isl (a0.map Enc.enc):=he 0 _ rfl;have hl_0:e.length=6:=hl;clear he hl;show W A b94 e ⟨[],0⟩ _;unfold F94 at hF;obtain⟨l2,gl2,hF⟩:=bS hF;have w1:=fun ents key uid clk he=> appendV_w (α:=Int) (n:=0) (m:=a0.length) (ds:=List.map Enc.enc a0) gl2 (by first|rfl|simp only[List.length_nil]) (by first|rfl|simp only[List.length_nil]) rfl ents key uid clk he;have w1l:=app_len gl2;have hE:=Option.some.inj hF; subst hE;simp only[simprocAttr, -Int.reduceNatCast',R0,b94,hl_0,h0_0,w1];exact tfin_ret (by simp only[simprocAttr, -Int.reduceNatCast',R0,fn_out,p94,Rs.ev,take_len_self,hl_0,h0_0,w1,frzs (α:=Int) l2,takes (α:=Int) l2])
def F136_1_B(a0:Int)(a1:List Int)(a2:List Int)(a3:Int)(v10_1:Int)(o0_1:(List Int)):Option (((List Int))⊕((List Int))):=
 (getI a1 v10_1).bind fun x5=>
(getI a2 v10_1).bind fun x7=>
(chk (a3*x7)).bind fun x9=>
(chk (x5 - x9)).bind fun x10=>
(F127 a0 x10).bind fun x11=>
(app 8 o0_1 [x11]).bind fun l14=>
some (.inl l14)
def F136_1_D(a0:Int)(a1:List Int)(a2:List Int)(a3:Int)(v10_1:Int)(o0_1:(List Int)):Option ((List Int)):=
 some o0_1
def F136(a0:Int)(a1:List Int)(a2:List Int)(a3:Int):Option (List Int):=
 (forR 0 (a1.length:Int) (F136_1_B a0 a1 a2 a3) (F136_1_D a0 a1 a2 a3) ([]:(List Int))).bind fun zo0_1=>
 some zo0_1
def I136_1(a0:Int)(a1:List Int)(a2:List Int)(a3:Int)(v10_1:Int)(o0_1:(List Int))(e:Env)(h:Heap):Prop:=
 ∃u2 k3:Nat,h=⟨[(u2,some (o0_1.map Enc.enc))],k3⟩∧e.length=35∧e.at 0=V.int .i64 a0∧e.at 1=V.isl (a1.map Enc.enc)∧e.at 2=V.isl (a2.map Enc.enc)∧e.at 3=V.int .i64 a3∧e.at 9=V.sl 0 u2 0 o0_1.length 1∧e.at 10=V.int .i64 v10_1
def P136_1(a0:Int)(a1:List Int)(a2:List Int)(a3:Int)(zo0_1:(List Int))(x:Ex)(e:Env)(h:Heap):Prop:=
 x= .normal∧∃u2 k3:Nat,h=⟨[(u2,some (zo0_1.map Enc.enc))],k3⟩∧e.length=35∧e.at 9=V.sl 0 u2 0 zo0_1.length 1
theorem l136_1(a0:Int)(a1:List Int)(a2:List Int)(a3:Int){lo:Int}{s:(List Int)}{t:(List Int)}(hF:forR lo (a1.length:Int) (F136_1_B a0 a1 a2 a3) (F136_1_D a0 a1 a2 a3) s=some t){e:Env}{h:Heap}(hI:I136_1 a0 a1 a2 a3 lo s e h):W A c136_1 e h (P136_1 a0 a1 a2 a3 t):=by
 show W A (.block 0 (.loop false b136_1)) e h _;rw[W_block];refine W_forR hF 1 (by obtain⟨_,_,rfl,_⟩:=hI; rfl) (I136_1 a0 a1 a2 a3) hI ?_ ?_
 ·rintro v10_1 o0_1 e h ⟨u2,k3,rfl,h_1⟩ hlt hw o ho
  unfold F136_1_B at ho;obtain⟨x5,gx5,ho⟩:=bS ho;obtain⟨w6a,w6b⟩:=getI_w gx5;obtain⟨x7,gx7,ho⟩:=bS ho;obtain⟨w8a,w8b⟩:=getI_w gx7;obtain⟨x9,gx9,ho⟩:=bS ho;have wx9:=chk_w gx9;obtain⟨x10,gx10,ho⟩:=bS ho;have wx10:=chk_w gx10;obtain⟨x11,gx11,ho⟩:=bS ho;have w12:ans A 127 [V.int .i64 a0,V.int .i64 x10]=some (V.int .i64 x11):=s127 a0 x10 gx11;obtain⟨l14,gl14,ho⟩:=bS ho;have w13:=fun a b c d e=> appendV_w (α:=Int) (n:=o0_1.length) (m:=1) (ds:=[V.int .i64 x11]) gl14 (by first|rfl|simp) (by first|rfl|simp) rfl a b c d e;have w13l:=app_len gl14;cases ho;simp only[simprocAttr,R0,b136_1,h_1,eq_true hlt,hw,w6a,w6b,w8a,w8b,wx9,wx10,w12,w13];refine And.intro rfl (Exists.intro _ (Exists.intro _ (And.intro rfl ?_)));simp only[simprocAttr,R0,h_1,eq_true hlt,hw,w6a,w6b,w8a,w8b,wx9,wx10,w12,w13]
 ·rintro v10_1 o0_1 e h ⟨u2,k3,rfl,h_1⟩ hge t1 ho
  unfold F136_1_D at ho;cases ho;simp only[simprocAttr,R0,b136_1,h_1,eq_false hge];intro ht; subst ht;refine And.intro rfl (Exists.intro _ (Exists.intro _ (And.intro rfl ?_)));simp only[simprocAttr,R0,h_1,eq_false hge]
theorem t136(a0:Int)(a1:List Int)(a2:List Int)(a3:Int){r:List Int}(hF:F136 a0 a1 a2 a3=some r):tans A 136 [1] [V.int .i64 a0,V.isl (a1.map Enc.enc),V.isl (a2.map Enc.enc),V.int .i64 a3]=some (Enc.enc r):=by
 refine tans_of (f:=p136) rfl rfl rfl fun e hl he=>?_;have h0_0:e.at 0=V.int .i64 a0:=he 0 _ rfl;have h1_0:e.at 1=V.isl (a1.map Enc.enc):=he 1 _ rfl;have h2_0:e.at 2=V.isl (a2.map Enc.enc):=he 2 _ rfl;have h3_0:e.at 3=V.int .i64 a3:=he 3 _ rfl;have hl_0:e.length=35:=hl;clear he hl;show W A b136 e ⟨[],0⟩ _;unfold F136 at hF;obtain⟨zo0_1,gt15,hF⟩:=bS hF;simp only[simprocAttr, -Int.reduceNatCast',R0,b136,hl_0,h0_0,h1_0,h2_0,h3_0];refine W.mono (l136_1 a0 a1 a2 a3 gt15 (Exists.intro _ (Exists.intro _ (And.intro rfl ?_)))) ?_
 ·simp only[simprocAttr, -Int.reduceNatCast',R0,hl_0,h0_0,h1_0,h2_0,h3_0]
 rintro _ e _ ⟨rfl,u2,k3,rfl,hl_4,h9_4⟩;have hE:=Option.some.inj hF; subst hE;simp only[simprocAttr, -Int.reduceNatCast',R0,hl_4,h9_4];exact tfin_ret (by simp only[simprocAttr, -Int.reduceNatCast',R0,fn_out,p136,Rs.ev,take_len_self,hl_4,h9_4,frzs (α:=Int) zo0_1,takes (α:=Int) zo0_1])
def F134_1_B(a0:Int)(a1:List (List Int))(v8_1:Int)(v7_1:(List Int)):Option (((List Int))⊕((List Int))):=
 (getI a1 v8_1).bind fun x6=>
(F81 x6).bind fun x8=>
(getI v7_1 x8).bind fun x10=>
(F136 a0 v7_1 x6 x10).bind fun x12=>
some (.inl x12)
def F134_1_D(a0:Int)(a1:List (List Int))(v8_1:Int)(v7_1:(List Int)):Option ((List Int)):=
 some v7_1
def F134(a0:Int)(a1:List (List Int))(a2:List Int):Option (List Int):=
 (F94 a2).bind fun x1=>
 (forR 0 (a1.length:Int) (F134_1_B a0 a1) (F134_1_D a0 a1) x1).bind fun zv7_1=>
 some zv7_1
theorem d134(a0:Int)(a1:List (List Int))(a2:List Int){r:List Int}(hF:F134 a0 a1 a2=some r):∃v h',res A 134 [V.int .i64 a0,V.isl (a1.map Enc.enc),V.isl (a2.map Enc.enc)] Heap.empty=some (v,h')∧∃K,Deep.rep h' v r K:=by
 refine res_dp (f:=p134) rfl rfl rfl fun e hl he=>?_;have h0_0:e.at 0=V.int .i64 a0:=he 0 _ rfl;have h1_0:e.at 1=V.isl (a1.map Enc.enc):=he 1 _ rfl;have h2_0:e.at 2=V.isl (a2.map Enc.enc):=he 2 _ rfl;have hl_0:e.length=33:=hl;clear he hl;show W A b134 e ⟨[],0⟩ _;unfold F134 at hF;obtain⟨o,go,hF⟩:=bS hF;have wo:tans A 94 [1] [V.isl (a2.map Enc.enc)]=some (V.isl (o.map Enc.enc)):=t94 a2 go;obtain⟨t,gt,hF⟩:=bS hF;cases hF;simp only[simprocAttr,R1,b134,hl_0,h0_0,h1_0,h2_0,wo,callM_tans,thaw_one];show W A (.block 0 (.loop true b134_1)) _ _ _;rw[W_block];refine W_forR gt _ rfl (fun i q e h=>∃k u,h.ents[k]? =some (u,some (q.map Enc.enc))∧e.length=33∧e.at 0=V.int .i64 a0∧e.at 1=V.isl (a1.map Enc.enc)∧e.at 7=V.sl k u 0 q.length 1∧e.at 8=V.int .i64 i) ?_ ?_ ?_
 ·refine⟨0,0,rfl,?_⟩
  simp only[simprocAttr,R1,hl_0,h0_0,h1_0,h2_0]
 ·clear hl_0 h0_0 h1_0 h2_0
  rintro i q e ⟨E,c⟩ ⟨k,u,g1,h_1⟩ hlt hw s' ho;unfold F134_1_B at ho;simp only at g1;obtain⟨x6,gx6,ho⟩:=bS ho;obtain⟨x6a,x6b⟩:=getI_w gx6;obtain⟨x8,gx8,ho⟩:=bS ho;have w8:ans A 81 [V.isl (x6.map Enc.enc)]=some (V.int .i64 x8):=s81 x6 gx8;obtain⟨x10,gx10,ho⟩:=bS ho;obtain⟨x10a,x10b⟩:=getI_w gx10;have x10c:=getI_lt gx10;obtain⟨x12,gx12,ho⟩:=bS ho;have w12:tans A 136 [1] [V.int .i64 a0,V.isl (q.map Enc.enc),V.isl (x6.map Enc.enc),V.int .i64 x10]=some (V.isl (x12.map Enc.enc)):=t136 a0 q x6 x10 gx12;cases ho;have wfz:frz ⟨E,c⟩ 16 (V.sl k u 0 q.length 1)=some (V.isl (q.map Enc.enc)):=frz_row g1;have wbr:=bare_one (α:=Int) x12;have o10:ofCells none (List.drop x8.toNat (q.map Enc.enc))=some (V.int .i64 x10):=ofCells_drop (by rw[List.getElem?_map,x10b]; rfl);simp only[simprocAttr,R1,b134_1,h_1,eq_true hlt,hw,x6a,x6b,w8,x10a,eq_true x10c,g1,o10,wfz,w12,wbr,callM_tans,thaw_one];refine And.intro rfl ⟨_,_,get_last _ _,?_⟩;simp only[simprocAttr,R1,h_1,hw]
 ·clear hl_0 h0_0 h1_0 h2_0
  rintro i q e ⟨E,c⟩ ⟨k,u,g1,h_1⟩ hge t1 ho;unfold F134_1_D at ho;cases ho;simp only at g1;simp only[simprocAttr,R1,b134_1,h_1,eq_false hge];intro ht; subst ht;refine And.intro (fun _=> trivial) ⟨_,?_,fun x=> x=k,int_row (l:=q) g1 fun x=> Iff.rfl⟩;simp only[simprocAttr,R1,fn_out,p134,Rs.ev,h_1]
theorem t134(a0:Int)(a1:List (List Int))(a2:List Int){r:List Int}(hF:F134 a0 a1 a2=some r):tans A 134 [1] [V.int .i64 a0,V.isl (a1.map Enc.enc),V.isl (a2.map Enc.enc)]=some (Enc.enc r):=tans_of_deep (α:=List Int) (by decide) (d134 a0 a1 a2 hF)
def F135_1_B(a0:Int)(a1:Int)(v5_1:Int)(s:Unit):Option ((Unit)⊕((Unit)⊕Int)):=
 (F127 a0 a1).bind fun x4=>
(chk (v5_1*x4)).bind fun x6=>
(remI x6 a0).bind fun x7=>
if x7=1 then
 some (.inr (.inr v5_1))
else
 some (.inl ())
def F135_1_D(a0:Int)(a1:Int)(v5_1:Int)(s:Unit):Option ((Unit)⊕Int):=
 some (.inl ())
def F135(a0:Int)(a1:Int):Option Int:=
 (forR 1 a0 (F135_1_B a0 a1) (F135_1_D a0 a1) ()).bind fun t10=> match t10 with
  | .inl _=>
   some 0
  | .inr r11=> some r11
def I135_1(a0:Int)(a1:Int)(v5_1:Int)(s:Unit)(e:Env)(h:Heap):Prop:=
 ∃k2:Nat,h=⟨[],k2⟩∧e.length=20∧e.at 0=V.int .i64 a0∧e.at 1=V.int .i64 a1∧e.at 5=V.int .i64 v5_1
def P135_1(a0:Int)(a1:Int)(t:(Unit)⊕Int)(x:Ex)(e:Env)(h:Heap):Prop:=
 match t with
 | .inl _=> x= .normal∧∃k2:Nat,h=⟨[],k2⟩∧e.length=20
 | .inr r=> x= .ret∧Fin p135 (Enc.enc r) .ret e h
theorem l135_1(a0:Int)(a1:Int){lo:Int}{s:Unit}{t:(Unit)⊕Int}(hF:forR lo a0 (F135_1_B a0 a1) (F135_1_D a0 a1) s=some t){e:Env}{h:Heap}(hI:I135_1 a0 a1 lo s e h):W A c135_1 e h (P135_1 a0 a1 t):=by
 show W A (.block 0 (.loop false b135_1)) e h _;rw[W_block];refine W_forR hF 0 (by obtain⟨_,rfl,_⟩:=hI; rfl) (I135_1 a0 a1) hI ?_ ?_
 ·rintro v5_1 _ e h ⟨k2,rfl,h_1⟩ hlt hw o ho
  unfold F135_1_B at ho;obtain⟨x4,gx4,ho⟩:=bS ho;have w5:ans A 127 [V.int .i64 a0,V.int .i64 a1]=some (V.int .i64 x4):=s127 a0 a1 gx4;obtain⟨x6,gx6,ho⟩:=bS ho;have wx6:=chk_w gx6;obtain⟨x7,gx7,ho⟩:=bS ho;obtain⟨w8a,w8b⟩:=rem_w gx7;by_cases c9:x7=1
  ·rw[if_pos c9]at ho
   cases ho;simp only[simprocAttr,R0,b135_1,h_1,eq_true hlt,hw,w5,wx6,eq_false w8a,w8b,eq_true c9];intro ht; subst ht;simp only[simprocAttr,RR,RB];exact And.intro rfl (fin_ret (by simp only[simprocAttr,R0,fn_out,p135,Rs.ev,take_len_self,h_1,eq_true hlt,hw,w5,wx6,eq_false w8a,w8b,eq_true c9]))
  ·rw[if_neg c9]at ho
   cases ho;simp only[simprocAttr,R0,b135_1,h_1,eq_true hlt,hw,w5,wx6,eq_false w8a,w8b,eq_false c9];refine And.intro rfl (Exists.intro _ (And.intro rfl ?_));simp only[simprocAttr,R0,h_1,eq_true hlt,hw,w5,wx6,eq_false w8a,w8b,eq_false c9]
 ·rintro v5_1 _ e h ⟨k2,rfl,h_1⟩ hge t1 ho
  unfold F135_1_D at ho;cases ho;simp only[simprocAttr,R0,b135_1,h_1,eq_false hge];intro ht; subst ht;refine And.intro rfl (Exists.intro _ (And.intro rfl ?_));simp only[simprocAttr,R0,h_1,eq_false hge]
theorem s135(a0:Int)(a1:Int){r:Int}(hF:F135 a0 a1=some r):ans A 135 [V.int .i64 a0,V.int .i64 a1]=some (Enc.enc r):=by
 refine ans_of (f:=p135) rfl rfl rfl fun e hl he=>?_;have h0_0:e.at 0=V.int .i64 a0:=he 0 _ rfl;have h1_0:e.at 1=V.int .i64 a1:=he 1 _ rfl;have hl_0:e.length=20:=hl;clear he hl;have h_0:=And.intro hl_0 (And.intro h0_0 h1_0);show W A b135 e ⟨[],0⟩ _;unfold F135 at hF;obtain⟨t10,gt10,hF⟩:=bS hF;rcases t10 with _|r11
 ·dsimp only at hF
  simp only[simprocAttr,R0,b135,h_0];refine W.mono (l135_1 a0 a1 gt10 (Exists.intro _ (And.intro rfl ?_))) ?_
  ·simp only[simprocAttr,R0,h_0]
  rintro _ e _ ⟨rfl,k2,rfl,hl_3⟩;cases hF;simp only[simprocAttr,R0,hl_3];exact fin_ret (by simp only[simprocAttr,R0,fn_out,p135,Rs.ev,take_len_self,hl_3])
 ·dsimp only at hF
  cases hF;simp only[simprocAttr,R0,b135,h_0];refine W.mono (l135_1 a0 a1 gt10 (Exists.intro _ (And.intro rfl ?_))) ?_
  ·simp only[simprocAttr,R0,h_0]
  rintro _ e h ⟨rfl,hq⟩;simp only[simprocAttr,RR,RB];exact hq
def F131_2_B(p b:Int)(k:Int)(row:List Int):Option (List Int⊕List Int):=(getI row k).bind fun x=>(chk (x*b)).bind fun m=>(remI m p).bind fun z=>(setI row k z).bind fun r=> some (.inl r)
def F131_2_D(k:Int)(row:List Int):Option (List Int):=some row
def F131_3_C(out:List (List Int))(at_:Int)(k:Int)(put:Bool):Option Bool:=if put=true then some false else(getI out k).bind fun o=>(F81 o).bind fun ld=> some (decide (at_ < ld))
def F131_3_B(p:Int)(out:List (List Int))(own:List Int)(at_:Int)(k:Int)(s:List (List Int)×Bool):Option ((List (List Int)×Bool)⊕(List (List Int)×Bool)):=
 (F131_3_C out at_ k s.2).bind fun c=>(if c=true then(app 24 s.1 [own]).bind fun n=> some (n,true)else some s).bind fun s2=>
 (getI out k).bind fun o=>(getI o at_).bind fun y=>(F136 p o own y).bind fun q=>(app 24 s2.1 [q]).bind fun n=> some (.inl (n,s2.2))
def F131_3_D(k:Int)(s:List (List Int)×Bool):Option (List (List Int)×Bool):=some s
def F131_1_B(p:Int)(rows:List (List Int))(i:Int)(out:List (List Int)):Option (List (List Int)⊕List (List Int)):=
 (getI rows i).bind fun row=>(F134 p out row).bind fun own=>(F81 own).bind fun at_=> if at_ < 0 then some (.inl out)else
 (getI own at_).bind fun x=>(F135 p x).bind fun inv=>(forR 0 (own.length:Int) (F131_2_B p inv) F131_2_D own).bind fun own'=>
 (forR 0 (out.length:Int) (F131_3_B p out own' at_) F131_3_D ([],false)).bind fun s=> if s.2=true then some (.inl s.1)else(app 24 s.1 [own']).bind fun n=> some (.inl n)
def F131_1_D(i:Int)(out:List (List Int)):Option (List (List Int)):=some out
def F131(p:Int)(rows:List (List Int)):Option (List (List Int)):=forR 0 (rows.length:Int) (F131_1_B p rows) F131_1_D []
theorem d131(p:Int)(rows:List (List Int)){r:List (List Int)}(hF:F131 p rows=some r):∃v h',res A 131 [V.int .i64 p,V.isl (rows.map Enc.enc)] Heap.empty=some (v,h')∧
  ∃k u vs,v=V.sl k u 0 r.length 1∧h'.ents[k]? =some (u,some vs)∧Rws h'.ents (fun _=> True) vs r:=by
 refine res_dp (f:=p131) rfl rfl rfl fun e hl he=>?_;have h0_0:e.at 0=V.int .i64 p:=he 0 _ rfl;have h1_0:e.at 1=V.isl (rows.map Enc.enc):=he 1 _ rfl;have hl_0:e.length=102:=hl;clear he hl;show W A b131 e ⟨[],0⟩ _;unfold F131 at hF;simp only[simprocAttr, -Int.reduceNatCast',R1,b131,hl_0,h0_0,h1_0];show W A (.block 0 (.loop true b131_1)) _ _ _;rw[W_block];refine W_forR hF _ rfl (fun i out e h=>∃ko uo vs,h.ents[ko]? =some (uo,some vs)∧Rws h.ents (fun _=> True) vs out∧e.length=102∧e.at 0=V.int .i64 p∧e.at 1=V.isl (rows.map Enc.enc)∧e.at 5=V.sl ko uo 0 out.length 1∧e.at 6=V.int .i64 i) ?_ ?_ ?_
 ·refine⟨0,0,[],rfl,.nil,?_⟩
  simp only[simprocAttr, -Int.reduceNatCast',R1,hl_0,h0_0,h1_0]
 ·clear hl_0 h0_0 h1_0
  rintro i out e ⟨E,c⟩ ⟨ko,uo,vs,g1,g2,hl_1,h0_1,h1_1,h5_1,h6_1⟩ hlt hw s' ho;unfold F131_1_B at ho;simp only at g1 g2;have hko:ko < E.length:=(List.getElem?_eq_some_iff.1 g1).1;obtain⟨row,gr,ho⟩:=bS ho;obtain⟨ra,rb⟩:=getI_w gr;obtain⟨own,gown,ho⟩:=bS ho;have wown:tans A 134 [1] [V.int .i64 p,V.isl (out.map Enc.enc),V.isl (row.map Enc.enc)]=some (V.isl (own.map Enc.enc)):=t134 p out row gown;obtain⟨at_,gat,ho⟩:=bS ho;have wat:ans A 81 [V.isl (own.map Enc.enc)]=some (V.int .i64 at_):=s81 own gat;have wfo:=g2.fz c g1;have wbr:=bare_one (α:=Int) own;have wfr:∀z:List Int,∀c',frz ⟨E++[(c,some (z.map Enc.enc))],c'⟩ 16 (V.sl E.length c 0 z.length 1)=some (V.isl (z.map Enc.enc)):=fun z c'=> frz_row (get_last _ _);have wfr0:=wfr own;by_cases hat:at_ < 0
  ·rw[if_pos hat]at ho
   have hE:=Option.some.inj ho; subst hE;simp only[simprocAttr, -Int.reduceNatCast',R1,b131_1,hl_1,h0_1,h1_1,h5_1,h6_1,eq_true hlt,hw,ra,rb,wfo,wown,wbr,callM_tans,thaw_one,wfr0,wat,eq_true hat];refine And.intro rfl ⟨ko,uo,vs,(List.getElem?_append_left hko).trans g1,g2.frame fun k hk _=>⟨List.getElem?_append_left hk,trivial⟩,?_⟩;simp only[simprocAttr, -Int.reduceNatCast',R1,hl_1,h0_1,h1_1,h5_1,h6_1,hw]
  ·rw[if_neg hat]at ho
   obtain⟨x,gx,ho⟩:=bS ho;obtain⟨xa,xb⟩:=getI_w gx;have xc:=getI_lt gx;obtain⟨inv,ginv,ho⟩:=bS ho;have winv:ans A 135 [V.int .i64 p,V.int .i64 x]=some (V.int .i64 inv):=s135 p x ginv;obtain⟨own',gown',ho⟩:=bS ho;obtain⟨s,gs,ho⟩:=bS ho;have ox:ofCells none (List.drop at_.toNat (own.map Enc.enc))=some (V.int .i64 x):=ofCells_drop (by rw[List.getElem?_map,xb]; rfl);simp only[simprocAttr, -Int.reduceNatCast',R1,b131_1,hl_1,h0_1,h1_1,h5_1,h6_1,eq_true hlt,hw,ra,rb,wfo,wown,wbr,callM_tans,thaw_one,wfr0,wat,eq_false hat,xa,eq_true xc,get_last,ox,winv];show W A (.block 2 (.loop true b131_2)) _ _ _;rw[W_block];refine W_forR gown' _ rfl (fun k q e h=> q.length=own.length∧h=⟨E++[(c,some (q.map Enc.enc))],c+1⟩∧e.length=102∧e.at 0=V.int .i64 p∧e.at 1=V.isl (rows.map Enc.enc)∧e.at 5=V.sl ko uo 0 out.length 1∧e.at 6=V.int .i64 i∧e.at 7=V.sl E.length c 0 own.length 1∧e.at 8=V.int .i64 at_∧e.at 9=V.int .i64 inv∧e.at 10=V.int .i64 k) ?_ ?_ ?_
   ·refine⟨rfl,rfl,?_⟩
    simp only[simprocAttr, -Int.reduceNatCast',R1,hl_1,h0_1,h1_1,h5_1,h6_1]
   ·clear hl_1 h0_1 h1_1 h5_1 h6_1
    rintro k q e h ⟨hq,rfl,hl_1,h0_1,h1_1,h5_1,h6_1,h7_1,h8_1,h9_1,h10_1⟩ hlt2 hw2 s2 ho2;unfold F131_2_B at ho2;obtain⟨x3,gx3,ho2⟩:=bS ho2;obtain⟨x3a,x3b⟩:=getI_w gx3;obtain⟨m3,gm3,ho2⟩:=bS ho2;have wm3:=chk_w gm3;obtain⟨z3,gz3,ho2⟩:=bS ho2;obtain⟨wz30,wz3⟩:=rem_w gz3;obtain⟨q2,gq2,ho2⟩:=bS ho2;obtain⟨s31,s32,s33,s34,s35⟩:=setI_w gq2;have hE:=Option.some.inj ho2; subst hE;have o3:ofCells none (List.drop k.toNat (q.map Enc.enc))=some (V.int .i64 x3):=ofCells_drop (by rw[List.getElem?_map,x3b]; rfl);have hk3:k < (own.length:Int):=hlt2;have s35':List.take k.toNat (q.map Enc.enc)++[V.int .i64 z3]++List.drop (k.toNat+1) (q.map Enc.enc)=List.map Enc.enc q2:=s35;simp only[simprocAttr, -Int.reduceNatCast',R1,b131_2,hl_1,h0_1,h1_1,h5_1,h6_1,h7_1,h8_1,h9_1,h10_1,hw2,eq_true hlt2,get_last,set_last,x3a,o3,wm3,wz30,wz3,s33,s35'];refine And.intro rfl ⟨by omega,rfl,?_⟩;simp only[simprocAttr, -Int.reduceNatCast',R1,hl_1,h0_1,h1_1,h5_1,h6_1,h7_1,h8_1,h9_1,h10_1,hw2]
   ·clear hl_1 h0_1 h1_1 h5_1 h6_1
    rintro k q e h ⟨hq,rfl,hl_1,h0_1,h1_1,h5_1,h6_1,h7_1,h8_1,h9_1,h10_1⟩ hge2 t2 ho2;unfold F131_2_D at ho2;have hE:=Option.some.inj ho2; subst hE;simp only[simprocAttr, -Int.reduceNatCast',R1,b131_2,hl_1,h0_1,h1_1,h5_1,h6_1,h7_1,h8_1,h9_1,h10_1,eq_false hge2,le1];intro ht; subst ht;show W A (.block 4 (.loop true b131_3)) _ _ _;rw[W_block];refine W_forR gs _ rfl (fun k s e h=>∃un vn,h.ents[E.length+1]? =some (un,some vn)∧Rws h.ents (fun k=> k≠E.length+1) vn s.1∧h.ents[E.length]? =some (c,some (q.map Enc.enc))∧(∀k,k < E.length→h.ents[k]? =E[k]?)∧e.length=102∧e.at 0=V.int .i64 p∧e.at 1=V.isl (rows.map Enc.enc)∧e.at 5=V.sl ko uo 0 out.length 1∧e.at 6=V.int .i64 i∧e.at 7=V.sl E.length c 0 q.length 1∧e.at 8=V.int .i64 at_∧e.at 11=V.sl (E.length+1) un 0 s.1.length 1∧e.at 12=V.bool s.2∧e.at 13=V.int .i64 k) ?_ ?_ ?_
    ·refine⟨c+1,[],ge2b ..,.nil,ge2a ..,fun k hk=> by rw[List.append_assoc]; exact List.getElem?_append_left hk,?_⟩
     simp only[simprocAttr, -Int.reduceNatCast',R1,hl_1,h0_1,h1_1,h5_1,h6_1,h7_1,h8_1,h9_1,h10_1,hq]
    ·clear hl_1 h0_1 h1_1 h5_1 h6_1 h7_1 h8_1 h9_1 h10_1
     rintro k ⟨nx,put⟩ e ⟨E3,c3⟩ ⟨un,vn,f1,f2,f3,f4,hl_1,h0_1,h1_1,h5_1,h6_1,h7_1,h8_1,h11_1,h12_1,h13_1⟩ hlt3 hw3 s3 ho3;unfold F131_3_B at ho3;simp only at f1 f2 f3 f4 h11_1 h12_1 ho3;obtain⟨cnd,gcnd,ho3⟩:=bS ho3;obtain⟨st,gst,ho3⟩:=bS ho3;obtain⟨o,go,ho3⟩:=bS ho3;obtain⟨oa,ob⟩:=getI_w go;have oc:=getI_lt go;obtain⟨y,gy,ho3⟩:=bS ho3;obtain⟨ya,yb⟩:=getI_w gy;have yc:=getI_lt gy;obtain⟨qq,gqq,ho3⟩:=bS ho3;have wqq:tans A 136 [1] [V.int .i64 p,V.isl (o.map Enc.enc),V.isl (q.map Enc.enc),V.int .i64 y]=some (V.isl (qq.map Enc.enc)):=t136 p o q y gqq;have wbq:=bare_one (α:=Int) qq;obtain⟨nn,gnn,ho3⟩:=bS ho3;have hE:=Option.some.inj ho3; subst hE;have hN1:E.length+1 < E3.length:=(List.getElem?_eq_some_iff.1 f1).1;have k1:E3[ko]? =some (uo,some vs):=(f4 ko hko).trans g1;obtain⟨v,v1,v2⟩:=g2.get ob;have ov:=ofCells_drop v1;have oy:ofCells none (List.drop at_.toNat (o.map Enc.enc))=some (V.int .i64 y):=ofCells_drop (by rw[List.getElem?_map,yb]; rfl);have v3:RRep E3 (fun k=> k < E.length) v o:=v2.frame fun k hk _=>⟨f4 k hk,hk⟩
     -- in any memory that keeps the rows
     have step:∀ (E4:List (Nat×Option (List V))) (c4 un4:Nat) (vn4:List V),E4[E.length+1]? =some (un4,some vn4)→Rws E4 (fun k=> k≠E.length+1) vn4 st.1→E4[E.length]? =some (c,some (q.map Enc.enc))→(∀k,k < E.length→E4[k]? =E[k]?)→
       E4[ko]? =some (uo,some vs)∧frz ⟨E4,c4⟩ 16 v=some (V.isl (o.map Enc.enc))∧frz ⟨E4,c4⟩ 16 (V.sl E.length c 0 q.length 1)=some (V.isl (q.map Enc.enc))∧
       appendV 1 24 (.sl (E.length+1) un4 0 st.1.length 1) 1 [V.sl E4.length c4 0 qq.length 1] ⟨E4++[(c4,some (qq.map Enc.enc))]++[(c4+1,some [V.sl E4.length c4 0 qq.length 1])],c4+1+1⟩=some (.sl (E.length+1) (c4+1+1) 0 (st.1.length+1) 1,⟨(E4++[(c4,some (qq.map Enc.enc))]++[(c4+1,some [V.sl E4.length c4 0 qq.length 1])]).set (E.length+1) (c4+1+1,some (vn4++[V.sl E4.length c4 0 qq.length 1])),c4+1+1+1⟩)∧
       RRep E4 (fun k=> k < E.length) v o∧
       (((E4++[(c4,some (qq.map Enc.enc))]++[(c4+1,some [V.sl E4.length c4 0 qq.length 1])]).set (E.length+1) (c4+1+1,some (vn4++[V.sl E4.length c4 0 qq.length 1])))[E.length+1]? =some (c4+1+1,some (vn4++[V.sl E4.length c4 0 qq.length 1]))∧
       Rws ((E4++[(c4,some (qq.map Enc.enc))]++[(c4+1,some [V.sl E4.length c4 0 qq.length 1])]).set (E.length+1) (c4+1+1,some (vn4++[V.sl E4.length c4 0 qq.length 1]))) (fun k=> k≠E.length+1) (vn4++[V.sl E4.length c4 0 qq.length 1]) nn∧
       ((E4++[(c4,some (qq.map Enc.enc))]++[(c4+1,some [V.sl E4.length c4 0 qq.length 1])]).set (E.length+1) (c4+1+1,some (vn4++[V.sl E4.length c4 0 qq.length 1])))[E.length]? =some (c,some (q.map Enc.enc))∧
       (∀k,k < E.length→((E4++[(c4,some (qq.map Enc.enc))]++[(c4+1,some [V.sl E4.length c4 0 qq.length 1])]).set (E.length+1) (c4+1+1,some (vn4++[V.sl E4.length c4 0 qq.length 1])))[k]? =E[k]?)∧nn.length=st.1.length+1):=by
      intro E4 c4 un4 vn4 a1 a2 a3 a4;have hN4:E.length+1 < E4.length:=(List.getElem?_eq_some_iff.1 a1).1;obtain⟨p1,p2,rfl⟩:=app_w gnn;have pre:∀x y (k:Nat),k < E4.length→(E4++[x]++[y])[k]? =E4[k]?:=fun x y k hk=> by rw[List.append_assoc]; exact List.getElem?_append_left hk
      refine⟨(a4 ko hko).trans g1,(v2.frame (B':=fun _=> True) fun k hk _=>⟨a4 k hk,trivial⟩).fz c4 10,frz_row a3,appendV_deep (E:=E4++[(c4,some (qq.map Enc.enc))]++[(c4+1,some [V.sl E4.length c4 0 qq.length 1])]) ((pre _ _ _ hN4).trans a1) a2.len (by simpa using p1) (by simpa using p2),v2.frame fun k hk _=>⟨a4 k hk,hk⟩,set_app_key (by simp; omega),?_,?_,fun k hk=>?_,by simp⟩
      ·exact(a2.frame fun k hk hne=>⟨(set_ne hne).trans (pre _ _ k hk),hne⟩).snoc ⟨_,_,rfl,(set_ne (by omega)).trans (ge2a ..),by omega⟩
      ·exact(set_ne (by omega)).trans ((pre _ _ _ (by omega)).trans a3)
      ·exact(set_ne (by omega)).trans ((pre _ _ k (by omega)).trans (a4 k hk))
     have hoc:k < (out.length:Int):=oc;cases put with
     |true=>
      unfold F131_3_C at gcnd;rw[if_pos rfl]at gcnd;cases gcnd;rw[if_neg Bool.false_ne_true]at gst;cases gst;obtain⟨b1,b2,b3,b4,b5,b6,b7,b8,b9,b10⟩:=step E3 c3 un vn f1 f2 f3 f4;simp only at b4 b10;obtain⟨kv,uv,rfl,w2,w3⟩:=b5;simp only[simprocAttr, -Int.reduceNatCast',R1,b131_3,hl_1,h0_1,h1_1,h5_1,h6_1,h7_1,h8_1,h11_1,h12_1,h13_1,hw3,eq_true hlt3,oa,k1,ov,ya,eq_true yc,oy,w2,b2,b3,wqq,wbq,callM_tans,thaw_one,le1,get_last,ge2a,ge2b,b4];refine And.intro rfl ⟨_,_,b6,b7,b8,b9,?_⟩;simp only[simprocAttr, -Int.reduceNatCast',R1,hl_1,h0_1,h1_1,h5_1,h6_1,h7_1,h8_1,h11_1,h12_1,h13_1,hw3,b10]
     |false=>
      unfold F131_3_C at gcnd;rw[if_neg Bool.false_ne_true,go,Option.bind_some]at gcnd;obtain⟨ld,gld,gcnd⟩:=bS gcnd;have wld:ans A 81 [V.isl (o.map Enc.enc)]=some (V.int .i64 ld):=s81 o gld;have hE:=Option.some.inj gcnd; subst hE;have wfv:=(v2.frame (E':=E3) (B':=fun _=> True) fun k hk _=>⟨f4 k hk,trivial⟩).fz c3 10;by_cases hld:at_ < ld
      ·rw[if_pos (by simpa using hld)]at gst
       obtain⟨n1,gn1,gst⟩:=bS gst;obtain⟨p1,p2,rfl⟩:=app_w gn1;have hE:=Option.some.inj gst; subst hE;have wap:appendV 1 24 (.sl (E.length+1) un 0 nx.length 1) 1 [V.sl E.length c 0 q.length 1] ⟨E3++[(c3,some [V.sl E.length c 0 q.length 1])],c3+1⟩=_:=appendV_deep (E:=E3++[(c3,some [V.sl E.length c 0 q.length 1])]) (by rw[List.getElem?_append_left hN1]; exact f1) f2.len (by simpa using p1) (by simpa using p2);have r1:Rws ((E3++[(c3,some [V.sl E.length c 0 q.length 1])]).set (E.length+1) (c3+1,some (vn++[V.sl E.length c 0 q.length 1]))) (fun k=> k≠E.length+1) (vn++[V.sl E.length c 0 q.length 1]) (nx++[q]):=
        (f2.frame fun k hk hne=>⟨(set_ne hne).trans (List.getElem?_append_left hk),hne⟩).snoc ⟨_,_,rfl,(set_ne (by omega)).trans ((List.getElem?_append_left (by omega)).trans f3),by omega⟩
       have hln:(nx++[q]).length=nx.length+1:=by simp
       obtain⟨b1,b2,b3,b4,b5,b6,b7,b8,b9,b10⟩:=step ((E3++[(c3,some [V.sl E.length c 0 q.length 1])]).set (E.length+1) (c3+1,some (vn++[V.sl E.length c 0 q.length 1]))) (c3+1+1) (c3+1) (vn++[V.sl E.length c 0 q.length 1]) (set_app_key (by simp; omega)) r1 ((set_ne (by omega)).trans ((List.getElem?_append_left (by omega)).trans f3)) (fun k hk=>(set_ne (by omega)).trans ((List.getElem?_append_left (by omega)).trans (f4 k hk)));have hlb:((E3++[(c3,some [V.sl E.length c 0 q.length 1])]).set (E.length+1) (c3+1,some (vn++[V.sl E.length c 0 q.length 1]))).length=E3.length+1:=by simp
       have hge:=fun y z=> ge2b ((E3++[(c3,some [V.sl E.length c 0 q.length 1])]).set (E.length+1) (c3+1,some (vn++[V.sl E.length c 0 q.length 1]))) y z;simp only[hlb]at hge;simp only[hln,hlb]at b4 b6 b7 b8 b9 b10;obtain⟨kv,uv,rfl,w2,w3⟩:=b5;simp only[simprocAttr, -Int.reduceNatCast',R1,b131_3,hl_1,h0_1,h1_1,h5_1,h6_1,h7_1,h8_1,h11_1,h12_1,h13_1,hw3,eq_true hlt3,oa,k1,ov,wfv,wld,eq_true hld,ya,eq_true yc,oy,w2,b1,b2,b3,wap,wqq,wbq,callM_tans,thaw_one,le1,hlb,hge,get_last,ge2a,ge2b,b4];refine And.intro rfl ⟨_,_,b6,b7,b8,b9,?_⟩;simp only[simprocAttr, -Int.reduceNatCast',R1,hl_1,h0_1,h1_1,h5_1,h6_1,h7_1,h8_1,h11_1,h12_1,h13_1,hw3,b10]
      ·rw[if_neg (by simpa using hld)]at gst
       have hE:=Option.some.inj gst; subst hE;obtain⟨b1,b2,b3,b4,b5,b6,b7,b8,b9,b10⟩:=step E3 c3 un vn f1 f2 f3 f4;simp only at b4 b10;obtain⟨kv,uv,rfl,w2,w3⟩:=b5;simp only[simprocAttr, -Int.reduceNatCast',R1,b131_3,hl_1,h0_1,h1_1,h5_1,h6_1,h7_1,h8_1,h11_1,h12_1,h13_1,hw3,eq_true hlt3,oa,k1,ov,wfv,wld,eq_false hld,ya,eq_true yc,oy,w2,b2,b3,wqq,wbq,callM_tans,thaw_one,le1,get_last,ge2a,ge2b,b4];refine And.intro rfl ⟨_,_,b6,b7,b8,b9,?_⟩;simp only[simprocAttr, -Int.reduceNatCast',R1,hl_1,h0_1,h1_1,h5_1,h6_1,h7_1,h8_1,h11_1,h12_1,h13_1,hw3,b10]
    ·clear hl_1 h0_1 h1_1 h5_1 h6_1 h7_1 h8_1 h9_1 h10_1
     rintro k ⟨nx,put⟩ e ⟨E3,c3⟩ ⟨un,vn,f1,f2,f3,f4,hl_1,h0_1,h1_1,h5_1,h6_1,h7_1,h8_1,h11_1,h12_1,h13_1⟩ hge3 t3 ho3;unfold F131_3_D at ho3;have hE:=Option.some.inj ho3; subst hE;simp only at f1 f2 f3 f4 h11_1 h12_1;have hN1:E.length+1 < E3.length:=(List.getElem?_eq_some_iff.1 f1).1;cases put with
     |true=>
      simp only[simprocAttr, -Int.reduceNatCast',R1,b131_3,hl_1,h0_1,h1_1,h5_1,h6_1,h7_1,h8_1,h11_1,h12_1,h13_1,eq_false hge3,hw];intro ht; subst ht;simp only[if_true]at ho;have hE:=Option.some.inj ho; subst hE;refine And.intro rfl ⟨E.length+1,un,vn,f1,f2.frame fun k hk _=>⟨rfl,trivial⟩,?_⟩;simp only[simprocAttr, -Int.reduceNatCast',R1,hl_1,h0_1,h1_1,h5_1,h6_1,h7_1,h8_1,h11_1,h12_1,h13_1]
     |false=>
      simp only[simprocAttr, -Int.reduceNatCast',R1,b131_3,hl_1,h0_1,h1_1,h5_1,h6_1,h7_1,h8_1,h11_1,h12_1,h13_1,eq_false hge3,hw,le1,get_last];intro ht; subst ht;rw[if_neg Bool.false_ne_true]at ho;obtain⟨n1,gn1,ho⟩:=bS ho;obtain⟨p1,p2,rfl⟩:=app_w gn1;have hE:=Option.some.inj ho; subst hE;have wap:appendV 1 24 (.sl (E.length+1) un 0 nx.length 1) 1 [V.sl E.length c 0 q.length 1] ⟨E3++[(c3,some [V.sl E.length c 0 q.length 1])],c3+1⟩=_:=appendV_deep (E:=E3++[(c3,some [V.sl E.length c 0 q.length 1])]) (by rw[List.getElem?_append_left hN1]; exact f1) f2.len (by simpa using p1) (by simpa using p2);have r1:Rws ((E3++[(c3,some [V.sl E.length c 0 q.length 1])]).set (E.length+1) (c3+1,some (vn++[V.sl E.length c 0 q.length 1]))) (fun k=> k≠E.length+1) (vn++[V.sl E.length c 0 q.length 1]) (nx++[q]):=
       (f2.frame fun k hk hne=>⟨(set_ne hne).trans (List.getElem?_append_left hk),hne⟩).snoc ⟨_,_,rfl,(set_ne (by omega)).trans ((List.getElem?_append_left (by omega)).trans f3),by omega⟩
      simp only[simprocAttr, -Int.reduceNatCast',R1,b131_3,hl_1,h0_1,h1_1,h5_1,h6_1,h7_1,h8_1,h11_1,h12_1,h13_1,eq_false hge3,hw,le1,get_last,wap];refine And.intro rfl ⟨E.length+1,c3+1,_,set_app_key (by simp; omega),r1.frame fun k hk _=>⟨rfl,trivial⟩,?_⟩;simp only[simprocAttr, -Int.reduceNatCast',R1,hl_1,h0_1,h1_1,h5_1,h6_1,h7_1,h8_1,h11_1,h12_1,h13_1,List.length_append]
 ·clear hl_0 h0_0 h1_0
  rintro i out e ⟨E,c⟩ ⟨ko,uo,vs,g1,g2,hl_1,h0_1,h1_1,h5_1,h6_1⟩ hge t1 ho;unfold F131_1_D at ho;have hE:=Option.some.inj ho; subst hE;simp only at g1 g2;simp only[simprocAttr, -Int.reduceNatCast',R1,b131_1,hl_1,h0_1,h1_1,h5_1,h6_1,eq_false hge];intro ht; subst ht;refine And.intro (fun _=> trivial) ⟨_,?_,ko,uo,vs,rfl,g1,g2⟩;simp only[simprocAttr, -Int.reduceNatCast',R1,fn_out,p131,Rs.ev,hl_1,h5_1]
theorem s131(p:Int)(rows:List (List Int)){r:List (List Int)}(hF:F131 p rows=some r):ans A 131 [V.int .i64 p,V.isl (rows.map Enc.enc)]=some (Enc.enc r):=by
 obtain⟨_,h',h1,k,u,vs,rfl,h2,h3⟩:=d131 p rows hF;have:=h3.fz h'.clk h2;unfold ans;rw[h1];exact this
def F122_1_B(a0:Int)(a1:Int)(a2:List (List Int))(v9_1:Int)(s:(List (List Int))×Int):Option (((List (List Int))×Int)⊕((List (List Int))×Int)):=
 match s with
 |(o0_1,v8_1)=>
  (mkL 8 a1 0).bind fun l5=>
  (getI l5 v9_1).bind fun x7=>
  (setI l5 v9_1 1).bind fun l9=>
  (getI a2 v9_1).bind fun x11=>
  (F94 x11).bind fun x13=>
  (app 8 x13 l9).bind fun l16=>
  (app 24 o0_1 [l16]).bind fun l18=>
  some (.inl (l18,(x11.length:Int)))
def F122_1_D(a0:Int)(a1:Int)(a2:List (List Int))(v9_1:Int)(s:(List (List Int))×Int):Option ((List (List Int))×Int):=
 match s with
 |(o0_1,v8_1)=>
  some (o0_1,v8_1)
def F122_2_B(zv8_1:Int)(x20:List (List Int))(v13_2:Int)(o1_2:(List (List Int))):Option (((List (List Int)))⊕((List (List Int)))):=
 (getI x20 v13_2).bind fun x26=>
(F81 x26).bind fun x28=>
if zv8_1≤x28 then
 (slI x26 zv8_1 (x26.length:Int)).bind fun l31=>
 (F94 l31).bind fun x33=>
 (app 24 o1_2 [x33]).bind fun l36=>
 some (.inl l36)
else
 some (.inl o1_2)
def F122_2_D(zv8_1:Int)(x20:List (List Int))(v13_2:Int)(o1_2:(List (List Int))):Option ((List (List Int))):=
 some o1_2
def F122(a0:Int)(a1:Int)(a2:List (List Int)):Option (List (List Int)):=
 (forR 0 a1 (F122_1_B a0 a1 a2) (F122_1_D a0 a1 a2) ([],0)).bind fun t19=> match t19 with
  |(zo0_1,zv8_1)=>
   (F131 a0 zo0_1).bind fun x20=>
   (forR 0 (x20.length:Int) (F122_2_B zv8_1 x20) (F122_2_D zv8_1 x20) ([]:(List (List Int)))).bind fun zo1_2=>
   some zo1_2
def I122_1(a0:Int)(a1:Int)(a2:List (List Int))(v9_1:Int)(s:(List (List Int))×Int)(e:Env)(h:Heap):Prop:=
 match s with
 |(o0_1,v8_1)=>
  ∃u2 k3:Nat,h=⟨[(u2,some (o0_1.map Enc.enc))],k3⟩∧e.length=68∧e.at 0=V.int .i64 a0∧e.at 1=V.int .i64 a1∧e.at 2=V.isl (a2.map Enc.enc)∧e.at 7=V.sl 0 u2 0 o0_1.length 1∧e.at 8=V.int .i64 v8_1∧e.at 9=V.int .i64 v9_1
def P122_1(a0:Int)(a1:Int)(a2:List (List Int))(t:(List (List Int))×Int)(x:Ex)(e:Env)(h:Heap):Prop:=
 match t with
 |(zo0_1,zv8_1)=>
  x= .normal∧∃u2 k3:Nat,h=⟨[(u2,some (zo0_1.map Enc.enc))],k3⟩∧e.length=68∧e.at 0=V.int .i64 a0∧e.at 7=V.sl 0 u2 0 zo0_1.length 1∧e.at 8=V.int .i64 zv8_1
theorem l122_1(a0:Int)(a1:Int)(a2:List (List Int)){lo:Int}{s:(List (List Int))×Int}{t:(List (List Int))×Int}(hF:forR lo a1 (F122_1_B a0 a1 a2) (F122_1_D a0 a1 a2) s=some t){e:Env}{h:Heap}(hI:I122_1 a0 a1 a2 lo s e h):W A c122_1 e h (P122_1 a0 a1 a2 t):=by
 show W A (.block 0 (.loop false b122_1)) e h _;rw[W_block];refine W_forR hF 1 (by rcases s with⟨_,_⟩; obtain⟨_,_,rfl,_⟩:=hI; rfl) (I122_1 a0 a1 a2) hI ?_ ?_
 ·rintro v9_1 ⟨o0_1,v8_1⟩ e h ⟨u2,k3,rfl,h_1⟩ hlt hw o ho
  unfold F122_1_B at ho;dsimp only at ho;obtain⟨l5,gl5,ho⟩:=bS ho;obtain⟨w6a,w6b,w6c,w6d,w6e⟩:=mkL_w gl5;replace w6e:(List.replicate (Int.toNat a1) [V.int .i64 0]).flatten=List.map Enc.enc l5:=w6e;obtain⟨x7,gx7,ho⟩:=bS ho;obtain⟨w8a,w8b⟩:=getI_w gx7;have w8c:=getI_lt gx7;replace w8c:v9_1 < (((Int.toNat a1):Nat):Int):=by first|exact w8c|(simp only[w6d]at w8c ⊢; exact w8c)
  have w8d:List.drop (Int.toNat v9_1) (l5.map Enc.enc)=(V.int .i64 x7)::List.drop ((Int.toNat v9_1)+1) (l5.map Enc.enc):=drop_enc w8b;obtain⟨l9,gl9,ho⟩:=bS ho;obtain⟨w10a,w10b,w10c,w10d,w10e⟩:=setI_w gl9;replace w10e:List.take (Int.toNat v9_1) (l5.map Enc.enc)++[V.int .i64 1]++List.drop (Int.toNat v9_1+1) (l5.map Enc.enc)=List.map Enc.enc l9:=w10e;obtain⟨x11,gx11,ho⟩:=bS ho;obtain⟨w12a,w12b⟩:=getI_w gx11;obtain⟨x13,gx13,ho⟩:=bS ho;have w14:tans A 94 [1] [V.isl (x11.map Enc.enc)]=some (V.isl (x13.map Enc.enc)):=t94 x11 gx13;have w14t:=thaw_one (α:=Int) x13;obtain⟨l16,gl16,ho⟩:=bS ho;have w15:=fun a b c d e=> appendV_w (α:=Int) (n:=x13.length) (m:=(Int.toNat a1)) (ds:=List.map Enc.enc l9) gl16 (by first|rfl|simp only[w6d,w10d]) (by first|rfl|simp only[w6d,w10d]) rfl a b c d e;have w15l:=app_len gl16;obtain⟨l18,gl18,ho⟩:=bS ho;have w17:=fun a b c d e=> appendV_w (α:=List Int) (n:=o0_1.length) (m:=1) (ds:=[V.isl (l16.map Enc.enc)]) gl18 (by first|rfl|simp only[w6d,w10d]) (by first|rfl|simp only[w6d,w10d]) rfl a b c d e;have w17l:=app_len gl18;cases ho;simp only[simprocAttr, -Int.reduceNatCast',R0,b122_1,h_1,eq_true hlt,hw,w6a,w6b,w6c,w6e,w8a,w8b,w8c,w8d,w10a,w10b,w10c,w10e,w12a,w12b,w14,w14t,take_len (α:=Int) (l:=l9) (n:=(Int.toNat a1)) (by first|rfl|simp only[w6d,w10d]),eq_true (le_of_len (l:=l9) (n:=(Int.toNat a1)) (by first|rfl|simp only[w6d,w10d])),w15,takes (α:=Int) l16,w17];refine And.intro rfl (Exists.intro _ (Exists.intro _ (And.intro rfl ?_)));simp only[simprocAttr, -Int.reduceNatCast',R0,h_1,eq_true hlt,hw,w6a,w6b,w6c,w6e,w8a,w8b,w8c,w8d,w10a,w10b,w10c,w10e,w12a,w12b,w14,w14t,take_len (α:=Int) (l:=l9) (n:=(Int.toNat a1)) (by first|rfl|simp only[w6d,w10d]),eq_true (le_of_len (l:=l9) (n:=(Int.toNat a1)) (by first|rfl|simp only[w6d,w10d])),w15,takes (α:=Int) l16,w17,w6d,w10d]
 ·rintro v9_1 ⟨o0_1,v8_1⟩ e h ⟨u2,k3,rfl,h_1⟩ hge t1 ho
  unfold F122_1_D at ho;dsimp only at ho;cases ho;simp only[simprocAttr, -Int.reduceNatCast',R0,b122_1,h_1,eq_false hge];intro ht; subst ht;refine And.intro rfl (Exists.intro _ (Exists.intro _ (And.intro rfl ?_)));simp only[simprocAttr, -Int.reduceNatCast',R0,h_1,eq_false hge]
def I122_2(zv8_1:Int)(x20:List (List Int))(v13_2:Int)(o1_2:(List (List Int)))(e:Env)(h:Heap):Prop:=
 ∃u23 k24:Nat,h=⟨[(0,none),(u23,some (o1_2.map Enc.enc))],k24⟩∧e.length=68∧e.at 8=V.int .i64 zv8_1∧e.at 11=V.isl (x20.map Enc.enc)∧e.at 12=V.sl 1 u23 0 o1_2.length 1∧e.at 13=V.int .i64 v13_2
def P122_2(zv8_1:Int)(x20:List (List Int))(zo1_2:(List (List Int)))(x:Ex)(e:Env)(h:Heap):Prop:=
 x= .normal∧∃u23 k24:Nat,h=⟨[(0,none),(u23,some (zo1_2.map Enc.enc))],k24⟩∧e.length=68∧e.at 12=V.sl 1 u23 0 zo1_2.length 1
theorem l122_2(zv8_1:Int)(x20:List (List Int)){lo:Int}{s:(List (List Int))}{t:(List (List Int))}(hF:forR lo (x20.length:Int) (F122_2_B zv8_1 x20) (F122_2_D zv8_1 x20) s=some t){e:Env}{h:Heap}(hI:I122_2 zv8_1 x20 lo s e h):W A c122_2 e h (P122_2 zv8_1 x20 t):=by
 show W A (.block 2 (.loop false b122_2)) e h _;rw[W_block];refine W_forR hF 2 (by obtain⟨_,_,rfl,_⟩:=hI; rfl) (I122_2 zv8_1 x20) hI ?_ ?_
 ·rintro v13_2 o1_2 e h ⟨u23,k24,rfl,h_22⟩ hlt hw o ho
  unfold F122_2_B at ho;obtain⟨x26,gx26,ho⟩:=bS ho;obtain⟨w27a,w27b⟩:=getI_w gx26;obtain⟨x28,gx28,ho⟩:=bS ho;have w29:ans A 81 [V.isl (x26.map Enc.enc)]=some (V.int .i64 x28):=s81 x26 gx28;by_cases c30:zv8_1≤x28
  ·rw[if_pos c30]at ho
   obtain⟨l31,gl31,ho⟩:=bS ho;have w32:sliceV 1 (V.isl (x26.map Enc.enc)) (some (V.int .i64 zv8_1)) none=some (V.isl (l31.map Enc.enc)):=sliceV_w (α:=Int) One.one gl31 (.inr rfl) (.inl ⟨rfl,rfl⟩);obtain⟨x33,gx33,ho⟩:=bS ho;have w34:ans A 94 [V.isl (l31.map Enc.enc)]=some (V.isl (x33.map Enc.enc)):=s94 l31 gx33;obtain⟨l36,gl36,ho⟩:=bS ho;have w35:=fun a b c d e=> appendV_w (α:=List Int) (n:=o1_2.length) (m:=1) (ds:=[V.isl (x33.map Enc.enc)]) gl36 (by first|rfl|simp) (by first|rfl|simp) rfl a b c d e;have w35l:=app_len gl36;cases ho;simp only[simprocAttr,R0,b122_2,h_22,eq_true hlt,hw,w27a,w27b,w29,eq_true c30,w32,w34,w35];refine And.intro rfl (Exists.intro _ (Exists.intro _ (And.intro rfl ?_)));simp only[simprocAttr,R0,h_22,eq_true hlt,hw,w27a,w27b,w29,eq_true c30,w32,w34,w35]
  ·rw[if_neg c30]at ho
   cases ho;simp only[simprocAttr,R0,b122_2,h_22,eq_true hlt,hw,w27a,w27b,w29,eq_false c30];refine And.intro rfl (Exists.intro _ (Exists.intro _ (And.intro rfl ?_)));simp only[simprocAttr,R0,h_22,eq_true hlt,hw,w27a,w27b,w29,eq_false c30]
 ·rintro v13_2 o1_2 e h ⟨u23,k24,rfl,h_22⟩ hge t1 ho
  unfold F122_2_D at ho;cases ho;simp only[simprocAttr,R0,b122_2,h_22,eq_false hge];intro ht; subst ht;refine And.intro rfl (Exists.intro _ (Exists.intro _ (And.intro rfl ?_)));simp only[simprocAttr,R0,h_22,eq_false hge]
theorem s122(a0:Int)(a1:Int)(a2:List (List Int)){r:List (List Int)}(hF:F122 a0 a1 a2=some r):ans A 122 [V.int .i64 a0,V.int .i64 a1,V.isl (a2.map Enc.enc)]=some (Enc.enc r):=by
 refine ans_of (f:=p122) rfl rfl rfl fun e hl he=>?_;have h0_0:e.at 0=V.int .i64 a0:=he 0 _ rfl;have h1_0:e.at 1=V.int .i64 a1:=he 1 _ rfl;have h2_0:e.at 2=V.isl (a2.map Enc.enc):=he 2 _ rfl;have hl_0:e.length=68:=hl;clear he hl;show W A b122 e ⟨[],0⟩ _;unfold F122 at hF;obtain⟨⟨zo0_1,zv8_1⟩,gt19,hF⟩:=bS hF;dsimp only at hF;simp only[simprocAttr, -Int.reduceNatCast',R0,b122,hl_0,h0_0,h1_0,h2_0];refine W.mono (l122_1 a0 a1 a2 gt19 (Exists.intro _ (Exists.intro _ (And.intro rfl ?_)))) ?_
 ·simp only[simprocAttr, -Int.reduceNatCast',R0,hl_0,h0_0,h1_0,h2_0]
 rintro _ e _ ⟨rfl,u2,k3,rfl,hl_4,h0_4,h7_4,h8_4⟩;obtain⟨x20,gx20,hF⟩:=bS hF;have w21:ans A 131 [V.int .i64 a0,V.isl (zo0_1.map Enc.enc)]=some (V.isl (x20.map Enc.enc)):=s131 a0 zo0_1 gx20;obtain⟨zo1_2,gt37,hF⟩:=bS hF;simp only[simprocAttr, -Int.reduceNatCast',R0,hl_4,h0_4,h7_4,h8_4,takes (α:=List Int) zo0_1,w21];refine W.mono (l122_2 zv8_1 x20 gt37 (Exists.intro _ (Exists.intro _ (And.intro rfl ?_)))) ?_
 ·simp only[simprocAttr, -Int.reduceNatCast',R0,hl_4,h0_4,h7_4,h8_4,takes (α:=List Int) zo0_1,w21]
 rintro _ e _ ⟨rfl,u23,k24,rfl,hl_25,h12_25⟩;have hE:=Option.some.inj hF; subst hE;simp only[simprocAttr, -Int.reduceNatCast',R0,hl_25,h12_25];exact fin_ret (by simp only[simprocAttr, -Int.reduceNatCast',R0,fn_out,p122,Rs.ev,take_len_self,hl_25,h12_25,frzs (α:=List Int) zo1_2,takes (α:=List Int) zo1_2])
def F98(a0:GComplex)(a1:Int):Option (List (List Int)):=
 (F99 a0 a1).bind fun x1=>
 (F76 a0 a1).bind fun x3=>
 (F122 a0.Prime x1 x3).bind fun x5=>
 some x5
theorem s98(a0:GComplex)(a1:Int){r:List (List Int)}(hF:F98 a0 a1=some r):ans A 98 [(eC a0),V.int .i64 a1]=some (Enc.enc r):=by
 refine ans_of (f:=p98) rfl rfl rfl fun e hl he=>?_;have h0_0:e.at 0=(eC a0):=he 0 _ rfl;have h1_0:e.at 1=V.int .i64 a1:=he 1 _ rfl;have hl_0:e.length=14:=hl;clear he hl;show W A b98 e ⟨[],0⟩ _;unfold F98 at hF;obtain⟨x1,gx1,hF⟩:=bS hF;have w2:ans A 99 [(eC a0),V.int .i64 a1]=some (V.int .i64 x1):=s99 a0 a1 gx1;obtain⟨x3,gx3,hF⟩:=bS hF;have w4:ans A 76 [(eC a0),V.int .i64 a1]=some (V.isl (x3.map Enc.enc)):=s76 a0 a1 gx3;obtain⟨x5,gx5,hF⟩:=bS hF;have w6:ans A 122 [V.int .i64 a0.Prime,V.int .i64 x1,V.isl (x3.map Enc.enc)]=some (V.isl (x5.map Enc.enc)):=s122 a0.Prime x1 x3 gx5;cases hF;simp only[simprocAttr,R0,b98,hl_0,h0_0,h1_0,w2,w4,w6];exact fin_ret (by simp only[simprocAttr,R0,fn_out,p98,Rs.ev,take_len_self,hl_0,h0_0,h1_0,w2,w4,w6])
def F251(a0:GComplex)(a1:Int):Option (List (List Int)):=
 (chk (a1+1)).bind fun x1=>
 (F76 a0 x1).bind fun x2=>
 (F131 a0.Prime x2).bind fun x4=>
 some x4
theorem s251(a0:GComplex)(a1:Int){r:List (List Int)}(hF:F251 a0 a1=some r):ans A 251 [(eC a0),V.int .i64 a1]=some (Enc.enc r):=by
 refine ans_of (f:=p251) rfl rfl rfl fun e hl he=>?_;have h0_0:e.at 0=(eC a0):=he 0 _ rfl;have h1_0:e.at 1=V.int .i64 a1:=he 1 _ rfl;have hl_0:e.length=12:=hl;clear he hl;show W A b251 e ⟨[],0⟩ _;unfold F251 at hF;obtain⟨x1,gx1,hF⟩:=bS hF;have wx1:=chk_w gx1;obtain⟨x2,gx2,hF⟩:=bS hF;have w3:ans A 76 [(eC a0),V.int .i64 x1]=some (V.isl (x2.map Enc.enc)):=s76 a0 x1 gx2;obtain⟨x4,gx4,hF⟩:=bS hF;have w5:ans A 131 [V.int .i64 a0.Prime,V.isl (x2.map Enc.enc)]=some (V.isl (x4.map Enc.enc)):=s131 a0.Prime x2 gx4;cases hF;simp only[simprocAttr,R0,b251,hl_0,h0_0,h1_0,wx1,w3,w5];exact fin_ret (by simp only[simprocAttr,R0,fn_out,p251,Rs.ev,take_len_self,hl_0,h0_0,h1_0,wx1,w3,w5])
def F283(a0:GComplex)(a1:Int):Option Int:=
 (F98 a0 a1).bind fun x1=>
 (F251 a0 a1).bind fun x3=>
 (chk ((x1.length:Int) - (x3.length:Int))).bind fun x5=>
 some x5
theorem s283(a0:GComplex)(a1:Int){r:Int}(hF:F283 a0 a1=some r):ans A 283 [(eC a0),V.int .i64 a1]=some (Enc.enc r):=by
 refine ans_of (f:=p283) rfl rfl rfl fun e hl he=>?_;have h0_0:e.at 0=(eC a0):=he 0 _ rfl;have h1_0:e.at 1=V.int .i64 a1:=he 1 _ rfl;have hl_0:e.length=14:=hl;clear he hl;show W A b283 e ⟨[],0⟩ _;unfold F283 at hF;obtain⟨x1,gx1,hF⟩:=bS hF;have w2:ans A 98 [(eC a0),V.int .i64 a1]=some (V.isl (x1.map Enc.enc)):=s98 a0 a1 gx1;obtain⟨x3,gx3,hF⟩:=bS hF;have w4:ans A 251 [(eC a0),V.int .i64 a1]=some (V.isl (x3.map Enc.enc)):=s251 a0 a1 gx3;obtain⟨x5,gx5,hF⟩:=bS hF;have wx5:=chk_w gx5;cases hF;simp only[simprocAttr,R0,b283,hl_0,h0_0,h1_0,w2,w4,wx5];exact fin_ret (by simp only[simprocAttr,R0,fn_out,p283,Rs.ev,take_len_self,hl_0,h0_0,h1_0,w2,w4,wx5])
def F284(a0:GComplex)(a1:GContraction)(a2:Int)(a3:List Int):Option (List Int):=
 (getI a1.Up a2).bind fun x1=>
 (F99 a0 a2).bind fun x3=>
 (F80 a0.Prime x1 a3 x3).bind fun x5=>
 some x5
theorem s284(a0:GComplex)(a1:GContraction)(a2:Int)(a3:List Int){r:List Int}(hF:F284 a0 a1 a2 a3=some r):ans A 284 [(eC a0),(eK a1),V.int .i64 a2,V.isl (a3.map Enc.enc)]=some (Enc.enc r):=by
 refine ans_of (f:=p284) rfl rfl rfl fun e hl he=>?_;have h0_0:e.at 0=(eC a0):=he 0 _ rfl;have h1_0:e.at 1=(eK a1):=he 1 _ rfl;have h2_0:e.at 2=V.int .i64 a2:=he 2 _ rfl;have h3_0:e.at 3=V.isl (a3.map Enc.enc):=he 3 _ rfl;have hl_0:e.length=21:=hl;clear he hl;show W A b284 e ⟨[],0⟩ _;unfold F284 at hF;obtain⟨x1,gx1,hF⟩:=bS hF;obtain⟨w2a,w2b⟩:=getI_w gx1;obtain⟨x3,gx3,hF⟩:=bS hF;have w4:ans A 99 [(eC a0),V.int .i64 a2]=some (V.int .i64 x3):=s99 a0 a2 gx3;obtain⟨x5,gx5,hF⟩:=bS hF;have w6:ans A 80 [V.int .i64 a0.Prime,V.isl (x1.map Enc.enc),V.isl (a3.map Enc.enc),V.int .i64 x3]=some (V.isl (x5.map Enc.enc)):=s80 a0.Prime x1 a3 x3 gx5;cases hF;simp only[simprocAttr,R0,b284,hl_0,h0_0,h1_0,h2_0,h3_0,w2a,w2b,w4,w6];exact fin_ret (by simp only[simprocAttr,R0,fn_out,p284,Rs.ev,take_len_self,hl_0,h0_0,h1_0,h2_0,h3_0,w2a,w2b,w4,w6])
def F286(a0:GComplex)(a1:GContraction)(a2:Int)(a3:List Int):Option (List Int):=
 (getI a1.Down a2).bind fun x1=>
 (F283 a0 a2).bind fun x3=>
 (F80 a0.Prime x1 a3 x3).bind fun x5=>
 some x5
theorem s286(a0:GComplex)(a1:GContraction)(a2:Int)(a3:List Int){r:List Int}(hF:F286 a0 a1 a2 a3=some r):ans A 286 [(eC a0),(eK a1),V.int .i64 a2,V.isl (a3.map Enc.enc)]=some (Enc.enc r):=by
 refine ans_of (f:=p286) rfl rfl rfl fun e hl he=>?_;have h0_0:e.at 0=(eC a0):=he 0 _ rfl;have h1_0:e.at 1=(eK a1):=he 1 _ rfl;have h2_0:e.at 2=V.int .i64 a2:=he 2 _ rfl;have h3_0:e.at 3=V.isl (a3.map Enc.enc):=he 3 _ rfl;have hl_0:e.length=21:=hl;clear he hl;show W A b286 e ⟨[],0⟩ _;unfold F286 at hF;obtain⟨x1,gx1,hF⟩:=bS hF;obtain⟨w2a,w2b⟩:=getI_w gx1;obtain⟨x3,gx3,hF⟩:=bS hF;have w4:ans A 283 [(eC a0),V.int .i64 a2]=some (V.int .i64 x3):=s283 a0 a2 gx3;obtain⟨x5,gx5,hF⟩:=bS hF;have w6:ans A 80 [V.int .i64 a0.Prime,V.isl (x1.map Enc.enc),V.isl (a3.map Enc.enc),V.int .i64 x3]=some (V.isl (x5.map Enc.enc)):=s80 a0.Prime x1 a3 x3 gx5;cases hF;simp only[simprocAttr,R0,b286,hl_0,h0_0,h1_0,h2_0,h3_0,w2a,w2b,w4,w6];exact fin_ret (by simp only[simprocAttr,R0,fn_out,p286,Rs.ev,take_len_self,hl_0,h0_0,h1_0,h2_0,h3_0,w2a,w2b,w4,w6])
def F78(a0:Int):Option Bool:=
 if a0=2 then
  some true
 else
  if a0=3 then
   some true
  else
   if a0=5 then
    some true
   else
    some (decide (a0=7))
theorem s78(a0:Int){r:Bool}(hF:F78 a0=some r):ans A 78 [V.int .i64 a0]=some (Enc.enc r):=by
 refine ans_of (f:=p78) rfl rfl rfl fun e hl he=>?_;have h0_0:e.at 0=V.int .i64 a0:=he 0 _ rfl;have hl_0:e.length=17:=hl;clear he hl;have h_0:=And.intro hl_0 h0_0;show W A b78 e ⟨[],0⟩ _;unfold F78 at hF;by_cases c1:a0=2
 ·rw[if_pos c1]at hF
  cases hF;simp only[simprocAttr,R0,b78,h_0,eq_true c1];exact fin_ret (by simp only[simprocAttr,R0,fn_out,p78,Rs.ev,take_len_self,h_0,eq_true c1])
 ·rw[if_neg c1]at hF
  by_cases c2:a0=3
  ·rw[if_pos c2]at hF
   cases hF;simp only[simprocAttr,R0,b78,h_0,eq_false c1,eq_true c2];exact fin_ret (by simp only[simprocAttr,R0,fn_out,p78,Rs.ev,take_len_self,h_0,eq_false c1,eq_true c2])
  ·rw[if_neg c2]at hF
   by_cases c3:a0=5
   ·rw[if_pos c3]at hF
    cases hF;simp only[simprocAttr,R0,b78,h_0,eq_false c1,eq_false c2,eq_true c3];exact fin_ret (by simp only[simprocAttr,R0,fn_out,p78,Rs.ev,take_len_self,h_0,eq_false c1,eq_false c2,eq_true c3])
   ·rw[if_neg c3]at hF
    cases hF;simp only[simprocAttr,R0,b78,h_0,eq_false c1,eq_false c2,eq_false c3];exact fin_ret (by simp only[simprocAttr,R0,fn_out,p78,Rs.ev,take_len_self,h_0,eq_false c1,eq_false c2,eq_false c3])
def F79_2_S(a0:Int)(a1:List (List Int))(a3:Int)(v9_1:Int)(v10_2:Int):Option ((Int)⊕((Unit)⊕Bool)):=
 (getI a1 v9_1).bind fun x11=>
if v10_2 < (x11.length:Int)then
 (getI x11 v10_2).bind fun x14=>
 (chk (a0 - 1)).bind fun x16=>
 (F54 x14 0 x16).bind fun x17=>
 if x17=true then
  (chk (v10_2+1)).bind fun x19=>
  some (.inl x19)
 else
  some (.inr (.inr false))
else
 some (.inr (.inl ()))
def F79_1_B(a0:Int)(a1:List (List Int))(a3:Int)(v9_1:Int)(s:Unit):Option ((Unit)⊕((Unit)⊕Bool)):=
 (getI a1 v9_1).bind fun x5=>
if(x5.length:Int)=a3 then
 (loopW (F79_2_S a0 a1 a3 v9_1) 0).bind fun t20=> match t20 with
  | .inl _=>
   some (.inl ())
  | .inr r21=> some (.inr (.inr r21))
else
 some (.inr (.inr false))
def F79_1_D(a0:Int)(a1:List (List Int))(a3:Int)(v9_1:Int)(s:Unit):Option ((Unit)⊕Bool):=
 some (.inl ())
def F79(a0:Int)(a1:List (List Int))(a2:Int)(a3:Int):Option Bool:=
 if(a1.length:Int)=a2 then
  (forR 0 (a1.length:Int) (F79_1_B a0 a1 a3) (F79_1_D a0 a1 a3) ()).bind fun t22=> match t22 with
   | .inl _=>
    some true
   | .inr r23=> some r23
 else
  some false
def I79_2(a0:Int)(a1:List (List Int))(a3:Int)(v9_1:Int)(v10_2:Int)(e:Env)(h:Heap):Prop:=
 ∃k9:Nat,h=⟨[],k9⟩∧e.length=48∧e.at 0=V.int .i64 a0∧e.at 1=V.isl (a1.map Enc.enc)∧e.at 3=V.int .i64 a3∧e.at 9=V.int .i64 v9_1∧e.at 10=V.int .i64 v10_2
def P79_2(a0:Int)(a1:List (List Int))(a3:Int)(v9_1:Int)(t:(Unit)⊕Bool)(x:Ex)(e:Env)(h:Heap):Prop:=
 match t with
 | .inl _=> x= .normal∧∃k9:Nat,h=⟨[],k9⟩∧e.length=48∧e.at 0=V.int .i64 a0∧e.at 1=V.isl (a1.map Enc.enc)∧e.at 3=V.int .i64 a3∧e.at 9=V.int .i64 v9_1
 | .inr r=> x= .ret∧Fin p79 (Enc.enc r) .ret e h
theorem l79_2(a0:Int)(a1:List (List Int))(a3:Int)(v9_1:Int){s:Int}{t:(Unit)⊕Bool}(hF:loopW (F79_2_S a0 a1 a3 v9_1) s=some t){e:Env}{h:Heap}(hI:I79_2 a0 a1 a3 v9_1 s e h):W A c79_2 e h (P79_2 a0 a1 a3 v9_1 t):=by
 show W A (.block 2 (.loop false b79_2)) e h _;rw[W_block];refine W_loop hF 0 (by obtain⟨_,rfl,_⟩:=hI; rfl) (I79_2 a0 a1 a3 v9_1) hI ?_
 ·rintro v10_2 e h ⟨k9,rfl,h_8⟩ o ho
  unfold F79_2_S at ho;obtain⟨x11,gx11,ho⟩:=bS ho;obtain⟨w12a,w12b⟩:=getI_w gx11;by_cases c13:v10_2 < (x11.length:Int)
  ·rw[if_pos c13]at ho
   obtain⟨x14,gx14,ho⟩:=bS ho;obtain⟨w15a,w15b⟩:=getI_w gx14;obtain⟨x16,gx16,ho⟩:=bS ho;have wx16:=chk_w gx16;obtain⟨x17,gx17,ho⟩:=bS ho;have w18:ans A 54 [V.int .i64 x14,V.int .i64 0,V.int .i64 x16]=some (V.bool x17):=s54 x14 0 x16 gx17;cases x17 with
   |true=>
    rw[if_pos rfl]at ho;obtain⟨x19,gx19,ho⟩:=bS ho;have wx19:=chk_w gx19;cases ho;simp only[simprocAttr,R0,b79_2,h_8,w12a,w12b,eq_true c13,w15a,w15b,wx16,w18,wx19];refine And.intro rfl (Exists.intro _ (And.intro rfl ?_));simp only[simprocAttr,R0,h_8,w12a,w12b,eq_true c13,w15a,w15b,wx16,w18,wx19]
   |false=>
    rw[if_neg Bool.false_ne_true]at ho;cases ho;simp only[simprocAttr,R0,b79_2,h_8,w12a,w12b,eq_true c13,w15a,w15b,wx16,w18];intro ht; subst ht;simp only[simprocAttr,RR,RB];exact And.intro rfl (fin_ret (by simp only[simprocAttr,R0,fn_out,p79,Rs.ev,take_len_self,h_8,w12a,w12b,eq_true c13,w15a,w15b,wx16,w18]))
  ·rw[if_neg c13]at ho
   cases ho;simp only[simprocAttr,R0,b79_2,h_8,w12a,w12b,eq_false c13];intro ht; subst ht;simp only[simprocAttr,RR,RB];refine And.intro rfl (Exists.intro _ (And.intro rfl ?_));simp only[simprocAttr,R0,h_8,w12a,w12b,eq_false c13]
def I79_1(a0:Int)(a1:List (List Int))(a3:Int)(v9_1:Int)(s:Unit)(e:Env)(h:Heap):Prop:=
 ∃k3:Nat,h=⟨[],k3⟩∧e.length=48∧e.at 0=V.int .i64 a0∧e.at 1=V.isl (a1.map Enc.enc)∧e.at 3=V.int .i64 a3∧e.at 9=V.int .i64 v9_1
def P79_1(a0:Int)(a1:List (List Int))(a3:Int)(t:(Unit)⊕Bool)(x:Ex)(e:Env)(h:Heap):Prop:=
 match t with
 | .inl _=> x= .normal∧∃k3:Nat,h=⟨[],k3⟩∧e.length=48
 | .inr r=> x= .ret∧Fin p79 (Enc.enc r) .ret e h
theorem l79_1(a0:Int)(a1:List (List Int))(a3:Int){lo:Int}{s:Unit}{t:(Unit)⊕Bool}(hF:forR lo (a1.length:Int) (F79_1_B a0 a1 a3) (F79_1_D a0 a1 a3) s=some t){e:Env}{h:Heap}(hI:I79_1 a0 a1 a3 lo s e h):W A c79_1 e h (P79_1 a0 a1 a3 t):=by
 show W A (.block 0 (.loop false b79_1)) e h _;rw[W_block];refine W_forR hF 0 (by obtain⟨_,rfl,_⟩:=hI; rfl) (I79_1 a0 a1 a3) hI ?_ ?_
 ·rintro v9_1 _ e h ⟨k3,rfl,h_2⟩ hlt hw o ho
  unfold F79_1_B at ho;obtain⟨x5,gx5,ho⟩:=bS ho;obtain⟨w6a,w6b⟩:=getI_w gx5;by_cases c7:(x5.length:Int)=a3
  ·rw[if_pos c7]at ho
   obtain⟨t20,gt20,ho⟩:=bS ho;rcases t20 with _|r21
   ·dsimp only at ho
    simp only[simprocAttr,R0,b79_1,h_2,eq_true hlt,hw,w6a,w6b,eq_true c7];refine W.mono (l79_2 a0 a1 a3 v9_1 gt20 (Exists.intro _ (And.intro rfl ?_))) ?_
    ·simp only[simprocAttr,R0,h_2,eq_true hlt,hw,w6a,w6b,eq_true c7]
    rintro _ e _ ⟨rfl,k9,rfl,h_10⟩;cases ho;simp only[simprocAttr,R0,h_10,eq_true hlt,hw,eq_true c7];refine And.intro rfl (Exists.intro _ (And.intro rfl ?_));simp only[simprocAttr,R0,h_10,eq_true hlt,hw,eq_true c7]
   ·dsimp only at ho
    cases ho;simp only[simprocAttr,R0,b79_1,h_2,eq_true hlt,hw,w6a,w6b,eq_true c7];refine W.mono (l79_2 a0 a1 a3 v9_1 gt20 (Exists.intro _ (And.intro rfl ?_))) ?_
    ·simp only[simprocAttr,R0,h_2,eq_true hlt,hw,w6a,w6b,eq_true c7]
    rintro _ e h ⟨rfl,hq⟩;simp only[simprocAttr,RR,RB];intro ht; subst ht;simp only[simprocAttr,RR,RB];exact And.intro rfl hq
  ·rw[if_neg c7]at ho
   cases ho;simp only[simprocAttr,R0,b79_1,h_2,eq_true hlt,hw,w6a,w6b,eq_false c7];intro ht; subst ht;simp only[simprocAttr,RR,RB];exact And.intro rfl (fin_ret (by simp only[simprocAttr,R0,fn_out,p79,Rs.ev,take_len_self,h_2,eq_true hlt,hw,w6a,w6b,eq_false c7]))
 ·rintro v9_1 _ e h ⟨k3,rfl,h_2⟩ hge t1 ho
  unfold F79_1_D at ho;cases ho;simp only[simprocAttr,R0,b79_1,h_2,eq_false hge];intro ht; subst ht;refine And.intro rfl (Exists.intro _ (And.intro rfl ?_));simp only[simprocAttr,R0,h_2,eq_false hge]
theorem s79(a0:Int)(a1:List (List Int))(a2:Int)(a3:Int){r:Bool}(hF:F79 a0 a1 a2 a3=some r):ans A 79 [V.int .i64 a0,V.isl (a1.map Enc.enc),V.int .i64 a2,V.int .i64 a3]=some (Enc.enc r):=by
 refine ans_of (f:=p79) rfl rfl rfl fun e hl he=>?_;have h0_0:e.at 0=V.int .i64 a0:=he 0 _ rfl;have h1_0:e.at 1=V.isl (a1.map Enc.enc):=he 1 _ rfl;have h2_0:e.at 2=V.int .i64 a2:=he 2 _ rfl;have h3_0:e.at 3=V.int .i64 a3:=he 3 _ rfl;have hl_0:e.length=48:=hl;clear he hl;have h_0:=And.intro hl_0 (And.intro h0_0 (And.intro h1_0 (And.intro h2_0 h3_0)));show W A b79 e ⟨[],0⟩ _;unfold F79 at hF;by_cases c1:(a1.length:Int)=a2
 ·rw[if_pos c1]at hF
  obtain⟨t22,gt22,hF⟩:=bS hF;rcases t22 with _|r23
  ·dsimp only at hF
   simp only[simprocAttr,R0,b79,h_0,eq_true c1];refine W.mono (l79_1 a0 a1 a3 gt22 (Exists.intro _ (And.intro rfl ?_))) ?_
   ·simp only[simprocAttr,R0,h_0,eq_true c1]
   rintro _ e _ ⟨rfl,k3,rfl,hl_4⟩;cases hF;simp only[simprocAttr,R0,hl_4,eq_true c1];exact fin_ret (by simp only[simprocAttr,R0,fn_out,p79,Rs.ev,take_len_self,hl_4,eq_true c1])
  ·dsimp only at hF
   cases hF;simp only[simprocAttr,R0,b79,h_0,eq_true c1];refine W.mono (l79_1 a0 a1 a3 gt22 (Exists.intro _ (And.intro rfl ?_))) ?_
   ·simp only[simprocAttr,R0,h_0,eq_true c1]
   rintro _ e h ⟨rfl,hq⟩;simp only[simprocAttr,RR,RB];exact hq
 ·rw[if_neg c1]at hF
  cases hF;simp only[simprocAttr,R0,b79,h_0,eq_false c1];exact fin_ret (by simp only[simprocAttr,R0,fn_out,p79,Rs.ev,take_len_self,h_0,eq_false c1])
def F39_1_B(a0:GComplex)(v3_1:Int)(s:Unit):Option ((Unit)⊕((Unit)⊕Bool)):=
 (getI a0.Dims v3_1).bind fun x10=>
(F54 x10 0 8).bind fun x12=>
if x12=true then
 some (.inl ())
else
 some (.inr (.inr false))
def F39_1_D(a0:GComplex)(v3_1:Int)(s:Unit):Option ((Unit)⊕Bool):=
 some (.inl ())
def F39_3_S(a0:GComplex)(v4_2:Int)(v5_3:Int):Option ((Int)⊕((Unit)⊕Bool)):=
 (getI a0.Maps v4_2).bind fun x29=>
if v5_3 < (x29.length:Int)then
 if 0 < v4_2 then
  (chk (v4_2 - 1)).bind fun x33=>
  (getI a0.Maps x33).bind fun x34=>
  (getI x29 v5_3).bind fun x36=>
  (getI a0.Dims x33).bind fun x38=>
  (F80 a0.Prime x34 x36 x38).bind fun x40=>
  (F81 x40).bind fun x42=>
  if 0≤x42 then
   some (.inr (.inr false))
  else
   (chk (v5_3+1)).bind fun x45=>
   some (.inl x45)
 else
  some (.inr (.inl ()))
else
 some (.inr (.inl ()))
def F39_2_B(a0:GComplex)(v4_2:Int)(s:Unit):Option ((Unit)⊕((Unit)⊕Bool)):=
 (getI a0.Maps v4_2).bind fun x18=>
(getI a0.Dims (v4_2+1)).bind fun x20=>
(getI a0.Dims v4_2).bind fun x22=>
(F79 a0.Prime x18 x20 x22).bind fun x24=>
if x24=true then
 (loopW (F39_3_S a0 v4_2) 0).bind fun t46=> match t46 with
  | .inl _=>
   some (.inl ())
  | .inr r47=> some (.inr (.inr r47))
else
 some (.inr (.inr false))
def F39_2_D(a0:GComplex)(v4_2:Int)(s:Unit):Option ((Unit)⊕Bool):=
 some (.inl ())
def F39(a0:GComplex):Option Bool:=
 (F78 a0.Prime).bind fun x1=>
 if x1=true then
  if(a0.Dims.length:Int) < 1 then
   some false
  else
   if 6 < (a0.Dims.length:Int)then
    some false
   else
    (chk ((a0.Dims.length:Int) - 1)).bind fun x5=>
    if(a0.Maps.length:Int)=x5 then
     (forR 0 (a0.Dims.length:Int) (F39_1_B a0) (F39_1_D a0) ()).bind fun t14=> match t14 with
      | .inl _=>
       (forR 0 (a0.Maps.length:Int) (F39_2_B a0) (F39_2_D a0) ()).bind fun t48=> match t48 with
        | .inl _=>
         some true
        | .inr r49=> some r49
      | .inr r50=> some r50
    else
     some false
 else
  some false
def I39_1(a0:GComplex)(v3_1:Int)(s:Unit)(e:Env)(h:Heap):Prop:=
 ∃k8:Nat,h=⟨[(0,none)],k8⟩∧e.length=112∧e.at 1=V.iptr [V.int .i64 a0.Prime,V.isl (a0.Dims.map Enc.enc),V.isl (a0.Maps.map Enc.enc)]∧e.at 3=V.int .i64 v3_1
def P39_1(a0:GComplex)(t:(Unit)⊕Bool)(x:Ex)(e:Env)(h:Heap):Prop:=
 match t with
 | .inl _=> x= .normal∧∃k8:Nat,h=⟨[(0,none)],k8⟩∧e.length=112∧e.at 1=V.iptr [V.int .i64 a0.Prime,V.isl (a0.Dims.map Enc.enc),V.isl (a0.Maps.map Enc.enc)]
 | .inr r=> x= .ret∧Fin p39 (Enc.enc r) .ret e h
theorem l39_1(a0:GComplex){lo:Int}{s:Unit}{t:(Unit)⊕Bool}(hF:forR lo (a0.Dims.length:Int) (F39_1_B a0) (F39_1_D a0) s=some t){e:Env}{h:Heap}(hI:I39_1 a0 lo s e h):W A c39_1 e h (P39_1 a0 t):=by
 show W A (.block 0 (.loop false b39_1)) e h _;rw[W_block];refine W_forR hF 1 (by obtain⟨_,rfl,_⟩:=hI; rfl) (I39_1 a0) hI ?_ ?_
 ·rintro v3_1 _ e h ⟨k8,rfl,h_7⟩ hlt hw o ho
  unfold F39_1_B at ho;obtain⟨x10,gx10,ho⟩:=bS ho;obtain⟨w11a,w11b⟩:=getI_w gx10;obtain⟨x12,gx12,ho⟩:=bS ho;have w13:ans A 54 [V.int .i64 x10,V.int .i64 0,V.int .i64 8]=some (V.bool x12):=s54 x10 0 8 gx12;cases x12 with
  |true=>
   rw[if_pos rfl]at ho;cases ho;simp only[simprocAttr,R0,b39_1,h_7,eq_true hlt,hw,w11a,w11b,w13];refine And.intro rfl (Exists.intro _ (And.intro rfl ?_));simp only[simprocAttr,R0,h_7,eq_true hlt,hw,w11a,w11b,w13]
  |false=>
   rw[if_neg Bool.false_ne_true]at ho;cases ho;simp only[simprocAttr,R0,b39_1,h_7,eq_true hlt,hw,w11a,w11b,w13];intro ht; subst ht;simp only[simprocAttr,RR,RB];exact And.intro rfl (fin_ret (by simp only[simprocAttr,R0,fn_out,p39,Rs.ev,take_len_self,h_7,eq_true hlt,hw,w11a,w11b,w13]))
 ·rintro v3_1 _ e h ⟨k8,rfl,h_7⟩ hge t1 ho
  unfold F39_1_D at ho;cases ho;simp only[simprocAttr,R0,b39_1,h_7,eq_false hge];intro ht; subst ht;refine And.intro rfl (Exists.intro _ (And.intro rfl ?_));simp only[simprocAttr,R0,h_7,eq_false hge]
def I39_3(a0:GComplex)(v4_2:Int)(v5_3:Int)(e:Env)(h:Heap):Prop:=
 ∃k27:Nat,h=⟨[(0,none)],k27⟩∧e.length=112∧e.at 1=V.iptr [V.int .i64 a0.Prime,V.isl (a0.Dims.map Enc.enc),V.isl (a0.Maps.map Enc.enc)]∧e.at 4=V.int .i64 v4_2∧e.at 5=V.int .i64 v5_3
def P39_3(a0:GComplex)(v4_2:Int)(t:(Unit)⊕Bool)(x:Ex)(e:Env)(h:Heap):Prop:=
 match t with
 | .inl _=> x= .normal∧∃k27:Nat,h=⟨[(0,none)],k27⟩∧e.length=112∧e.at 1=V.iptr [V.int .i64 a0.Prime,V.isl (a0.Dims.map Enc.enc),V.isl (a0.Maps.map Enc.enc)]∧e.at 4=V.int .i64 v4_2
 | .inr r=> x= .ret∧Fin p39 (Enc.enc r) .ret e h
theorem l39_3(a0:GComplex)(v4_2:Int){s:Int}{t:(Unit)⊕Bool}(hF:loopW (F39_3_S a0 v4_2) s=some t){e:Env}{h:Heap}(hI:I39_3 a0 v4_2 s e h):W A c39_3 e h (P39_3 a0 v4_2 t):=by
 show W A (.block 4 (.loop false b39_3)) e h _;rw[W_block];refine W_loop hF 1 (by obtain⟨_,rfl,_⟩:=hI; rfl) (I39_3 a0 v4_2) hI ?_
 ·rintro v5_3 e h ⟨k27,rfl,h_26⟩ o ho
  unfold F39_3_S at ho;obtain⟨x29,gx29,ho⟩:=bS ho;obtain⟨w30a,w30b⟩:=getI_w gx29;by_cases c31:v5_3 < (x29.length:Int)
  ·rw[if_pos c31]at ho
   by_cases c32:0 < v4_2
   ·rw[if_pos c32]at ho
    obtain⟨x33,gx33,ho⟩:=bS ho;have wx33:=chk_w gx33;obtain⟨x34,gx34,ho⟩:=bS ho;obtain⟨w35a,w35b⟩:=getI_w gx34;obtain⟨x36,gx36,ho⟩:=bS ho;obtain⟨w37a,w37b⟩:=getI_w gx36;obtain⟨x38,gx38,ho⟩:=bS ho;obtain⟨w39a,w39b⟩:=getI_w gx38;obtain⟨x40,gx40,ho⟩:=bS ho;have w41:ans A 80 [V.int .i64 a0.Prime,V.isl (x34.map Enc.enc),V.isl (x36.map Enc.enc),V.int .i64 x38]=some (V.isl (x40.map Enc.enc)):=s80 a0.Prime x34 x36 x38 gx40;obtain⟨x42,gx42,ho⟩:=bS ho;have w43:ans A 81 [V.isl (x40.map Enc.enc)]=some (V.int .i64 x42):=s81 x40 gx42;by_cases c44:0≤x42
    ·rw[if_pos c44]at ho
     cases ho;simp only[simprocAttr,R0,b39_3,h_26,w30a,w30b,eq_true c31,eq_true c32,wx33,w35a,w35b,w37a,w37b,w39a,w39b,w41,w43,eq_true c44];intro ht; subst ht;simp only[simprocAttr,RR,RB];exact And.intro rfl (fin_ret (by simp only[simprocAttr,R0,fn_out,p39,Rs.ev,take_len_self,h_26,w30a,w30b,eq_true c31,eq_true c32,wx33,w35a,w35b,w37a,w37b,w39a,w39b,w41,w43,eq_true c44]))
    ·rw[if_neg c44]at ho
     obtain⟨x45,gx45,ho⟩:=bS ho;have wx45:=chk_w gx45;cases ho;simp only[simprocAttr,R0,b39_3,h_26,w30a,w30b,eq_true c31,eq_true c32,wx33,w35a,w35b,w37a,w37b,w39a,w39b,w41,w43,eq_false c44,wx45];refine And.intro rfl (Exists.intro _ (And.intro rfl ?_));simp only[simprocAttr,R0,h_26,w30a,w30b,eq_true c31,eq_true c32,wx33,w35a,w35b,w37a,w37b,w39a,w39b,w41,w43,eq_false c44,wx45]
   ·rw[if_neg c32]at ho
    cases ho;simp only[simprocAttr,R0,b39_3,h_26,w30a,w30b,eq_true c31,eq_false c32];intro ht; subst ht;simp only[simprocAttr,RR,RB];refine And.intro rfl (Exists.intro _ (And.intro rfl ?_));simp only[simprocAttr,R0,h_26,w30a,w30b,eq_true c31,eq_false c32]
  ·rw[if_neg c31]at ho
   cases ho;simp only[simprocAttr,R0,b39_3,h_26,w30a,w30b,eq_false c31];intro ht; subst ht;simp only[simprocAttr,RR,RB];refine And.intro rfl (Exists.intro _ (And.intro rfl ?_));simp only[simprocAttr,R0,h_26,w30a,w30b,eq_false c31]
def I39_2(a0:GComplex)(v4_2:Int)(s:Unit)(e:Env)(h:Heap):Prop:=
 ∃k16:Nat,h=⟨[(0,none)],k16⟩∧e.length=112∧e.at 1=V.iptr [V.int .i64 a0.Prime,V.isl (a0.Dims.map Enc.enc),V.isl (a0.Maps.map Enc.enc)]∧e.at 4=V.int .i64 v4_2
def P39_2(a0:GComplex)(t:(Unit)⊕Bool)(x:Ex)(e:Env)(h:Heap):Prop:=
 match t with
 | .inl _=> x= .normal∧∃k16:Nat,h=⟨[(0,none)],k16⟩∧e.length=112
 | .inr r=> x= .ret∧Fin p39 (Enc.enc r) .ret e h
theorem l39_2(a0:GComplex){lo:Int}{s:Unit}{t:(Unit)⊕Bool}(hF:forR lo (a0.Maps.length:Int) (F39_2_B a0) (F39_2_D a0) s=some t){e:Env}{h:Heap}(hI:I39_2 a0 lo s e h):W A c39_2 e h (P39_2 a0 t):=by
 show W A (.block 2 (.loop false b39_2)) e h _;rw[W_block];refine W_forR hF 1 (by obtain⟨_,rfl,_⟩:=hI; rfl) (I39_2 a0) hI ?_ ?_
 ·rintro v4_2 _ e h ⟨k16,rfl,h_15⟩ hlt hw o ho
  unfold F39_2_B at ho;obtain⟨x18,gx18,ho⟩:=bS ho;obtain⟨w19a,w19b⟩:=getI_w gx18;obtain⟨x20,gx20,ho⟩:=bS ho;obtain⟨w21a,w21b⟩:=getI_w gx20;obtain⟨x22,gx22,ho⟩:=bS ho;obtain⟨w23a,w23b⟩:=getI_w gx22;obtain⟨x24,gx24,ho⟩:=bS ho;have w25:ans A 79 [V.int .i64 a0.Prime,V.isl (x18.map Enc.enc),V.int .i64 x20,V.int .i64 x22]=some (V.bool x24):=s79 a0.Prime x18 x20 x22 gx24;cases x24 with
  |true=>
   rw[if_pos rfl]at ho;obtain⟨t46,gt46,ho⟩:=bS ho;rcases t46 with _|r47
   ·dsimp only at ho
    simp only[simprocAttr,R0,b39_2,h_15,eq_true hlt,hw,w19a,w19b,w21a,w21b,w23a,w23b,w25];refine W.mono (l39_3 a0 v4_2 gt46 (Exists.intro _ (And.intro rfl ?_))) ?_
    ·simp only[simprocAttr,R0,h_15,eq_true hlt,hw,w19a,w19b,w21a,w21b,w23a,w23b,w25]
    rintro _ e _ ⟨rfl,k27,rfl,h_28⟩;cases ho;simp only[simprocAttr,R0,h_28,eq_true hlt,hw];refine And.intro rfl (Exists.intro _ (And.intro rfl ?_));simp only[simprocAttr,R0,h_28,eq_true hlt,hw]
   ·dsimp only at ho
    cases ho;simp only[simprocAttr,R0,b39_2,h_15,eq_true hlt,hw,w19a,w19b,w21a,w21b,w23a,w23b,w25];refine W.mono (l39_3 a0 v4_2 gt46 (Exists.intro _ (And.intro rfl ?_))) ?_
    ·simp only[simprocAttr,R0,h_15,eq_true hlt,hw,w19a,w19b,w21a,w21b,w23a,w23b,w25]
    rintro _ e h ⟨rfl,hq⟩;simp only[simprocAttr,RR,RB];intro ht; subst ht;simp only[simprocAttr,RR,RB];exact And.intro rfl hq
  |false=>
   rw[if_neg Bool.false_ne_true]at ho;cases ho;simp only[simprocAttr,R0,b39_2,h_15,eq_true hlt,hw,w19a,w19b,w21a,w21b,w23a,w23b,w25];intro ht; subst ht;simp only[simprocAttr,RR,RB];exact And.intro rfl (fin_ret (by simp only[simprocAttr,R0,fn_out,p39,Rs.ev,take_len_self,h_15,eq_true hlt,hw,w19a,w19b,w21a,w21b,w23a,w23b,w25]))
 ·rintro v4_2 _ e h ⟨k16,rfl,h_15⟩ hge t1 ho
  unfold F39_2_D at ho;cases ho;simp only[simprocAttr,R0,b39_2,h_15,eq_false hge];intro ht; subst ht;refine And.intro rfl (Exists.intro _ (And.intro rfl ?_));simp only[simprocAttr,R0,h_15,eq_false hge]
theorem s39(a0:GComplex){r:Bool}(hF:F39 a0=some r):ans A 39 [(eC a0)]=some (Enc.enc r):=by
 refine ans_of (f:=p39) rfl rfl rfl fun e hl he=>?_;have h0_0:e.at 0=(eC a0):=he 0 _ rfl;have hl_0:e.length=112:=hl;clear he hl;have h_0:=And.intro hl_0 h0_0;show W A b39 e ⟨[],0⟩ _;unfold F39 at hF;obtain⟨x1,gx1,hF⟩:=bS hF;have w2:ans A 78 [V.int .i64 a0.Prime]=some (V.bool x1):=s78 a0.Prime gx1;cases x1 with
 |true=>
  rw[if_pos rfl]at hF;by_cases c3:(a0.Dims.length:Int) < 1
  ·rw[if_pos c3]at hF
   cases hF;simp only[simprocAttr,R0,b39,h_0,w2,eq_true c3];exact fin_ret (by simp only[simprocAttr,R0,fn_out,p39,Rs.ev,take_len_self,h_0,w2,eq_true c3])
  ·rw[if_neg c3]at hF
   by_cases c4:6 < (a0.Dims.length:Int)
   ·rw[if_pos c4]at hF
    cases hF;simp only[simprocAttr,R0,b39,h_0,w2,eq_false c3,eq_true c4];exact fin_ret (by simp only[simprocAttr,R0,fn_out,p39,Rs.ev,take_len_self,h_0,w2,eq_false c3,eq_true c4])
   ·rw[if_neg c4]at hF
    obtain⟨x5,gx5,hF⟩:=bS hF;have wx5:=chk_w gx5;by_cases c6:(a0.Maps.length:Int)=x5
    ·rw[if_pos c6]at hF
     obtain⟨t14,gt14,hF⟩:=bS hF;rcases t14 with _|r50
     ·dsimp only at hF
      simp only[simprocAttr,R0,b39,h_0,w2,eq_false c3,eq_false c4,wx5,eq_true c6];refine W.mono (l39_1 a0 gt14 (Exists.intro _ (And.intro rfl ?_))) ?_
      ·simp only[simprocAttr,R0,h_0,w2,eq_false c3,eq_false c4,wx5,eq_true c6]
      rintro _ e _ ⟨rfl,k8,rfl,h_9⟩;obtain⟨t48,gt48,hF⟩:=bS hF;rcases t48 with _|r49
      ·dsimp only at hF
       simp only[simprocAttr,R0,h_9,eq_false c3,eq_false c4,eq_true c6];refine W.mono (l39_2 a0 gt48 (Exists.intro _ (And.intro rfl ?_))) ?_
       ·simp only[simprocAttr,R0,h_9,eq_false c3,eq_false c4,eq_true c6]
       rintro _ e _ ⟨rfl,k16,rfl,hl_17⟩;cases hF;simp only[simprocAttr,R0,hl_17,eq_false c3,eq_false c4,eq_true c6];exact fin_ret (by simp only[simprocAttr,R0,fn_out,p39,Rs.ev,take_len_self,hl_17,eq_false c3,eq_false c4,eq_true c6])
      ·dsimp only at hF
       cases hF;simp only[simprocAttr,R0,h_9,eq_false c3,eq_false c4,eq_true c6];refine W.mono (l39_2 a0 gt48 (Exists.intro _ (And.intro rfl ?_))) ?_
       ·simp only[simprocAttr,R0,h_9,eq_false c3,eq_false c4,eq_true c6]
       rintro _ e h ⟨rfl,hq⟩;simp only[simprocAttr,RR,RB];exact hq
     ·dsimp only at hF
      cases hF;simp only[simprocAttr,R0,b39,h_0,w2,eq_false c3,eq_false c4,wx5,eq_true c6];refine W.mono (l39_1 a0 gt14 (Exists.intro _ (And.intro rfl ?_))) ?_
      ·simp only[simprocAttr,R0,h_0,w2,eq_false c3,eq_false c4,wx5,eq_true c6]
      rintro _ e h ⟨rfl,hq⟩;simp only[simprocAttr,RR,RB];exact hq
    ·rw[if_neg c6]at hF
     cases hF;simp only[simprocAttr,R0,b39,h_0,w2,eq_false c3,eq_false c4,wx5,eq_false c6];exact fin_ret (by simp only[simprocAttr,R0,fn_out,p39,Rs.ev,take_len_self,h_0,w2,eq_false c3,eq_false c4,wx5,eq_false c6])
 |false=>
  rw[if_neg Bool.false_ne_true]at hF;cases hF;simp only[simprocAttr,R0,b39,h_0,w2];exact fin_ret (by simp only[simprocAttr,R0,fn_out,p39,Rs.ev,take_len_self,h_0,w2])
def F93_2_S(a0:Int)(a1:List (List Int))(a3:Int)(v9_1:Int)(v10_2:Int):Option ((Int)⊕((Unit)⊕Bool)):=
 (getI a1 v9_1).bind fun x11=>
if v10_2 < (x11.length:Int)then
 (getI x11 v10_2).bind fun x14=>
 (chk (a0 - 1)).bind fun x16=>
 (F54 x14 0 x16).bind fun x17=>
 if x17=true then
  (chk (v10_2+1)).bind fun x19=>
  some (.inl x19)
 else
  some (.inr (.inr false))
else
 some (.inr (.inl ()))
def F93_1_B(a0:Int)(a1:List (List Int))(a3:Int)(v9_1:Int)(s:Unit):Option ((Unit)⊕((Unit)⊕Bool)):=
 (getI a1 v9_1).bind fun x5=>
if(x5.length:Int)=a3 then
 (loopW (F93_2_S a0 a1 a3 v9_1) 0).bind fun t20=> match t20 with
  | .inl _=>
   some (.inl ())
  | .inr r21=> some (.inr (.inr r21))
else
 some (.inr (.inr false))
def F93_1_D(a0:Int)(a1:List (List Int))(a3:Int)(v9_1:Int)(s:Unit):Option ((Unit)⊕Bool):=
 some (.inl ())
def F93(a0:Int)(a1:List (List Int))(a2:Int)(a3:Int):Option Bool:=
 if(a1.length:Int)=a2 then
  (forR 0 (a1.length:Int) (F93_1_B a0 a1 a3) (F93_1_D a0 a1 a3) ()).bind fun t22=> match t22 with
   | .inl _=>
    some true
   | .inr r23=> some r23
 else
  some false
def I93_2(a0:Int)(a1:List (List Int))(a3:Int)(v9_1:Int)(v10_2:Int)(e:Env)(h:Heap):Prop:=
 ∃k9:Nat,h=⟨[],k9⟩∧e.length=48∧e.at 0=V.int .i64 a0∧e.at 1=V.isl (a1.map Enc.enc)∧e.at 3=V.int .i64 a3∧e.at 9=V.int .i64 v9_1∧e.at 10=V.int .i64 v10_2
def P93_2(a0:Int)(a1:List (List Int))(a3:Int)(v9_1:Int)(t:(Unit)⊕Bool)(x:Ex)(e:Env)(h:Heap):Prop:=
 match t with
 | .inl _=> x= .normal∧∃k9:Nat,h=⟨[],k9⟩∧e.length=48∧e.at 0=V.int .i64 a0∧e.at 1=V.isl (a1.map Enc.enc)∧e.at 3=V.int .i64 a3∧e.at 9=V.int .i64 v9_1
 | .inr r=> x= .ret∧Fin p93 (Enc.enc r) .ret e h
theorem l93_2(a0:Int)(a1:List (List Int))(a3:Int)(v9_1:Int){s:Int}{t:(Unit)⊕Bool}(hF:loopW (F93_2_S a0 a1 a3 v9_1) s=some t){e:Env}{h:Heap}(hI:I93_2 a0 a1 a3 v9_1 s e h):W A c93_2 e h (P93_2 a0 a1 a3 v9_1 t):=by
 show W A (.block 2 (.loop false b93_2)) e h _;rw[W_block];refine W_loop hF 0 (by obtain⟨_,rfl,_⟩:=hI; rfl) (I93_2 a0 a1 a3 v9_1) hI ?_
 ·rintro v10_2 e h ⟨k9,rfl,h_8⟩ o ho
  unfold F93_2_S at ho;obtain⟨x11,gx11,ho⟩:=bS ho;obtain⟨w12a,w12b⟩:=getI_w gx11;by_cases c13:v10_2 < (x11.length:Int)
  ·rw[if_pos c13]at ho
   obtain⟨x14,gx14,ho⟩:=bS ho;obtain⟨w15a,w15b⟩:=getI_w gx14;obtain⟨x16,gx16,ho⟩:=bS ho;have wx16:=chk_w gx16;obtain⟨x17,gx17,ho⟩:=bS ho;have w18:ans A 54 [V.int .i64 x14,V.int .i64 0,V.int .i64 x16]=some (V.bool x17):=s54 x14 0 x16 gx17;cases x17 with
   |true=>
    rw[if_pos rfl]at ho;obtain⟨x19,gx19,ho⟩:=bS ho;have wx19:=chk_w gx19;cases ho;simp only[simprocAttr,R0,b93_2,h_8,w12a,w12b,eq_true c13,w15a,w15b,wx16,w18,wx19];refine And.intro rfl (Exists.intro _ (And.intro rfl ?_));simp only[simprocAttr,R0,h_8,w12a,w12b,eq_true c13,w15a,w15b,wx16,w18,wx19]
   |false=>
    rw[if_neg Bool.false_ne_true]at ho;cases ho;simp only[simprocAttr,R0,b93_2,h_8,w12a,w12b,eq_true c13,w15a,w15b,wx16,w18];intro ht; subst ht;simp only[simprocAttr,RR,RB];exact And.intro rfl (fin_ret (by simp only[simprocAttr,R0,fn_out,p93,Rs.ev,take_len_self,h_8,w12a,w12b,eq_true c13,w15a,w15b,wx16,w18]))
  ·rw[if_neg c13]at ho
   cases ho;simp only[simprocAttr,R0,b93_2,h_8,w12a,w12b,eq_false c13];intro ht; subst ht;simp only[simprocAttr,RR,RB];refine And.intro rfl (Exists.intro _ (And.intro rfl ?_));simp only[simprocAttr,R0,h_8,w12a,w12b,eq_false c13]
def I93_1(a0:Int)(a1:List (List Int))(a3:Int)(v9_1:Int)(s:Unit)(e:Env)(h:Heap):Prop:=
 ∃k3:Nat,h=⟨[],k3⟩∧e.length=48∧e.at 0=V.int .i64 a0∧e.at 1=V.isl (a1.map Enc.enc)∧e.at 3=V.int .i64 a3∧e.at 9=V.int .i64 v9_1
def P93_1(a0:Int)(a1:List (List Int))(a3:Int)(t:(Unit)⊕Bool)(x:Ex)(e:Env)(h:Heap):Prop:=
 match t with
 | .inl _=> x= .normal∧∃k3:Nat,h=⟨[],k3⟩∧e.length=48
 | .inr r=> x= .ret∧Fin p93 (Enc.enc r) .ret e h
theorem l93_1(a0:Int)(a1:List (List Int))(a3:Int){lo:Int}{s:Unit}{t:(Unit)⊕Bool}(hF:forR lo (a1.length:Int) (F93_1_B a0 a1 a3) (F93_1_D a0 a1 a3) s=some t){e:Env}{h:Heap}(hI:I93_1 a0 a1 a3 lo s e h):W A c93_1 e h (P93_1 a0 a1 a3 t):=by
 show W A (.block 0 (.loop false b93_1)) e h _;rw[W_block];refine W_forR hF 0 (by obtain⟨_,rfl,_⟩:=hI; rfl) (I93_1 a0 a1 a3) hI ?_ ?_
 ·rintro v9_1 _ e h ⟨k3,rfl,h_2⟩ hlt hw o ho
  unfold F93_1_B at ho;obtain⟨x5,gx5,ho⟩:=bS ho;obtain⟨w6a,w6b⟩:=getI_w gx5;by_cases c7:(x5.length:Int)=a3
  ·rw[if_pos c7]at ho
   obtain⟨t20,gt20,ho⟩:=bS ho;rcases t20 with _|r21
   ·dsimp only at ho
    simp only[simprocAttr,R0,b93_1,h_2,eq_true hlt,hw,w6a,w6b,eq_true c7];refine W.mono (l93_2 a0 a1 a3 v9_1 gt20 (Exists.intro _ (And.intro rfl ?_))) ?_
    ·simp only[simprocAttr,R0,h_2,eq_true hlt,hw,w6a,w6b,eq_true c7]
    rintro _ e _ ⟨rfl,k9,rfl,h_10⟩;cases ho;simp only[simprocAttr,R0,h_10,eq_true hlt,hw,eq_true c7];refine And.intro rfl (Exists.intro _ (And.intro rfl ?_));simp only[simprocAttr,R0,h_10,eq_true hlt,hw,eq_true c7]
   ·dsimp only at ho
    cases ho;simp only[simprocAttr,R0,b93_1,h_2,eq_true hlt,hw,w6a,w6b,eq_true c7];refine W.mono (l93_2 a0 a1 a3 v9_1 gt20 (Exists.intro _ (And.intro rfl ?_))) ?_
    ·simp only[simprocAttr,R0,h_2,eq_true hlt,hw,w6a,w6b,eq_true c7]
    rintro _ e h ⟨rfl,hq⟩;simp only[simprocAttr,RR,RB];intro ht; subst ht;simp only[simprocAttr,RR,RB];exact And.intro rfl hq
  ·rw[if_neg c7]at ho
   cases ho;simp only[simprocAttr,R0,b93_1,h_2,eq_true hlt,hw,w6a,w6b,eq_false c7];intro ht; subst ht;simp only[simprocAttr,RR,RB];exact And.intro rfl (fin_ret (by simp only[simprocAttr,R0,fn_out,p93,Rs.ev,take_len_self,h_2,eq_true hlt,hw,w6a,w6b,eq_false c7]))
 ·rintro v9_1 _ e h ⟨k3,rfl,h_2⟩ hge t1 ho
  unfold F93_1_D at ho;cases ho;simp only[simprocAttr,R0,b93_1,h_2,eq_false hge];intro ht; subst ht;refine And.intro rfl (Exists.intro _ (And.intro rfl ?_));simp only[simprocAttr,R0,h_2,eq_false hge]
theorem s93(a0:Int)(a1:List (List Int))(a2:Int)(a3:Int){r:Bool}(hF:F93 a0 a1 a2 a3=some r):ans A 93 [V.int .i64 a0,V.isl (a1.map Enc.enc),V.int .i64 a2,V.int .i64 a3]=some (Enc.enc r):=by
 refine ans_of (f:=p93) rfl rfl rfl fun e hl he=>?_;have h0_0:e.at 0=V.int .i64 a0:=he 0 _ rfl;have h1_0:e.at 1=V.isl (a1.map Enc.enc):=he 1 _ rfl;have h2_0:e.at 2=V.int .i64 a2:=he 2 _ rfl;have h3_0:e.at 3=V.int .i64 a3:=he 3 _ rfl;have hl_0:e.length=48:=hl;clear he hl;have h_0:=And.intro hl_0 (And.intro h0_0 (And.intro h1_0 (And.intro h2_0 h3_0)));show W A b93 e ⟨[],0⟩ _;unfold F93 at hF;by_cases c1:(a1.length:Int)=a2
 ·rw[if_pos c1]at hF
  obtain⟨t22,gt22,hF⟩:=bS hF;rcases t22 with _|r23
  ·dsimp only at hF
   simp only[simprocAttr,R0,b93,h_0,eq_true c1];refine W.mono (l93_1 a0 a1 a3 gt22 (Exists.intro _ (And.intro rfl ?_))) ?_
   ·simp only[simprocAttr,R0,h_0,eq_true c1]
   rintro _ e _ ⟨rfl,k3,rfl,hl_4⟩;cases hF;simp only[simprocAttr,R0,hl_4,eq_true c1];exact fin_ret (by simp only[simprocAttr,R0,fn_out,p93,Rs.ev,take_len_self,hl_4,eq_true c1])
  ·dsimp only at hF
   cases hF;simp only[simprocAttr,R0,b93,h_0,eq_true c1];refine W.mono (l93_1 a0 a1 a3 gt22 (Exists.intro _ (And.intro rfl ?_))) ?_
   ·simp only[simprocAttr,R0,h_0,eq_true c1]
   rintro _ e h ⟨rfl,hq⟩;simp only[simprocAttr,RR,RB];exact hq
 ·rw[if_neg c1]at hF
  cases hF;simp only[simprocAttr,R0,b93,h_0,eq_false c1];exact fin_ret (by simp only[simprocAttr,R0,fn_out,p93,Rs.ev,take_len_self,h_0,eq_false c1])
def F45_1_B(a0:GComplex)(a1:List (List (List Int)))(v5_1:Int)(s:Unit):Option ((Unit)⊕((Unit)⊕Int)):=
 (getI a1 v5_1).bind fun x7=>
(getI a0.Dims (v5_1+1)).bind fun x9=>
(getI a0.Dims v5_1).bind fun x11=>
(F93 a0.Prime x7 x9 x11).bind fun x13=>
if x13=true then
 some (.inl ())
else
 some (.inr (.inr 2))
def F45_1_D(a0:GComplex)(a1:List (List (List Int)))(v5_1:Int)(s:Unit):Option ((Unit)⊕Int):=
 some (.inl ())
def F45(a0:GComplex)(a1:List (List (List Int))):Option Int:=
 (F39 a0).bind fun x1=>
 if x1=true then
  if(a1.length:Int)=(a0.Maps.length:Int)then
   (forR 0 (a1.length:Int) (F45_1_B a0 a1) (F45_1_D a0 a1) ()).bind fun t15=> match t15 with
    | .inl _=>
     some 0
    | .inr r16=> some r16
  else
   some 2
 else
  some 1
def I45_1(a0:GComplex)(a1:List (List (List Int)))(v5_1:Int)(s:Unit)(e:Env)(h:Heap):Prop:=
 ∃k5:Nat,h=⟨[(0,none)],k5⟩∧e.length=40∧e.at 1=V.isl (a1.map Enc.enc)∧e.at 2=V.iptr [V.int .i64 a0.Prime,V.isl (a0.Dims.map Enc.enc),V.isl (a0.Maps.map Enc.enc)]∧e.at 5=V.int .i64 v5_1
def P45_1(a0:GComplex)(a1:List (List (List Int)))(t:(Unit)⊕Int)(x:Ex)(e:Env)(h:Heap):Prop:=
 match t with
 | .inl _=> x= .normal∧∃k5:Nat,h=⟨[(0,none)],k5⟩∧e.length=40
 | .inr r=> x= .ret∧Fin p45 (Enc.enc r) .ret e h
theorem l45_1(a0:GComplex)(a1:List (List (List Int))){lo:Int}{s:Unit}{t:(Unit)⊕Int}(hF:forR lo (a1.length:Int) (F45_1_B a0 a1) (F45_1_D a0 a1) s=some t){e:Env}{h:Heap}(hI:I45_1 a0 a1 lo s e h):W A c45_1 e h (P45_1 a0 a1 t):=by
 show W A (.block 0 (.loop false b45_1)) e h _;rw[W_block];refine W_forR hF 1 (by obtain⟨_,rfl,_⟩:=hI; rfl) (I45_1 a0 a1) hI ?_ ?_
 ·rintro v5_1 _ e h ⟨k5,rfl,h_4⟩ hlt hw o ho
  unfold F45_1_B at ho;obtain⟨x7,gx7,ho⟩:=bS ho;obtain⟨w8a,w8b⟩:=getI_w gx7;obtain⟨x9,gx9,ho⟩:=bS ho;obtain⟨w10a,w10b⟩:=getI_w gx9;obtain⟨x11,gx11,ho⟩:=bS ho;obtain⟨w12a,w12b⟩:=getI_w gx11;obtain⟨x13,gx13,ho⟩:=bS ho;have w14:ans A 93 [V.int .i64 a0.Prime,V.isl (x7.map Enc.enc),V.int .i64 x9,V.int .i64 x11]=some (V.bool x13):=s93 a0.Prime x7 x9 x11 gx13;cases x13 with
  |true=>
   rw[if_pos rfl]at ho;cases ho;simp only[simprocAttr,R0,b45_1,h_4,eq_true hlt,hw,w8a,w8b,w10a,w10b,w12a,w12b,w14];refine And.intro rfl (Exists.intro _ (And.intro rfl ?_));simp only[simprocAttr,R0,h_4,eq_true hlt,hw,w8a,w8b,w10a,w10b,w12a,w12b,w14]
  |false=>
   rw[if_neg Bool.false_ne_true]at ho;cases ho;simp only[simprocAttr,R0,b45_1,h_4,eq_true hlt,hw,w8a,w8b,w10a,w10b,w12a,w12b,w14];intro ht; subst ht;simp only[simprocAttr,RR,RB];exact And.intro rfl (fin_ret (by simp only[simprocAttr,R0,fn_out,p45,Rs.ev,take_len_self,h_4,eq_true hlt,hw,w8a,w8b,w10a,w10b,w12a,w12b,w14]))
 ·rintro v5_1 _ e h ⟨k5,rfl,h_4⟩ hge t1 ho
  unfold F45_1_D at ho;cases ho;simp only[simprocAttr,R0,b45_1,h_4,eq_false hge];intro ht; subst ht;refine And.intro rfl (Exists.intro _ (And.intro rfl ?_));simp only[simprocAttr,R0,h_4,eq_false hge]
theorem s45(a0:GComplex)(a1:List (List (List Int))){r:Int}(hF:F45 a0 a1=some r):ans A 45 [(eC a0),V.isl (a1.map Enc.enc)]=some (Enc.enc r):=by
 refine ans_of (f:=p45) rfl rfl rfl fun e hl he=>?_;have h0_0:e.at 0=(eC a0):=he 0 _ rfl;have h1_0:e.at 1=V.isl (a1.map Enc.enc):=he 1 _ rfl;have hl_0:e.length=40:=hl;clear he hl;have h_0:=And.intro hl_0 (And.intro h0_0 h1_0);show W A b45 e ⟨[],0⟩ _;unfold F45 at hF;obtain⟨x1,gx1,hF⟩:=bS hF;have w2:ans A 39 [(eC a0)]=some (V.bool x1):=s39 a0 gx1;cases x1 with
 |true=>
  rw[if_pos rfl]at hF;by_cases c3:(a1.length:Int)=(a0.Maps.length:Int)
  ·rw[if_pos c3]at hF
   obtain⟨t15,gt15,hF⟩:=bS hF;rcases t15 with _|r16
   ·dsimp only at hF
    simp only[simprocAttr,R0,b45,h_0,w2,eq_true c3];refine W.mono (l45_1 a0 a1 gt15 (Exists.intro _ (And.intro rfl ?_))) ?_
    ·simp only[simprocAttr,R0,h_0,w2,eq_true c3]
    rintro _ e _ ⟨rfl,k5,rfl,hl_6⟩;cases hF;simp only[simprocAttr,R0,hl_6,eq_true c3];exact fin_ret (by simp only[simprocAttr,R0,fn_out,p45,Rs.ev,take_len_self,hl_6,eq_true c3])
   ·dsimp only at hF
    cases hF;simp only[simprocAttr,R0,b45,h_0,w2,eq_true c3];refine W.mono (l45_1 a0 a1 gt15 (Exists.intro _ (And.intro rfl ?_))) ?_
    ·simp only[simprocAttr,R0,h_0,w2,eq_true c3]
    rintro _ e h ⟨rfl,hq⟩;simp only[simprocAttr,RR,RB];exact hq
  ·rw[if_neg c3]at hF
   cases hF;simp only[simprocAttr,R0,b45,h_0,w2,eq_false c3];exact fin_ret (by simp only[simprocAttr,R0,fn_out,p45,Rs.ev,take_len_self,h_0,w2,eq_false c3])
 |false=>
  rw[if_neg Bool.false_ne_true]at hF;cases hF;simp only[simprocAttr,R0,b45,h_0,w2];exact fin_ret (by simp only[simprocAttr,R0,fn_out,p45,Rs.ev,take_len_self,h_0,w2])
def F95_1_B(a0:List (List Int))(v4_1:Int)(o0_1:(List (List Int))):Option (((List (List Int)))⊕((List (List Int)))):=
 (getI a0 v4_1).bind fun x5=>
(F94 x5).bind fun x7=>
(app 24 o0_1 [x7]).bind fun l10=>
some (.inl l10)
def F95_1_D(a0:List (List Int))(v4_1:Int)(o0_1:(List (List Int))):Option ((List (List Int))):=
 some o0_1
def F95(a0:List (List Int)):Option (List (List Int)):=
 (forR 0 (a0.length:Int) (F95_1_B a0) (F95_1_D a0) ([]:(List (List Int)))).bind fun zo0_1=>
 some zo0_1
theorem d95(a0:List (List Int)){r:List (List Int)}(hF:F95 a0=some r):∃v h',res A 95 [V.isl (a0.map Enc.enc)] Heap.empty=some (v,h')∧∃K,Deep.rep h' v r K:=by
 refine res_dp (f:=p95) rfl rfl rfl fun e hl he=>?_;have h0_0:e.at 0=V.isl (a0.map Enc.enc):=he 0 _ rfl;have hl_0:e.length=21:=hl;clear he hl;show W A b95 e ⟨[],0⟩ _;unfold F95 at hF;obtain⟨zo0_1,gt11,hF⟩:=bS hF;have hE:=Option.some.inj hF; subst hE;simp only[simprocAttr, -Int.reduceNatCast',R1,b95,hl_0,h0_0];show W A (.block 0 (.loop true b95_1)) _ _ _;rw[W_block];refine W_forR gt11 _ rfl (fun i l e h=>∃u vs K,h.ents[0]? =some (u,some vs)∧reps h vs l K∧¬K 0∧e.length=21∧e.at 0=V.isl (a0.map Enc.enc)∧e.at 3=V.sl 0 u 0 l.length 1∧e.at 4=V.int .i64 i) ?_ ?_ ?_
 ·refine⟨0,[],fun _=> False,rfl,fun _ x=> x,fun x=> x,?_⟩
  simp only[simprocAttr, -Int.reduceNatCast',R1,hl_0,h0_0]
 ·rintro i l e ⟨E,c⟩ ⟨u,vs,K,g1,g2,g3,hl_1,h0_1,h3_1,h4_1⟩ hlt hw o ho
  unfold F95_1_B at ho;obtain⟨x5,gx5,ho⟩:=bS ho;obtain⟨w6a,w6b⟩:=getI_w gx5;obtain⟨x7,gx7,ho⟩:=bS ho;have w8:=t94 x5 gx7;obtain⟨l10,gl10,ho⟩:=bS ho;obtain⟨q1,q2,rfl⟩:=app_w gl10;have hE:=Option.some.inj ho; subst hE;have hln:=g2.len;have hE0:0 < E.length:=(List.getElem?_eq_some_iff.1 g1).1;have w9:∀x y c',appendV 1 24 (.sl 0 u 0 l.length 1) 1 [V.sl E.length c 0 x7.length 1] ⟨E++[x]++[y],c'⟩=_:=fun x y c'=> appendV_deep (E:=E++[x]++[y]) (vs:=vs) (by rw[List.getElem?_append_left (by simp),List.getElem?_append_left hE0]; exact g1) hln (by simpa using q1) (by simpa using q2);simp only[simprocAttr, -Int.reduceNatCast',R1,b95_1,hl_1,h0_1,h3_1,h4_1,eq_true hlt,hw,w6a,w6b,w8,callM_tans,thaw_one,get_last,w9];have r1:=deep_round (h:=⟨E,c⟩) (h1:=⟨E++[(c,some (x7.map Enc.enc))],c+1⟩) (h2:=⟨(E++[(c,some (x7.map Enc.enc))]++[(c+1,some [V.sl E.length c 0 x7.length 1])]).set 0 (c+1+1,some (vs++[V.sl E.length c 0 x7.length 1])),c+1+1+1⟩) g2
   (int_row (l:=x7) (K:=fun k=> k=E.length) (get_last _ _) fun k=> Iff.rfl) (fun k q=> by show E.length≤k; omega) (fun k q=> List.getElem?_append_left q) (fun k p q=> set_app_new (fun e=> by subst e; exact q.elim g3 (fun q=> by omega)) p) (by simp)
  refine And.intro rfl ⟨_,_,_,set_app_key (by simp),r1,fun q=> q.elim g3 (fun q=> by omega),?_⟩;simp only[simprocAttr, -Int.reduceNatCast',R1,hl_1,h0_1,h3_1,h4_1,eq_true hlt,hw,w6a,w6b,w8,List.length_append]
 ·rintro i l e ⟨E,c⟩ ⟨u,vs,K,g1,g2,g3,hl_1,h0_1,h3_1,h4_1⟩ hge t1 ho
  unfold F95_1_D at ho;have hE:=Option.some.inj ho; subst hE;simp only[simprocAttr, -Int.reduceNatCast',R1,b95_1,hl_1,h0_1,h3_1,h4_1,eq_false hge];intro ht; subst ht;refine And.intro (fun _=> trivial) ⟨_,by simp only[simprocAttr, -Int.reduceNatCast',R1,fn_out,p95,Rs.ev,hl_1],fun k=> k=0∨K k,.inr ⟨0,u,vs,K,rfl,g1,g2,g3,fun k=> Iff.rfl⟩⟩
theorem x95(a0:List (List Int)){r:List (List Int)}(hF:F95 a0=some r):tans A 95 [1,1] [V.isl (a0.map Enc.enc)]=some (Enc.enc r):=tans_of_deep (α:=List (List Int)) (by decide) (d95 a0 hF)
def F55_1_B(a0:GComplex)(v4_1:Int)(s:(List (List (List Int)))×Int×(List Int)):Option (((List (List (List Int)))×Int×(List Int))⊕((List (List (List Int)))×Int×(List Int))):=
 match s with
 |(o2_1,q3_0_1,q3_1_1)=>
  (getI a0.Maps v4_1).bind fun x7=>
  (F95 x7).bind fun x9=>
  (app 24 o2_1 [x9]).bind fun l12=>
  some (.inl (l12,q3_0_1,q3_1_1))
def F55_1_D(a0:GComplex)(v4_1:Int)(s:(List (List (List Int)))×Int×(List Int)):Option ((List (List (List Int)))×Int×(List Int)):=
 match s with
 |(o2_1,q3_0_1,q3_1_1)=>
  some (o2_1,q3_0_1,q3_1_1)
def F55(a0:GComplex):Option GComplex:=
 (F94 a0.Dims).bind fun x1=>
 (forR 0 (a0.Maps.length:Int) (F55_1_B a0) (F55_1_D a0) ([],a0.Prime,x1)).bind fun t13=> match t13 with
  |(zo2_1,zq3_0_1,zq3_1_1)=>
   some ⟨zq3_0_1,zq3_1_1,zo2_1⟩
theorem d55(x:GComplex){r:GComplex}(hF:F55 x=some r):∃v h',res A 55 [(eC x)] Heap.empty=some (v,h')∧∃m K,v=V.agg [V.int .i64 r.Prime,V.isl (r.Dims.map Enc.enc),m]∧Deep.rep h' m r.Maps K:=by
 refine res_dp (f:=p55) rfl rfl rfl fun e hl he=>?_;have h0_0:e.at 0=(eC x):=he 0 _ rfl;have hl_0:e.length=31:=hl;clear he hl;show W A b55 e ⟨[],0⟩ _;unfold F55 at hF;obtain⟨x1,gx1,hF⟩:=bS hF;have w1:ans A 94 [V.isl (x.Dims.map Enc.enc)]=some (V.isl (x1.map Enc.enc)):=s94 x.Dims gx1;obtain⟨t13,gt13,hF⟩:=bS hF;simp only[simprocAttr,R0,b55,hl_0,h0_0,w1];show W A (.block 0 (.loop true b55_1)) _ _ _;rw[W_block];refine W_forR gt13 _ rfl (fun i s e h=> s.2=(x.Prime,x1)∧∃u vs K,h.ents[1]? =some (1,some [V.int .i64 0,V.nils,V.nils])∧h.ents[2]? =some (u,some vs)∧h.ents[3]? =some (3,some [V.int .i64 x.Prime,V.isl (x1.map Enc.enc),V.sl 2 u 0 s.1.length 1])∧reps h vs s.1 K∧(∀k,K k→4≤k)∧e.length=31∧e.at 1=V.iptr [V.int .i64 x.Prime,V.isl (x.Dims.map Enc.enc),V.isl (x.Maps.map Enc.enc)]∧e.at 2=V.ptr 1 1 0∧e.at 3=V.ptr 3 3 0∧e.at 4=V.int .i64 i) ?_ ?_ ?_
 ·refine⟨rfl,2,[],fun _=> False,rfl,rfl,rfl,fun _ x=> x,fun _ x=> x.elim,?_⟩
  simp only[simprocAttr,R0,hl_0,h0_0]
 ·rintro i ⟨l,q⟩ e ⟨E,c⟩ ⟨rfl,u,vs,K,g1,g2,g3,g4,g5,h_1⟩ hlt hw o ho
  unfold F55_1_B at ho;simp only at ho g3;obtain⟨x5,gx5,ho⟩:=bS ho;obtain⟨w6a,w6b⟩:=getI_w gx5;obtain⟨x7,gx7,ho⟩:=bS ho;have w8:=x95 x5 gx7;obtain⟨l10,gl10,ho⟩:=bS ho;obtain⟨q1,q2,rfl⟩:=app_w gl10;cases ho;have hln:=g4.len;have hE0:3 < E.length:=(List.getElem?_eq_some_iff.1 g3).1;obtain⟨v,⟨E1,c1⟩,t1,t2,t3,t4⟩:=thaw_deep (α:=List (List Int)) (by decide) x7 ⟨E,c⟩;have t1':thaw 16 [1,1] (V.isl (x7.map Enc.enc)) ⟨E,c⟩=some (v,⟨E1,c1⟩):=t1;simp only at t2 t3 t4 g1 g2 g3;have m1:=(t4 1 (by omega)).trans g1;have m2:=(t4 2 (by omega)).trans g2;have m3:=(t4 3 (by omega)).trans g3;have n1:∀y z,(((E1++[y]).set 2 z))[1]? =_:=fun y z=>(set_app_new (by decide) (by omega)).trans m1;have n3:∀y z,(((E1++[y]).set 2 z))[3]? =_:=fun y z=>(set_app_new (by decide) (by omega)).trans m3;obtain⟨v1,v2⟩:=rep_one t2;have w9:∀y c',appendV 1 24 (.sl 2 u 0 l.length 1) 1 [v] ⟨E1++[y],c'⟩=_:=fun y c'=> appendV_deep (E:=E1++[y]) (vs:=vs) (by rw[List.getElem?_append_left (by omega)]; exact m2) hln (by simpa using q1) (by simpa using q2);simp only[simprocAttr,R0,b55_1,h_1,eq_true hlt,hw,w6a,w6b,w8,callM_tans,t1',v1,v2,m1,m2,m3,get_last,w9,n1,n3,g1,g2,g3];have r1:=deep_round (h:=⟨E,c⟩) (h1:=⟨E1,c1⟩) (h2:=⟨((E1++[(c1,some [v])]).set 2 (c1+1,some (vs++[v]))).set 3 (3,some [V.int .i64 x.Prime,V.isl (x1.map Enc.enc),V.sl 2 (c1+1) 0 (l.length+1) 1]),c1+1+1⟩) (K:=K) g4
   t2 (fun k q=> q.1) t4 (fun k p q=> by
    have hk:4≤k:=q.elim (g5 _) (fun q=> by omega);rw[set_ne (by omega)];exact set_app_new (by omega) p) t3
  refine And.intro rfl (And.intro rfl ⟨c1+1,vs++[v],fun k=> K k∨(E.length≤k∧k < E1.length),?_,?_,?_,r1,fun k q=> q.elim (g5 _) (fun q=> by omega),?_⟩)
  rotate_left
  ·exact(set_ne (by decide)).trans (set_app_key (by simp; omega))
  ·simp only[List.length_append,List.length_cons,List.length_nil,Nat.zero_add]
   exact set_app_key (by simp; omega)
  ·simp only[simprocAttr,R0,h_1,eq_true hlt,hw,w6a,w6b,w8]
  ·exact(set_ne (by decide)).trans (n1 _ _)
 ·rintro i ⟨l,q⟩ e ⟨E,c⟩ ⟨rfl,u,vs,K,g1,g2,g3,g4,g5,h_1⟩ hge t1 ho
  unfold F55_1_D at ho;cases ho;simp only at hF g1 g2 g3;simp only[simprocAttr,R0,b55_1,h_1,eq_false hge,g1,g2,g3];intro ht; subst ht;cases hF;have hE0:3 < E.length:=(List.getElem?_eq_some_iff.1 g3).1;refine And.intro (fun _=> trivial) ⟨_,by simp only[simprocAttr,R0,fn_out,p55,Rs.ev,h_1,set_app_key (show 1 < E.length by omega)]; rfl,_,_,rfl,rep_at (α:=List (List Int)) (K:=K) ?_ (g4.frame fun k q=> set_ne (by have:=g5 k q; omega)) (fun q=> by have:=g5 _ q; omega)⟩;exact(set_ne (by decide)).trans g2
theorem x55(x:GComplex){r:GComplex}(hF:F55 x=some r):tans A 55 [1,1,1] [(eC x)]=some (V.agg [V.int .i64 r.Prime,V.iptr [V.isl (r.Dims.map Enc.enc)],V.isl (r.Maps.map Enc.enc)]):=by
 obtain⟨v,h',h1,m,K,rfl,h2⟩:=d55 x hF;exact tans_agg h1 h2
def F46_3_B(p:Int)(ws:List Int)(j:Int)(row:List Int):Option (List Int⊕List Int):=
 (getI row j).bind fun v=>(getI ws j).bind fun w=>(chk (v+w)).bind fun q=>(remI q p).bind fun z=>(setI row j z).bind fun r=> some (.inl r)
def F46_3_D(j:Int)(row:List Int):Option (List Int):=some row
def F46_2_B(p:Int)(k:Int)(mk:List (List Int))(i:Int)(ms:List (List (List Int))):Option (List (List (List Int))⊕List (List (List Int))):=
 (getI ms k).bind fun t=>(getI t i).bind fun row=>(getI mk i).bind fun ws=>(forR 0 (row.length:Int) (F46_3_B p ws) F46_3_D row).bind fun r=>
 (setI t i r).bind fun t'=>(setI ms k t').bind fun ms'=> some (.inl ms')
def F46_2_D(i:Int)(ms:List (List (List Int))):Option (List (List (List Int))):=some ms
def F46_1_B(p:Int)(maps:List (List (List Int)))(k:Int)(ms:List (List (List Int))):Option (List (List (List Int))⊕List (List (List Int))):=
 (getI maps k).bind fun mk=>(forR 0 (mk.length:Int) (F46_2_B p k mk) F46_2_D ms).bind fun ms'=> some (.inl ms')
def F46_1_D(k:Int)(ms:List (List (List Int))):Option (List (List (List Int))):=some ms
def F46(x:GComplex)(maps:List (List (List Int))):Option GComplex:=
 (F55 x).bind fun o=>(forR 0 (maps.length:Int) (F46_1_B x.Prime maps) F46_1_D o.Maps).bind fun ms=> some ⟨o.Prime,o.Dims,ms⟩
theorem d46(x:GComplex)(maps:List (List (List Int))){r:GComplex}(hF:F46 x maps=some r):∃v h',res A 46 [(eC x),V.isl (maps.map Enc.enc)] Heap.empty=some (v,h')∧∃m K,v=V.agg [V.int .i64 r.Prime,V.isl (r.Dims.map Enc.enc),m]∧Deep.rep h' m r.Maps K:=by
 refine res_dp (f:=p46) rfl rfl rfl fun e hl he=>?_;have h0_0:e.at 0=(eC x):=he 0 _ rfl;have h1_0:e.at 1=V.isl (maps.map Enc.enc):=he 1 _ rfl;have hl_0:e.length=63:=hl;clear he hl;show W A b46 e ⟨[],0⟩ _;unfold F46 at hF;obtain⟨o,go,hF⟩:=bS hF;obtain⟨ms,gt,hF⟩:=bS hF;have hE:=Option.some.inj hF; subst hE;have w1:=x55 x go;obtain⟨m,⟨E1,c1⟩,t1,t2,t3,t4⟩:=thaw_agg o.Prime o.Dims o.Maps ⟨[(0,none),(1,some [V.int .i64 0,V.nils,V.nils])],2⟩;simp only[simprocAttr, -Int.reduceNatCast',R0,b46,hl_0,h0_0,h1_0,w1,callM_tans,t1,get_last,set_last];simp only[List.length_cons,List.length_nil,Nat.zero_add,Nat.reduceAdd]at t2 t3 t4;have m1:E1[1]? =some (1,some [V.int .i64 0,V.nils,V.nils]):=t4 1 (by decide);show W A (.block 0 (.loop true b46_1)) _ _ _;rw[W_block];refine W_forR gt _ rfl (fun k ms e h=> h.ents[1]? =some (1,some [V.int .i64 0,V.nils,V.nils])∧h.ents[E1.length]? =some (c1,some [V.int .i64 o.Prime,V.isl (o.Dims.map Enc.enc),m])∧Deep.rep h m ms (fun k=> 2≤k∧k < E1.length)∧e.length=63∧e.at 1=V.isl (maps.map Enc.enc)∧e.at 2=V.iptr [V.int .i64 x.Prime,V.isl (x.Dims.map Enc.enc),V.isl (x.Maps.map Enc.enc)]∧e.at 4=V.ptr 1 1 0∧e.at 5=V.ptr E1.length c1 0∧e.at 6=V.int .i64 k) ?_ ?_ ?_
 ·refine⟨by rw[List.getElem?_append_left (by omega)]; exact m1,get_last _ _,Deep.frame t2 fun k q=> List.getElem?_append_left q.2,?_⟩
  simp only[simprocAttr, -Int.reduceNatCast',R0,hl_0,h0_0,h1_0]
 ·clear t1 t2 t4 m1 hl_0 h0_0 h1_0 w1 gt
  rintro k ms e ⟨E,c⟩ ⟨g1,g2,g3,hl_1,h1_1,h2_1,h4_1,h5_1,h6_1⟩ hlt hw oo ho;unfold F46_1_B at ho;obtain⟨mk,gk,ho⟩:=bS ho;obtain⟨ka,kb⟩:=getI_w gk;obtain⟨ms',gt2,ho⟩:=bS ho;have hE:=Option.some.inj ho; subst hE;simp only at g1 g2;simp only[simprocAttr, -Int.reduceNatCast',R0,b46_1,hl_1,h1_1,h2_1,h4_1,h5_1,h6_1,eq_true hlt,hw];refine W.mono (Q:=fun x' e h=> x'= .normal∧h.ents[1]? =some (1,some [V.int .i64 0,V.nils,V.nils])∧h.ents[E1.length]? =some (c1,some [V.int .i64 o.Prime,V.isl (o.Dims.map Enc.enc),m])∧Deep.rep h m ms' (fun k=> 2≤k∧k < E1.length)∧e.length=63∧e.at 1=V.isl (maps.map Enc.enc)∧e.at 2=V.iptr [V.int .i64 x.Prime,V.isl (x.Dims.map Enc.enc),V.isl (x.Maps.map Enc.enc)]∧e.at 4=V.ptr 1 1 0∧e.at 5=V.ptr E1.length c1 0∧e.at 6=V.int .i64 k) ?_ ?_
  rotate_left
  ·rintro _ e ⟨E2,c2⟩ ⟨rfl,q1,q2,q3,hl_2,h1_2,h2_2,h4_2,h5_2,h6_2⟩
   simp only[simprocAttr, -Int.reduceNatCast',R0,hl_2,h1_2,h2_2,h4_2,h5_2,h6_2,hw];refine And.intro rfl ⟨q1,q2,q3,?_⟩;simp only[simprocAttr, -Int.reduceNatCast',R0,hl_2,h1_2,h2_2,h4_2,h5_2,h6_2,hw]
  show W A (.block 2 (.loop true b46_2)) _ _ _;rw[W_block];refine W_forR gt2 _ rfl (fun i ms e h=> h.ents[1]? =some (1,some [V.int .i64 0,V.nils,V.nils])∧h.ents[E1.length]? =some (c1,some [V.int .i64 o.Prime,V.isl (o.Dims.map Enc.enc),m])∧Deep.rep h m ms (fun k=> 2≤k∧k < E1.length)∧e.length=63∧e.at 1=V.isl (maps.map Enc.enc)∧e.at 2=V.iptr [V.int .i64 x.Prime,V.isl (x.Dims.map Enc.enc),V.isl (x.Maps.map Enc.enc)]∧e.at 4=V.ptr 1 1 0∧e.at 5=V.ptr E1.length c1 0∧e.at 6=V.int .i64 k∧e.at 7=V.int .i64 i) ?_ ?_ ?_
  ·refine⟨g1,g2,g3,?_⟩
   simp only[simprocAttr, -Int.reduceNatCast',R0,hl_1,h1_1,h2_1,h4_1,h5_1,h6_1]
  ·clear g1 g2 g3 hl_1 h1_1 h2_1 h4_1 h5_1 h6_1 gt2
   rintro i ms e ⟨E,c⟩ ⟨g1,g2,g3,hl_1,h1_1,h2_1,h4_1,h5_1,h6_1,h7_1⟩ hlt2 hw2 oo ho;unfold F46_2_B at ho;obtain⟨t,gt,ho⟩:=bS ho;obtain⟨ta,tb⟩:=getI_w gt;have tc:=getI_lt gt;obtain⟨row,gr,ho⟩:=bS ho;obtain⟨ra,rb⟩:=getI_w gr;have rc:=getI_lt gr;obtain⟨ws,gw,ho⟩:=bS ho;obtain⟨wa,wb⟩:=getI_w gw;obtain⟨row',gl,ho⟩:=bS ho;obtain⟨t',gt',ho⟩:=bS ho;obtain⟨ms2,gm',ho⟩:=bS ho;have hE:=Option.some.inj ho; subst hE;obtain⟨key,uid,vs,x1,K1,hm,a1,a2,a3,a4,a5,a6⟩:=rep_focus g3 tb;obtain⟨key2,uid2,vs2,x2,K2,hx1,b1,b2,b3,b4,b5,b6⟩:=rep_focus a4 rb;have o1:=ofCells_drop a2;have o2:=ofCells_drop b2;simp only at g1 g2 a1 b1;simp only[simprocAttr, -Int.reduceNatCast',R0,b46_2,hl_1,h1_1,h2_1,h4_1,h5_1,h6_1,h7_1,eq_true hlt2,hw2,ka,kb,g2,hm,eq_true tc,a1,o1,hx1,ra,eq_true rc,b1,o2];have n1:¬K2 1:=fun q=> by have:=a5 _ (b5 _ q); omega
   have nN:¬K2 E1.length:=fun q=> by have:=a5 _ (b5 _ q); omega
   have st:t'=t.set i.toNat row':=setI_eq gt';have sm:ms2=ms.set k.toNat t':=setI_eq gm';refine W.mono (Q:=fun x' e h=> x'= .normal∧Deep.rep h x2 row' K2∧(∀k,¬K2 k→h.ents[k]? =E[k]?)∧e.length=63∧e.at 1=V.isl (maps.map Enc.enc)∧e.at 2=V.iptr [V.int .i64 x.Prime,V.isl (x.Dims.map Enc.enc),V.isl (x.Maps.map Enc.enc)]∧e.at 4=V.ptr 1 1 0∧e.at 5=V.ptr E1.length c1 0∧e.at 6=V.int .i64 k∧e.at 7=V.int .i64 i) ?_ ?_
   rotate_left
   ·rintro _ e ⟨E2,c2⟩ ⟨rfl,q1,q2,hl_2,h1_2,h2_2,h4_2,h5_2,h6_2,h7_2⟩
    simp only at q2;have r1:Deep.rep ⟨E2,c2⟩ x1 t' K1:=by rw[st]; exact b6 _ _ q1 fun k _ nk=> q2 k nk
    have r2:Deep.rep ⟨E2,c2⟩ m ms2 (fun k=> 2≤k∧k < E1.length):=by rw[sm]; exact a6 _ _ r1 fun k _ nk=> q2 k fun p=> nk (b5 k p)
    simp only[simprocAttr, -Int.reduceNatCast',R0,hl_2,h1_2,h2_2,h4_2,h5_2,h6_2,h7_2,hw2];rw[←hm];refine And.intro rfl ⟨(q2 1 n1).trans g1,(q2 _ nN).trans g2,r2,?_⟩;simp only[simprocAttr, -Int.reduceNatCast',R0,hl_2,h1_2,h2_2,h4_2,h5_2,h6_2,h7_2,hw2]
   show W A (.block 4 (.loop true b46_3)) _ _ _;rw[W_block];refine W_forR gl _ rfl (fun j rw e h=> Deep.rep h x2 rw K2∧(∀k,¬K2 k→h.ents[k]? =E[k]?)∧rw.length=row.length∧e.length=63∧e.at 1=V.isl (maps.map Enc.enc)∧e.at 2=V.iptr [V.int .i64 x.Prime,V.isl (x.Dims.map Enc.enc),V.isl (x.Maps.map Enc.enc)]∧e.at 4=V.ptr 1 1 0∧e.at 5=V.ptr E1.length c1 0∧e.at 6=V.int .i64 k∧e.at 7=V.int .i64 i∧e.at 8=x2∧e.at 9=V.int .i64 j) ?_ ?_ ?_
   ·refine⟨b4,fun _ _=> rfl,rfl,?_⟩
    simp only[simprocAttr, -Int.reduceNatCast',R0,hl_1,h1_1,h2_1,h4_1,h5_1,h6_1,h7_1]
   ·clear hl_1 h1_1 h2_1 h4_1 h5_1 h6_1 h7_1
    rintro j rw' e ⟨E3,c3⟩ ⟨q1,q2,q3,hl_1,h1_1,h2_1,h4_1,h5_1,h6_1,h7_1,h8_1,h9_1⟩ hlt3 hw3 oo ho;unfold F46_3_B at ho;obtain⟨v,gv,ho⟩:=bS ho;obtain⟨va,vb⟩:=getI_w gv;obtain⟨w,gww,ho⟩:=bS ho;obtain⟨wwa,wwb⟩:=getI_w gww;obtain⟨q,gq,ho⟩:=bS ho;have wq:=chk_w gq;obtain⟨z,gz,ho⟩:=bS ho;obtain⟨wz0,wz⟩:=rem_w gz;obtain⟨rw2,gs,ho⟩:=bS ho;obtain⟨s1,s2,s3,s4,s5⟩:=setI_w gs;have hE:=Option.some.inj ho; subst hE;rcases row_int q1 with⟨_,rfl,_⟩|⟨key3,uid3,hx2,d1,d2⟩
    ·exact absurd vb (by simp)
    simp only at d1 q2;have o3:ofCells none (List.drop j.toNat (List.map Enc.enc rw'))=some (V.int .i64 v):=ofCells_drop (by rw[List.getElem?_map,vb]; rfl);have s5':List.take j.toNat (List.map Enc.enc rw')++[V.int .i64 z]++List.drop (j.toNat+1) (List.map Enc.enc rw')=List.map Enc.enc rw2:=s5;rw[q3]at s3;simp only[simprocAttr, -Int.reduceNatCast',R0,b46_3,hl_1,h1_1,h2_1,h4_1,h5_1,h6_1,h7_1,h8_1,h9_1,eq_true hlt3,hw3,hx2,q3,d1,va,vb,ka,kb,wa,wb,wwa,wwb,wq,wz0,wz,o3,s3,s5'];have hk3:key3 < E3.length:=(List.getElem?_eq_some_iff.1 d1).1;have hsl:rw2.length=row.length:=by rw[s4]; exact q3
    refine And.intro rfl ⟨?_,fun k nk=>?_,hsl,?_⟩
    ·rw[←hsl]; exact int_row (set_app_key hk3) d2
    ·exact(set_ne (fun e=> nk ((d2 k).2 e))).trans (q2 k nk)
    ·simp only[simprocAttr, -Int.reduceNatCast',R0,hl_1,h1_1,h2_1,h4_1,h5_1,h6_1,h7_1,h8_1,h9_1,hw3,hx2,q3]
   ·clear hl_1 h1_1 h2_1 h4_1 h5_1 h6_1 h7_1
    rintro j rw' e ⟨E3,c3⟩ ⟨q1,q2,q3,hl_1,h1_1,h2_1,h4_1,h5_1,h6_1,h7_1,h8_1,h9_1⟩ hge t1 ho;have hE:=Option.some.inj ho; subst hE;have hlen:=rep_len q1;simp only[simprocAttr, -Int.reduceNatCast',R0,b46_3,hl_1,h1_1,h2_1,h4_1,h5_1,h6_1,h7_1,h8_1,h9_1,hlen,q3,eq_false hge];intro ht; subst ht;exact⟨q1,q2⟩
  ·clear g1 g2 g3 hl_1 h1_1 h2_1 h4_1 h5_1 h6_1
   rintro i ms e ⟨E,c⟩ ⟨g1,g2,g3,hl_1,h1_1,h2_1,h4_1,h5_1,h6_1,h7_1⟩ hge t1 ho;have hE:=Option.some.inj ho; subst hE;simp only[simprocAttr, -Int.reduceNatCast',R0,b46_2,hl_1,h1_1,h2_1,h4_1,h5_1,h6_1,h7_1,eq_false hge,ka,kb];intro ht; subst ht;exact⟨g1,g2,g3⟩
 ·clear t1 t2 t4 m1 hl_0 h0_0 h1_0 w1
  rintro k ms e ⟨E,c⟩ ⟨g1,g2,g3,hl_1,h1_1,h2_1,h4_1,h5_1,h6_1⟩ hge t1 ho;have hE:=Option.some.inj ho; subst hE;simp only at g1 g2;simp only[simprocAttr, -Int.reduceNatCast',R0,b46_1,hl_1,h1_1,h2_1,h4_1,h5_1,h6_1,eq_false hge,g1,g2];intro ht; subst ht;have hE0:1 < E.length:=(List.getElem?_eq_some_iff.1 g1).1;refine And.intro (fun _=> trivial) ⟨_,by simp only[simprocAttr, -Int.reduceNatCast',R0,fn_out,p46,Rs.ev,hl_1,h4_1,set_app_key hE0],_,_,rfl,Deep.frame g3 fun k q=> set_ne (by omega)⟩
theorem s46(x:GComplex)(maps:List (List (List Int))){r:GComplex}(hF:F46 x maps=some r):ans A 46 [(eC x),V.isl (maps.map Enc.enc)]=some (Enc.enc r):=by
 obtain⟨v,h',h1,m,K,rfl,h2⟩:=d46 x maps hF;exact ans_agg h1 h2
def F273(a0:GComplex)(a1:Int)(a2:List Int):Option (List Int):=
 if a1=0 then
  some []
 else
  (F76 a0 a1).bind fun x2=>
  (chk (a1 - 1)).bind fun x4=>
  (F99 a0 x4).bind fun x5=>
  (F80 a0.Prime x2 a2 x5).bind fun x7=>
  some x7
theorem s273(a0:GComplex)(a1:Int)(a2:List Int){r:List Int}(hF:F273 a0 a1 a2=some r):ans A 273 [(eC a0),V.int .i64 a1,V.isl (a2.map Enc.enc)]=some (Enc.enc r):=by
 refine ans_of (f:=p273) rfl rfl rfl fun e hl he=>?_;have h0_0:e.at 0=(eC a0):=he 0 _ rfl;have h1_0:e.at 1=V.int .i64 a1:=he 1 _ rfl;have h2_0:e.at 2=V.isl (a2.map Enc.enc):=he 2 _ rfl;have hl_0:e.length=21:=hl;clear he hl;have h_0:=And.intro hl_0 (And.intro h0_0 (And.intro h1_0 h2_0));show W A b273 e ⟨[],0⟩ _;unfold F273 at hF;by_cases c1:a1=0
 ·rw[if_pos c1]at hF
  cases hF;simp only[simprocAttr,R0,b273,h_0,eq_true c1];exact fin_ret (by simp only[simprocAttr,R0,fn_out,p273,Rs.ev,take_len_self,h_0,eq_true c1])
 ·rw[if_neg c1]at hF
  obtain⟨x2,gx2,hF⟩:=bS hF;have w3:ans A 76 [(eC a0),V.int .i64 a1]=some (V.isl (x2.map Enc.enc)):=s76 a0 a1 gx2;obtain⟨x4,gx4,hF⟩:=bS hF;have wx4:=chk_w gx4;obtain⟨x5,gx5,hF⟩:=bS hF;have w6:ans A 99 [(eC a0),V.int .i64 x4]=some (V.int .i64 x5):=s99 a0 x4 gx5;obtain⟨x7,gx7,hF⟩:=bS hF;have w8:ans A 80 [V.int .i64 a0.Prime,V.isl (x2.map Enc.enc),V.isl (a2.map Enc.enc),V.int .i64 x5]=some (V.isl (x7.map Enc.enc)):=s80 a0.Prime x2 a2 x5 gx7;cases hF;simp only[simprocAttr,R0,b273,h_0,eq_false c1,w3,wx4,w6,w8];exact fin_ret (by simp only[simprocAttr,R0,fn_out,p273,Rs.ev,take_len_self,h_0,eq_false c1,w3,wx4,w6,w8])
def F282_1_B(a0:GComplex)(a1:GContraction)(v5_1:Int)(s:Unit):Option ((Unit)⊕((Unit)⊕Bool)):=
 (F283 a0 v5_1).bind fun x7=>
(getI a1.Down v5_1).bind fun x9=>
(getI a0.Dims v5_1).bind fun x11=>
(F93 a0.Prime x9 x11 x7).bind fun x13=>
if x13=true then
 (getI a1.Up v5_1).bind fun x15=>
 (F93 a0.Prime x15 x7 x11).bind fun x17=>
 if x17=true then
  (getI a1.Back v5_1).bind fun x19=>
  (F99 a0 (v5_1+1)).bind fun x21=>
  (F93 a0.Prime x19 x11 x21).bind fun x23=>
  if x23=true then
   some (.inl ())
  else
   some (.inr (.inr false))
 else
  some (.inr (.inr false))
else
 some (.inr (.inr false))
def F282_1_D(a0:GComplex)(a1:GContraction)(v5_1:Int)(s:Unit):Option ((Unit)⊕Bool):=
 some (.inl ())
def F282(a0:GComplex)(a1:GContraction):Option Bool:=
 if(a1.Down.length:Int)=(a0.Dims.length:Int)then
  if(a1.Up.length:Int)=(a0.Dims.length:Int)then
   if(a1.Back.length:Int)=(a0.Dims.length:Int)then
    (forR 0 (a0.Dims.length:Int) (F282_1_B a0 a1) (F282_1_D a0 a1) ()).bind fun t25=> match t25 with
     | .inl _=>
      some true
     | .inr r26=> some r26
   else
    some false
  else
   some false
 else
  some false
def I282_1(a0:GComplex)(a1:GContraction)(v5_1:Int)(s:Unit)(e:Env)(h:Heap):Prop:=
 ∃k5:Nat,h=⟨[(0,none),(0,none)],k5⟩∧e.length=94∧e.at 2=V.iptr [V.int .i64 a0.Prime,V.isl (a0.Dims.map Enc.enc),V.isl (a0.Maps.map Enc.enc)]∧e.at 3=V.iptr [V.isl (a1.Down.map Enc.enc),V.isl (a1.Up.map Enc.enc),V.isl (a1.Back.map Enc.enc)]∧e.at 5=V.int .i64 v5_1
def P282_1(a0:GComplex)(a1:GContraction)(t:(Unit)⊕Bool)(x:Ex)(e:Env)(h:Heap):Prop:=
 match t with
 | .inl _=> x= .normal∧∃k5:Nat,h=⟨[(0,none),(0,none)],k5⟩∧e.length=94
 | .inr r=> x= .ret∧Fin p282 (Enc.enc r) .ret e h
theorem l282_1(a0:GComplex)(a1:GContraction){lo:Int}{s:Unit}{t:(Unit)⊕Bool}(hF:forR lo (a0.Dims.length:Int) (F282_1_B a0 a1) (F282_1_D a0 a1) s=some t){e:Env}{h:Heap}(hI:I282_1 a0 a1 lo s e h):W A c282_1 e h (P282_1 a0 a1 t):=by
 show W A (.block 0 (.loop false b282_1)) e h _;rw[W_block];refine W_forR hF 2 (by obtain⟨_,rfl,_⟩:=hI; rfl) (I282_1 a0 a1) hI ?_ ?_
 ·rintro v5_1 _ e h ⟨k5,rfl,h_4⟩ hlt hw o ho
  unfold F282_1_B at ho;obtain⟨x7,gx7,ho⟩:=bS ho;have w8:ans A 283 [(eC a0),V.int .i64 v5_1]=some (V.int .i64 x7):=s283 a0 v5_1 gx7;obtain⟨x9,gx9,ho⟩:=bS ho;obtain⟨w10a,w10b⟩:=getI_w gx9;obtain⟨x11,gx11,ho⟩:=bS ho;obtain⟨w12a,w12b⟩:=getI_w gx11;obtain⟨x13,gx13,ho⟩:=bS ho;have w14:ans A 93 [V.int .i64 a0.Prime,V.isl (x9.map Enc.enc),V.int .i64 x11,V.int .i64 x7]=some (V.bool x13):=s93 a0.Prime x9 x11 x7 gx13;cases x13 with
  |true=>
   rw[if_pos rfl]at ho;obtain⟨x15,gx15,ho⟩:=bS ho;obtain⟨w16a,w16b⟩:=getI_w gx15;obtain⟨x17,gx17,ho⟩:=bS ho;have w18:ans A 93 [V.int .i64 a0.Prime,V.isl (x15.map Enc.enc),V.int .i64 x7,V.int .i64 x11]=some (V.bool x17):=s93 a0.Prime x15 x7 x11 gx17;cases x17 with
   |true=>
    rw[if_pos rfl]at ho;obtain⟨x19,gx19,ho⟩:=bS ho;obtain⟨w20a,w20b⟩:=getI_w gx19;obtain⟨x21,gx21,ho⟩:=bS ho;have w22:ans A 99 [(eC a0),V.int .i64 (v5_1+1)]=some (V.int .i64 x21):=s99 a0 (v5_1+1) gx21;obtain⟨x23,gx23,ho⟩:=bS ho;have w24:ans A 93 [V.int .i64 a0.Prime,V.isl (x19.map Enc.enc),V.int .i64 x11,V.int .i64 x21]=some (V.bool x23):=s93 a0.Prime x19 x11 x21 gx23;cases x23 with
    |true=>
     rw[if_pos rfl]at ho;cases ho;simp only[simprocAttr,R0,b282_1,h_4,eq_true hlt,hw,w8,w10a,w10b,w12a,w12b,w14,w16a,w16b,w18,w20a,w20b,w22,w24];refine And.intro rfl (Exists.intro _ (And.intro rfl ?_));simp only[simprocAttr,R0,h_4,eq_true hlt,hw,w8,w10a,w10b,w12a,w12b,w14,w16a,w16b,w18,w20a,w20b,w22,w24]
    |false=>
     rw[if_neg Bool.false_ne_true]at ho;cases ho;simp only[simprocAttr,R0,b282_1,h_4,eq_true hlt,hw,w8,w10a,w10b,w12a,w12b,w14,w16a,w16b,w18,w20a,w20b,w22,w24];intro ht; subst ht;simp only[simprocAttr,RR,RB];exact And.intro rfl (fin_ret (by simp only[simprocAttr,R0,fn_out,p282,Rs.ev,take_len_self,h_4,eq_true hlt,hw,w8,w10a,w10b,w12a,w12b,w14,w16a,w16b,w18,w20a,w20b,w22,w24]))
   |false=>
    rw[if_neg Bool.false_ne_true]at ho;cases ho;simp only[simprocAttr,R0,b282_1,h_4,eq_true hlt,hw,w8,w10a,w10b,w12a,w12b,w14,w16a,w16b,w18];intro ht; subst ht;simp only[simprocAttr,RR,RB];exact And.intro rfl (fin_ret (by simp only[simprocAttr,R0,fn_out,p282,Rs.ev,take_len_self,h_4,eq_true hlt,hw,w8,w10a,w10b,w12a,w12b,w14,w16a,w16b,w18]))
  |false=>
   rw[if_neg Bool.false_ne_true]at ho;cases ho;simp only[simprocAttr,R0,b282_1,h_4,eq_true hlt,hw,w8,w10a,w10b,w12a,w12b,w14];intro ht; subst ht;simp only[simprocAttr,RR,RB];exact And.intro rfl (fin_ret (by simp only[simprocAttr,R0,fn_out,p282,Rs.ev,take_len_self,h_4,eq_true hlt,hw,w8,w10a,w10b,w12a,w12b,w14]))
 ·rintro v5_1 _ e h ⟨k5,rfl,h_4⟩ hge t1 ho
  unfold F282_1_D at ho;cases ho;simp only[simprocAttr,R0,b282_1,h_4,eq_false hge];intro ht; subst ht;refine And.intro rfl (Exists.intro _ (And.intro rfl ?_));simp only[simprocAttr,R0,h_4,eq_false hge]
theorem s282(a0:GComplex)(a1:GContraction){r:Bool}(hF:F282 a0 a1=some r):ans A 282 [(eC a0),(eK a1)]=some (Enc.enc r):=by
 refine ans_of (f:=p282) rfl rfl rfl fun e hl he=>?_;have h0_0:e.at 0=(eC a0):=he 0 _ rfl;have h1_0:e.at 1=(eK a1):=he 1 _ rfl;have hl_0:e.length=94:=hl;clear he hl;have h_0:=And.intro hl_0 (And.intro h0_0 h1_0);show W A b282 e ⟨[],0⟩ _;unfold F282 at hF;by_cases c1:(a1.Down.length:Int)=(a0.Dims.length:Int)
 ·rw[if_pos c1]at hF
  by_cases c2:(a1.Up.length:Int)=(a0.Dims.length:Int)
  ·rw[if_pos c2]at hF
   by_cases c3:(a1.Back.length:Int)=(a0.Dims.length:Int)
   ·rw[if_pos c3]at hF
    obtain⟨t25,gt25,hF⟩:=bS hF;rcases t25 with _|r26
    ·dsimp only at hF
     simp only[simprocAttr,R0,b282,h_0,eq_true c1,eq_true c2,eq_true c3];refine W.mono (l282_1 a0 a1 gt25 (Exists.intro _ (And.intro rfl ?_))) ?_
     ·simp only[simprocAttr,R0,h_0,eq_true c1,eq_true c2,eq_true c3]
     rintro _ e _ ⟨rfl,k5,rfl,hl_6⟩;cases hF;simp only[simprocAttr,R0,hl_6,eq_true c1,eq_true c2,eq_true c3];exact fin_ret (by simp only[simprocAttr,R0,fn_out,p282,Rs.ev,take_len_self,hl_6,eq_true c1,eq_true c2,eq_true c3])
    ·dsimp only at hF
     cases hF;simp only[simprocAttr,R0,b282,h_0,eq_true c1,eq_true c2,eq_true c3];refine W.mono (l282_1 a0 a1 gt25 (Exists.intro _ (And.intro rfl ?_))) ?_
     ·simp only[simprocAttr,R0,h_0,eq_true c1,eq_true c2,eq_true c3]
     rintro _ e h ⟨rfl,hq⟩;simp only[simprocAttr,RR,RB];exact hq
   ·rw[if_neg c3]at hF
    cases hF;simp only[simprocAttr,R0,b282,h_0,eq_true c1,eq_true c2,eq_false c3];exact fin_ret (by simp only[simprocAttr,R0,fn_out,p282,Rs.ev,take_len_self,h_0,eq_true c1,eq_true c2,eq_false c3])
  ·rw[if_neg c2]at hF
   cases hF;simp only[simprocAttr,R0,b282,h_0,eq_true c1,eq_false c2];exact fin_ret (by simp only[simprocAttr,R0,fn_out,p282,Rs.ev,take_len_self,h_0,eq_true c1,eq_false c2])
 ·rw[if_neg c1]at hF
  cases hF;simp only[simprocAttr,R0,b282,h_0,eq_false c1];exact fin_ret (by simp only[simprocAttr,R0,fn_out,p282,Rs.ev,take_len_self,h_0,eq_false c1])
end
end Rv
