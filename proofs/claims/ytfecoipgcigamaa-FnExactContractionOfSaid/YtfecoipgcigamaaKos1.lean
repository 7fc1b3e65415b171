/- What the abstract code answers: typed functions, part 2. -/
import Derived.Test.YtfecoipgcigamaaKos0
namespace Rv
set_option linter.unusedVariables false
set_option linter.unusedSimpArgs false
set_option maxRecDepth 100000
noncomputable section
def F171_2_B(a0:GComplex)(o2_1:List (List (List Int)))(o3_1:List (List (List Int)))(o4_1:List (List (List Int)))(v31_1:Int)(x9:List (List Int))(x11:List Int)(v44_2:Int)(o6_2:(List (List Int))):Option (((List (List Int)))⊕((List (List Int)))):=
 (getI x11 v44_2).bind fun x17=>
(chk (v31_1+1)).bind fun x19=>
(F102 a0 x19).bind fun x20=>
(F132 x20 x17).bind fun x22=>
(F91 a0 x19 x22).bind fun x24=>
(app 24 o6_2 [x24]).bind fun l27=>
some (.inl l27)
def F171_2_D(a0:GComplex)(o2_1:List (List (List Int)))(o3_1:List (List (List Int)))(o4_1:List (List (List Int)))(v31_1:Int)(x9:List (List Int))(x11:List Int)(v44_2:Int)(o6_2:(List (List Int))):Option ((List (List Int))):=
 some o6_2
def F171_5_B(a0:GComplex)(o2_1:List (List (List Int)))(o3_1:List (List (List Int)))(o4_1:List (List (List Int)))(v31_1:Int)(x9:List (List Int))(x11:List Int)(x31:T2 (List (List Int)) (List (List Int)))(x33:List (List Int))(o8_3:List (List Int))(v78_3:Int)(x44:List Int)(l47:List (List Int))(x53:List Int)(v107_4:Int)(x59:Int)(x61:List Int)(v117_5:Int)(o10_5:(List Int)):Option (((List Int))⊕((List Int))):=
 (getI x61 v117_5).bind fun x67=>
(getI x11 v117_5).bind fun x69=>
(getI o10_5 x69).bind fun x71=>
(chk (x59*x67)).bind fun x73=>
(chk (x71+x73)).bind fun x74=>
(remI x74 a0.Prime).bind fun x75=>
(setI o10_5 x69 x75).bind fun l77=>
some (.inl l77)
def F171_5_D(a0:GComplex)(o2_1:List (List (List Int)))(o3_1:List (List (List Int)))(o4_1:List (List (List Int)))(v31_1:Int)(x9:List (List Int))(x11:List Int)(x31:T2 (List (List Int)) (List (List Int)))(x33:List (List Int))(o8_3:List (List Int))(v78_3:Int)(x44:List Int)(l47:List (List Int))(x53:List Int)(v107_4:Int)(x59:Int)(x61:List Int)(v117_5:Int)(o10_5:(List Int)):Option ((List Int)):=
 some o10_5
def F171_4_B(a0:GComplex)(o2_1:List (List (List Int)))(o3_1:List (List (List Int)))(o4_1:List (List (List Int)))(v31_1:Int)(x9:List (List Int))(x11:List Int)(x31:T2 (List (List Int)) (List (List Int)))(x33:List (List Int))(o8_3:List (List Int))(v78_3:Int)(x44:List Int)(l47:List (List Int))(x53:List Int)(v107_4:Int)(o10_4:(List Int)):Option (((List Int))⊕((List Int))):=
 (getI x53 v107_4).bind fun x59=>
(getI x31.b v107_4).bind fun x61=>
(forR 0 (x61.length:Int) (F171_5_B a0 o2_1 o3_1 o4_1 v31_1 x9 x11 x31 x33 o8_3 v78_3 x44 l47 x53 v107_4 x59 x61) (F171_5_D a0 o2_1 o3_1 o4_1 v31_1 x9 x11 x31 x33 o8_3 v78_3 x44 l47 x53 v107_4 x59 x61) o10_4).bind fun zo10_5=>
some (.inl zo10_5)
def F171_4_D(a0:GComplex)(o2_1:List (List (List Int)))(o3_1:List (List (List Int)))(o4_1:List (List (List Int)))(v31_1:Int)(x9:List (List Int))(x11:List Int)(x31:T2 (List (List Int)) (List (List Int)))(x33:List (List Int))(o8_3:List (List Int))(v78_3:Int)(x44:List Int)(l47:List (List Int))(x53:List Int)(v107_4:Int)(o10_4:(List Int)):Option ((List Int)):=
 some o10_4
def F171_3_B(a0:GComplex)(o2_1:List (List (List Int)))(o3_1:List (List (List Int)))(o4_1:List (List (List Int)))(v31_1:Int)(x9:List (List Int))(x11:List Int)(x31:T2 (List (List Int)) (List (List Int)))(x33:List (List Int))(v78_3:Int)(s:(List (List Int))×(List (List Int))):Option (((List (List Int))×(List (List Int)))⊕((List (List Int))×(List (List Int)))):=
 match s with
 |(o7_3,o8_3)=>
  (getI x33 v78_3).bind fun x40=>
  (F191 a0 v31_1 x40).bind fun x42=>
  (F188 a0.Prime x42.b x9 []).bind fun x44=>
  (app 24 o7_3 [x44]).bind fun l47=>
  (chk (v31_1+1)).bind fun x48=>
  (F102 a0 x48).bind fun x49=>
  (mkL 8 x49 0).bind fun l51=>
  (F188 a0.Prime x42.a x31.a []).bind fun x53=>
  (forR 0 (x53.length:Int) (F171_4_B a0 o2_1 o3_1 o4_1 v31_1 x9 x11 x31 x33 o8_3 v78_3 x44 l47 x53) (F171_4_D a0 o2_1 o3_1 o4_1 v31_1 x9 x11 x31 x33 o8_3 v78_3 x44 l47 x53) l51).bind fun zo10_4=>
  (app 24 o8_3 [zo10_4]).bind fun l82=>
  some (.inl (l47,l82))
def F171_3_D(a0:GComplex)(o2_1:List (List (List Int)))(o3_1:List (List (List Int)))(o4_1:List (List (List Int)))(v31_1:Int)(x9:List (List Int))(x11:List Int)(x31:T2 (List (List Int)) (List (List Int)))(x33:List (List Int))(v78_3:Int)(s:(List (List Int))×(List (List Int))):Option ((List (List Int))×(List (List Int))):=
 match s with
 |(o7_3,o8_3)=>
  some (o7_3,o8_3)
def F171_1_B(a0:GComplex)(v31_1:Int)(s:(List (List (List Int)))×(List (List (List Int)))×(List (List (List Int)))):Option (((List (List (List Int)))×(List (List (List Int)))×(List (List (List Int))))⊕((List (List (List Int)))×(List (List (List Int)))×(List (List (List Int))))):=
 match s with
 |(o2_1,o3_1,o4_1)=>
  (F189 a0 v31_1).bind fun x9=>
  (F63 a0 (v31_1+1)).bind fun x11=>
  (forR 0 (x11.length:Int) (F171_2_B a0 o2_1 o3_1 o4_1 v31_1 x9 x11) (F171_2_D a0 o2_1 o3_1 o4_1 v31_1 x9 x11) ([]:(List (List Int)))).bind fun zo6_2=>
  (F102 a0 v31_1).bind fun x29=>
  (F190 a0.Prime x29 zo6_2).bind fun x31=>
  (F124 x29).bind fun x33=>
  (forR 0 (x33.length:Int) (F171_3_B a0 o2_1 o3_1 o4_1 v31_1 x9 x11 x31 x33) (F171_3_D a0 o2_1 o3_1 o4_1 v31_1 x9 x11 x31 x33) ([],[])).bind fun t83=> match t83 with
   |(zo7_3,zo8_3)=>
    (app 24 o2_1 [zo7_3]).bind fun l85=>
    (app 24 o3_1 [x9]).bind fun l87=>
    (app 24 o4_1 [zo8_3]).bind fun l89=>
    some (.inl (l85,l87,l89))
def F171_1_D(a0:GComplex)(v31_1:Int)(s:(List (List (List Int)))×(List (List (List Int)))×(List (List (List Int)))):Option ((List (List (List Int)))×(List (List (List Int)))×(List (List (List Int)))):=
 match s with
 |(o2_1,o3_1,o4_1)=>
  some (o2_1,o3_1,o4_1)
def F171(a0:GComplex):Option GContraction:=
 (forR 0 (a0.Dims.length:Int) (F171_1_B a0) (F171_1_D a0) ([],[],[])).bind fun t90=> match t90 with
  |(zo2_1,zo3_1,zo4_1)=>
   some ⟨zo2_1,zo3_1,zo4_1⟩
theorem l171_5(x:GComplex)(o2 o3 o4:List (List (List Int)))(n:Int)(hs:List (List Int))(fr:List Int)(sr:T2 (List (List Int)) (List (List Int)))(us:List (List Int))(o8:List (List Int))(i:Int)(c1:List Int)(l7:List (List Int))(cs:List Int)(j y:Int)(g:List Int){s0 s1:List Int}{kw uW m:Nat}{v6 v13 v14:V}{E0:List (Nat×Option (List V))}(hW:kw < E0.length)(hF:forR 0 (g.length:Int) (F171_5_B x o2 o3 o4 n hs fr sr us o8 i c1 l7 cs j y g) (F171_5_D x o2 o3 o4 n hs fr sr us o8 i c1 l7 cs j y g) s0=some s1){e:Env}{h:Heap}(hH:h.ents[kw]? =some (uW,some (s0.map Enc.enc))∧s0.length=m∧(∀k,k < E0.length→k≠kw→h.ents[k]? =E0[k]?)∧E0.length≤h.ents.length)
  (hl_0:e.length=168) (h1_0:e.at 1=V.iptr [V.int .i64 x.Prime,V.isl (x.Dims.map Enc.enc),V.isl (x.Maps.map Enc.enc)]) (h2_0:e.at 2=V.ptr 1 1 0) (h3_0:e.at 3=V.ptr 2 2 0) (h4_0:e.at 4=V.int .i64 x.Prime) (h30_0:e.at 30=V.int .i64 (x.Dims.length:Int)) (h31_0:e.at 31=V.int .i64 n) (h5_0:e.at 5=V.int .i64 n) (h6_0:e.at 6=v6) (h7_0:e.at 7=V.isl (fr.map Enc.enc)) (h11_0:e.at 11=V.isl (sr.a.map Enc.enc)) (h12_0:e.at 12=V.isl (sr.b.map Enc.enc)) (h76_0:e.at 76=V.isl (us.map Enc.enc)) (h77_0:e.at 77=V.int .i64 (us.length:Int)) (h13_0:e.at 13=v13) (h14_0:e.at 14=v14) (h78_0:e.at 78=V.int .i64 i) (h20_0:e.at 20=V.sl kw uW 0 m 1) (h105_0:e.at 105=V.isl (cs.map Enc.enc)) (h106_0:e.at 106=V.int .i64 (cs.length:Int)) (h107_0:e.at 107=V.int .i64 j) (h22_0:e.at 22=V.int .i64 y) (h115_0:e.at 115=V.isl (g.map Enc.enc)) (h116_0:e.at 116=V.int .i64 (g.length:Int)) (h117_0:e.at 117=V.int .i64 0):
  W A (.block 8 (.loop true b171_5)) e h (fun x' e h=> x'= .normal∧(h.ents[kw]? =some (uW,some (s1.map Enc.enc))∧s1.length=m∧(∀k,k < E0.length→k≠kw→h.ents[k]? =E0[k]?)∧E0.length≤h.ents.length)∧e.length=168∧e.at 1=V.iptr [V.int .i64 x.Prime,V.isl (x.Dims.map Enc.enc),V.isl (x.Maps.map Enc.enc)]∧e.at 2=V.ptr 1 1 0∧e.at 3=V.ptr 2 2 0∧e.at 4=V.int .i64 x.Prime∧e.at 30=V.int .i64 (x.Dims.length:Int)∧e.at 31=V.int .i64 n∧e.at 5=V.int .i64 n∧e.at 6=v6∧e.at 7=V.isl (fr.map Enc.enc)∧e.at 11=V.isl (sr.a.map Enc.enc)∧e.at 12=V.isl (sr.b.map Enc.enc)∧e.at 76=V.isl (us.map Enc.enc)∧e.at 77=V.int .i64 (us.length:Int)∧e.at 13=v13∧e.at 14=v14∧e.at 78=V.int .i64 i∧e.at 20=V.sl kw uW 0 m 1∧e.at 105=V.isl (cs.map Enc.enc)∧e.at 106=V.int .i64 (cs.length:Int)∧e.at 107=V.int .i64 j):=by
 rw[W_block];refine W_forR hF _ rfl (fun q s e h=>(h.ents[kw]? =some (uW,some (s.map Enc.enc))∧s.length=m∧(∀k,k < E0.length→k≠kw→h.ents[k]? =E0[k]?)∧E0.length≤h.ents.length)∧e.length=168∧e.at 1=V.iptr [V.int .i64 x.Prime,V.isl (x.Dims.map Enc.enc),V.isl (x.Maps.map Enc.enc)]∧e.at 2=V.ptr 1 1 0∧e.at 3=V.ptr 2 2 0∧e.at 4=V.int .i64 x.Prime∧e.at 30=V.int .i64 (x.Dims.length:Int)∧e.at 31=V.int .i64 n∧e.at 5=V.int .i64 n∧e.at 6=v6∧e.at 7=V.isl (fr.map Enc.enc)∧e.at 11=V.isl (sr.a.map Enc.enc)∧e.at 12=V.isl (sr.b.map Enc.enc)∧e.at 76=V.isl (us.map Enc.enc)∧e.at 77=V.int .i64 (us.length:Int)∧e.at 13=v13∧e.at 14=v14∧e.at 78=V.int .i64 i∧e.at 20=V.sl kw uW 0 m 1∧e.at 105=V.isl (cs.map Enc.enc)∧e.at 106=V.int .i64 (cs.length:Int)∧e.at 107=V.int .i64 j∧e.at 22=V.int .i64 y∧e.at 115=V.isl (g.map Enc.enc)∧e.at 116=V.int .i64 (g.length:Int)∧e.at 117=V.int .i64 q) ⟨hH,hl_0,h1_0,h2_0,h3_0,h4_0,h30_0,h31_0,h5_0,h6_0,h7_0,h11_0,h12_0,h76_0,h77_0,h13_0,h14_0,h78_0,h20_0,h105_0,h106_0,h107_0,h22_0,h115_0,h116_0,h117_0⟩ ?_ ?_
 ·clear hH hl_0 h1_0 h2_0 h3_0 h4_0 h30_0 h31_0 h5_0 h6_0 h7_0 h11_0 h12_0 h76_0 h77_0 h13_0 h14_0 h78_0 h20_0 h105_0 h106_0 h107_0 h22_0 h115_0 h116_0 h117_0
  rintro q s e ⟨E,c⟩ ⟨⟨g1,rfl,g2,g3⟩,h_1⟩ hlt hw o ho;simp only at g1 g2 g3;unfold F171_5_B at ho;obtain⟨a,ga,ho⟩:=bS ho;obtain⟨wa1,wa2⟩:=getI_w ga;obtain⟨t,gt,ho⟩:=bS ho;obtain⟨wt1,wt2⟩:=getI_w gt;obtain⟨b,gb,ho⟩:=bS ho;obtain⟨wb1,wb2⟩:=getI_w gb;have wb3:=getI_lt gb;obtain⟨p,gp,ho⟩:=bS ho;have wp:=chk_w gp;obtain⟨d,gd,ho⟩:=bS ho;have wd:=chk_w gd;obtain⟨z,gz,ho⟩:=bS ho;obtain⟨wz0,wz⟩:=rem_w gz;obtain⟨s',gs,ho⟩:=bS ho;obtain⟨q1,q2,q3,q4,q5⟩:=setI_w gs;cases ho;have o3:ofCells none (List.drop t.toNat (s.map Enc.enc))=some (V.int .i64 b):=ofCells_drop (by rw[List.getElem?_map,wb2]; rfl);have q5':List.take t.toNat (s.map Enc.enc)++[V.int .i64 z]++List.drop (t.toNat+1) (s.map Enc.enc)=List.map Enc.enc s':=q5;simp only[simprocAttr,R0,b171_5,h_1,eq_true hlt,hw,wa1,wa2,wt1,wt2,wb1,eq_true wb3,g1,o3,wp,wd,wz0,wz,q3,q5'];have hWE:kw < E.length:=by omega
  refine And.intro rfl (And.intro ⟨set_app_key hWE,q4,fun k a b=>(set_ne b).trans (g2 k a b),by simp; omega⟩ ?_);simp only[simprocAttr,R0,h_1,hw]
 ·clear hH hl_0 h1_0 h2_0 h3_0 h4_0 h30_0 h31_0 h5_0 h6_0 h7_0 h11_0 h12_0 h76_0 h77_0 h13_0 h14_0 h78_0 h20_0 h105_0 h106_0 h107_0 h22_0 h115_0 h116_0 h117_0
  rintro q s e ⟨E,c⟩ ⟨⟨g1,g0,g2,g3⟩,h_1⟩ hge t1 ho;unfold F171_5_D at ho;cases ho;simp only[simprocAttr,R0,b171_5,h_1,eq_false hge];intro ht; subst ht;exact⟨g1,g0,g2,g3⟩
theorem l171_4(x:GComplex)(o2 o3 o4:List (List (List Int)))(n:Int)(hs:List (List Int))(fr:List Int)(sr:T2 (List (List Int)) (List (List Int)))(us:List (List Int))(o8:List (List Int))(i:Int)(c1:List Int)(l7:List (List Int))(cs:List Int){s0 s1:List Int}{kw uW m:Nat}{v6 v13 v14:V}{E0:List (Nat×Option (List V))}(hW:kw < E0.length)(hF:forR 0 (cs.length:Int) (F171_4_B x o2 o3 o4 n hs fr sr us o8 i c1 l7 cs) (F171_4_D x o2 o3 o4 n hs fr sr us o8 i c1 l7 cs) s0=some s1){e:Env}{h:Heap}(hH:h.ents[kw]? =some (uW,some (s0.map Enc.enc))∧s0.length=m∧(∀k,k < E0.length→k≠kw→h.ents[k]? =E0[k]?)∧E0.length≤h.ents.length)
  (hl_0:e.length=168) (h1_0:e.at 1=V.iptr [V.int .i64 x.Prime,V.isl (x.Dims.map Enc.enc),V.isl (x.Maps.map Enc.enc)]) (h2_0:e.at 2=V.ptr 1 1 0) (h3_0:e.at 3=V.ptr 2 2 0) (h4_0:e.at 4=V.int .i64 x.Prime) (h30_0:e.at 30=V.int .i64 (x.Dims.length:Int)) (h31_0:e.at 31=V.int .i64 n) (h5_0:e.at 5=V.int .i64 n) (h6_0:e.at 6=v6) (h7_0:e.at 7=V.isl (fr.map Enc.enc)) (h11_0:e.at 11=V.isl (sr.a.map Enc.enc)) (h12_0:e.at 12=V.isl (sr.b.map Enc.enc)) (h76_0:e.at 76=V.isl (us.map Enc.enc)) (h77_0:e.at 77=V.int .i64 (us.length:Int)) (h13_0:e.at 13=v13) (h14_0:e.at 14=v14) (h78_0:e.at 78=V.int .i64 i) (h20_0:e.at 20=V.sl kw uW 0 m 1) (h105_0:e.at 105=V.isl (cs.map Enc.enc)) (h106_0:e.at 106=V.int .i64 (cs.length:Int)) (h107_0:e.at 107=V.int .i64 0):
  W A (.block 6 (.loop true b171_4)) e h (fun x' e h=> x'= .normal∧(h.ents[kw]? =some (uW,some (s1.map Enc.enc))∧s1.length=m∧(∀k,k < E0.length→k≠kw→h.ents[k]? =E0[k]?)∧E0.length≤h.ents.length)∧e.length=168∧e.at 1=V.iptr [V.int .i64 x.Prime,V.isl (x.Dims.map Enc.enc),V.isl (x.Maps.map Enc.enc)]∧e.at 2=V.ptr 1 1 0∧e.at 3=V.ptr 2 2 0∧e.at 4=V.int .i64 x.Prime∧e.at 30=V.int .i64 (x.Dims.length:Int)∧e.at 31=V.int .i64 n∧e.at 5=V.int .i64 n∧e.at 6=v6∧e.at 7=V.isl (fr.map Enc.enc)∧e.at 11=V.isl (sr.a.map Enc.enc)∧e.at 12=V.isl (sr.b.map Enc.enc)∧e.at 76=V.isl (us.map Enc.enc)∧e.at 77=V.int .i64 (us.length:Int)∧e.at 13=v13∧e.at 14=v14∧e.at 78=V.int .i64 i∧e.at 20=V.sl kw uW 0 m 1):=by
 rw[W_block];refine W_forR hF _ rfl (fun j s e h=>(h.ents[kw]? =some (uW,some (s.map Enc.enc))∧s.length=m∧(∀k,k < E0.length→k≠kw→h.ents[k]? =E0[k]?)∧E0.length≤h.ents.length)∧e.length=168∧e.at 1=V.iptr [V.int .i64 x.Prime,V.isl (x.Dims.map Enc.enc),V.isl (x.Maps.map Enc.enc)]∧e.at 2=V.ptr 1 1 0∧e.at 3=V.ptr 2 2 0∧e.at 4=V.int .i64 x.Prime∧e.at 30=V.int .i64 (x.Dims.length:Int)∧e.at 31=V.int .i64 n∧e.at 5=V.int .i64 n∧e.at 6=v6∧e.at 7=V.isl (fr.map Enc.enc)∧e.at 11=V.isl (sr.a.map Enc.enc)∧e.at 12=V.isl (sr.b.map Enc.enc)∧e.at 76=V.isl (us.map Enc.enc)∧e.at 77=V.int .i64 (us.length:Int)∧e.at 13=v13∧e.at 14=v14∧e.at 78=V.int .i64 i∧e.at 20=V.sl kw uW 0 m 1∧e.at 105=V.isl (cs.map Enc.enc)∧e.at 106=V.int .i64 (cs.length:Int)∧e.at 107=V.int .i64 j) ⟨hH,hl_0,h1_0,h2_0,h3_0,h4_0,h30_0,h31_0,h5_0,h6_0,h7_0,h11_0,h12_0,h76_0,h77_0,h13_0,h14_0,h78_0,h20_0,h105_0,h106_0,h107_0⟩ ?_ ?_
 ·clear hH hl_0 h1_0 h2_0 h3_0 h4_0 h30_0 h31_0 h5_0 h6_0 h7_0 h11_0 h12_0 h76_0 h77_0 h13_0 h14_0 h78_0 h20_0 h105_0 h106_0 h107_0
  rintro j s e ⟨E,c⟩ ⟨hH,h_1⟩ hlt hw o ho;unfold F171_4_B at ho;obtain⟨y,gy,ho⟩:=bS ho;obtain⟨wy1,wy2⟩:=getI_w gy;obtain⟨g,gg,ho⟩:=bS ho;obtain⟨wg1,wg2⟩:=getI_w gg;obtain⟨s2,g2,ho⟩:=bS ho;cases ho;simp only[simprocAttr,R0,b171_4,h_1,eq_true hlt,hw,wy1,wy2,wg1,wg2];refine W.mono (l171_5 x o2 o3 o4 n hs fr sr us o8 i c1 l7 cs j y g (v6:=v6) (v13:=v13) (v14:=v14) hW g2 (h:=⟨E,c⟩) hH ?_ ?_ ?_ ?_ ?_ ?_ ?_ ?_ ?_ ?_ ?_ ?_ ?_ ?_ ?_ ?_ ?_ ?_ ?_ ?_ ?_ ?_ ?_ ?_ ?_) ?_
  rotate_right
  ·rintro _ e ⟨E2,q2⟩ ⟨rfl,hH2,h_2⟩
   simp only[simprocAttr,R0,h_2,hw];refine And.intro rfl (And.intro hH2 ?_);simp only[simprocAttr,R0,h_2,hw]
  all_goals simp only[simprocAttr,R0,h_1]
 ·clear hH hl_0 h1_0 h2_0 h3_0 h4_0 h30_0 h31_0 h5_0 h6_0 h7_0 h11_0 h12_0 h76_0 h77_0 h13_0 h14_0 h78_0 h20_0 h105_0 h106_0 h107_0
  rintro j s e ⟨E,c⟩ ⟨hH,h_1⟩ hge t1 ho;unfold F171_4_D at ho;cases ho;simp only[simprocAttr,R0,b171_4,h_1,eq_false hge];intro ht; subst ht;exact hH
theorem l171_2(x:GComplex)(o2 o3 o4:List (List (List Int)))(n:Int)(hs:List (List Int))(fr:List Int){tb:List (List Int)}{v6:V}{E0:List (Nat×Option (List V))}{c0:Nat}(hF:forR 0 (fr.length:Int) (F171_2_B x o2 o3 o4 n hs fr) (F171_2_D x o2 o3 o4 n hs fr) ([]:List (List Int))=some tb){e:Env}(h8:e.at 8=V.sl E0.length c0 0 0 1)
  (hl_0:e.length=168) (h1_0:e.at 1=V.iptr [V.int .i64 x.Prime,V.isl (x.Dims.map Enc.enc),V.isl (x.Maps.map Enc.enc)]) (h2_0:e.at 2=V.ptr 1 1 0) (h3_0:e.at 3=V.ptr 2 2 0) (h4_0:e.at 4=V.int .i64 x.Prime) (h30_0:e.at 30=V.int .i64 (x.Dims.length:Int)) (h31_0:e.at 31=V.int .i64 n) (h5_0:e.at 5=V.int .i64 n) (h6_0:e.at 6=v6) (h7_0:e.at 7=V.isl (fr.map Enc.enc)) (h42_0:e.at 42=V.isl (fr.map Enc.enc)) (h43_0:e.at 43=V.int .i64 (fr.length:Int)) (h44_0:e.at 44=V.int .i64 0):
  W A (.block 2 (.loop true b171_2)) e ⟨E0++[(c0,some [])],c0+1⟩ (fun x' e h=> x'= .normal∧((∃u,h.ents[E0.length]? =some (u,some (tb.map Enc.enc))∧e.at 8=V.sl E0.length u 0 tb.length 1)∧(∀k,k < E0.length→h.ents[k]? =E0[k]?)∧E0.length < h.ents.length)∧e.length=168∧e.at 1=V.iptr [V.int .i64 x.Prime,V.isl (x.Dims.map Enc.enc),V.isl (x.Maps.map Enc.enc)]∧e.at 2=V.ptr 1 1 0∧e.at 3=V.ptr 2 2 0∧e.at 4=V.int .i64 x.Prime∧e.at 30=V.int .i64 (x.Dims.length:Int)∧e.at 31=V.int .i64 n∧e.at 5=V.int .i64 n∧e.at 6=v6∧e.at 7=V.isl (fr.map Enc.enc)):=by
 rw[W_block];refine W_forR hF _ rfl (fun i s e h=>((∃u,h.ents[E0.length]? =some (u,some (s.map Enc.enc))∧e.at 8=V.sl E0.length u 0 s.length 1)∧(∀k,k < E0.length→h.ents[k]? =E0[k]?)∧E0.length < h.ents.length)∧e.length=168∧e.at 1=V.iptr [V.int .i64 x.Prime,V.isl (x.Dims.map Enc.enc),V.isl (x.Maps.map Enc.enc)]∧e.at 2=V.ptr 1 1 0∧e.at 3=V.ptr 2 2 0∧e.at 4=V.int .i64 x.Prime∧e.at 30=V.int .i64 (x.Dims.length:Int)∧e.at 31=V.int .i64 n∧e.at 5=V.int .i64 n∧e.at 6=v6∧e.at 7=V.isl (fr.map Enc.enc)∧e.at 42=V.isl (fr.map Enc.enc)∧e.at 43=V.int .i64 (fr.length:Int)∧e.at 44=V.int .i64 i) ⟨⟨⟨c0,get_last _ _,h8⟩,fun k q=> List.getElem?_append_left q,by simp⟩,hl_0,h1_0,h2_0,h3_0,h4_0,h30_0,h31_0,h5_0,h6_0,h7_0,h42_0,h43_0,h44_0⟩ ?_ ?_
 ·clear h8 hl_0 h1_0 h2_0 h3_0 h4_0 h30_0 h31_0 h5_0 h6_0 h7_0 h42_0 h43_0 h44_0
  rintro i s e ⟨E,c⟩ ⟨⟨⟨u,g1,h8_1⟩,g2,g3⟩,hl_1,h1_1,h2_1,h3_1,h4_1,h30_1,h31_1,h5_1,h6_1,h7_1,h42_1,h43_1,h44_1⟩ hlt hw o ho;simp only at g1 g2 g3;unfold F171_2_B at ho;obtain⟨t,gt,ho⟩:=bS ho;obtain⟨wt1,wt2⟩:=getI_w gt;obtain⟨n1,gn,ho⟩:=bS ho;have wn:=chk_w gn;obtain⟨d,gd,ho⟩:=bS ho;have wd:ans A 102 [(eC x),V.int .i64 n1]=some (V.int .i64 d):=s102 x n1 gd;obtain⟨uu,gu,ho⟩:=bS ho;have wu:ans A 132 [V.int .i64 d,V.int .i64 t]=some (V.isl (uu.map Enc.enc)):=s132 d t gu;obtain⟨w,gw,ho⟩:=bS ho;have ww:ans A 91 [(eC x),V.int .i64 n1,V.isl (uu.map Enc.enc)]=some (V.isl (w.map Enc.enc)):=s91 x n1 uu gw;obtain⟨l2,gl2,ho⟩:=bS ho;have hE:=Option.some.inj ho; subst hE;have g1':(E++[(c,some [V.isl (w.map Enc.enc)])])[E0.length]? =some (u,some (s.map Enc.enc)):=(List.getElem?_append_left g3).trans g1;have wap:=appendV_w (α:=List Int) (n:=s.length) (m:=1) (ds:=[V.isl (w.map Enc.enc)]) gl2 rfl rfl rfl (E++[(c,some [V.isl (w.map Enc.enc)])]) E0.length u (c+1) g1';simp only[simprocAttr, -Int.reduceNatCast',R0,b171_2,hl_1,h1_1,h2_1,h3_1,h4_1,h30_1,h31_1,h5_1,h6_1,h7_1,h42_1,h43_1,h44_1,h8_1,eq_true hlt,hw,wt1,wt2,wn,wd,wu,ww,get_last,wap];refine And.intro rfl ?_;simp only[simprocAttr, -Int.reduceNatCast',R0,hl_1,h1_1,h2_1,h3_1,h4_1,h30_1,h31_1,h5_1,h6_1,h7_1,h42_1,h43_1,h44_1,h8_1,hw];exact⟨⟨_,set_app_key (by simp; omega),rfl⟩,fun k q=>(set_ne (by omega)).trans ((List.getElem?_append_left (by omega)).trans (g2 k q)),by simp; omega⟩
 ·clear h8 hl_0 h1_0 h2_0 h3_0 h4_0 h30_0 h31_0 h5_0 h6_0 h7_0 h42_0 h43_0 h44_0
  rintro i s e ⟨E,c⟩ ⟨⟨⟨u,g1,h8_1⟩,g2,g3⟩,hl_1,h1_1,h2_1,h3_1,h4_1,h30_1,h31_1,h5_1,h6_1,h7_1,h42_1,h43_1,h44_1⟩ hge t1 ho;unfold F171_2_D at ho;have hE:=Option.some.inj ho; subst hE;simp only[simprocAttr, -Int.reduceNatCast',R0,b171_2,hl_1,h1_1,h2_1,h3_1,h4_1,h30_1,h31_1,h5_1,h6_1,h7_1,h42_1,h43_1,h44_1,h8_1,eq_false hge];intro ht; subst ht;exact⟨⟨u,g1,rfl⟩,g2,g3⟩
theorem l171_3(x:GComplex)(o2 o3 o4:List (List (List Int)))(n:Int)(hs:List (List Int))(fr:List Int)(sr:T2 (List (List Int)) (List (List Int)))(us:List (List Int)){v6:V}{K6:Ks}{E0:List (Nat×Option (List V))}(h6:Deep.rep ⟨E0,0⟩ v6 hs K6){f7 f8:List (List Int)}(hF:forR 0 (us.length:Int) (F171_3_B x o2 o3 o4 n hs fr sr us) (F171_3_D x o2 o3 o4 n hs fr sr us) (([],[]):List (List Int)×List (List Int))=some (f7,f8)){e:Env}{h:Heap}(hH:(∃v13 v14,∃K7 K8:Ks,Deep.rep h v13 ([]:List (List Int)) K7∧Deep.rep h v14 ([]:List (List Int)) K8∧(∀k,K7 k→¬K8 k)∧(∀k,K7 k→E0.length≤k)∧(∀k,K8 k→E0.length≤k)∧e.at 13=v13∧e.at 14=v14)∧(∀k,k < E0.length→h.ents[k]? =E0[k]?)∧E0.length≤h.ents.length)
  (hl_0:e.length=168) (h1_0:e.at 1=V.iptr [V.int .i64 x.Prime,V.isl (x.Dims.map Enc.enc),V.isl (x.Maps.map Enc.enc)]) (h2_0:e.at 2=V.ptr 1 1 0) (h3_0:e.at 3=V.ptr 2 2 0) (h4_0:e.at 4=V.int .i64 x.Prime) (h30_0:e.at 30=V.int .i64 (x.Dims.length:Int)) (h31_0:e.at 31=V.int .i64 n) (h5_0:e.at 5=V.int .i64 n) (h6_0:e.at 6=v6) (h7_0:e.at 7=V.isl (fr.map Enc.enc)) (h11_0:e.at 11=V.isl (sr.a.map Enc.enc)) (h12_0:e.at 12=V.isl (sr.b.map Enc.enc)) (h76_0:e.at 76=V.isl (us.map Enc.enc)) (h77_0:e.at 77=V.int .i64 (us.length:Int)) (h78_0:e.at 78=V.int .i64 0):
  W A (.block 4 (.loop true b171_3)) e h (fun x' e h=> x'= .normal∧((∃v13 v14,∃K7 K8:Ks,Deep.rep h v13 f7 K7∧Deep.rep h v14 f8 K8∧(∀k,K7 k→¬K8 k)∧(∀k,K7 k→E0.length≤k)∧(∀k,K8 k→E0.length≤k)∧e.at 13=v13∧e.at 14=v14)∧(∀k,k < E0.length→h.ents[k]? =E0[k]?)∧E0.length≤h.ents.length)∧e.length=168∧e.at 1=V.iptr [V.int .i64 x.Prime,V.isl (x.Dims.map Enc.enc),V.isl (x.Maps.map Enc.enc)]∧e.at 2=V.ptr 1 1 0∧e.at 3=V.ptr 2 2 0∧e.at 4=V.int .i64 x.Prime∧e.at 30=V.int .i64 (x.Dims.length:Int)∧e.at 31=V.int .i64 n∧e.at 5=V.int .i64 n∧e.at 6=v6∧e.at 7=V.isl (fr.map Enc.enc)):=by
 rw[W_block];refine W_forR hF _ rfl (fun i s e h=>((∃v13 v14,∃K7 K8:Ks,Deep.rep h v13 s.1 K7∧Deep.rep h v14 s.2 K8∧(∀k,K7 k→¬K8 k)∧(∀k,K7 k→E0.length≤k)∧(∀k,K8 k→E0.length≤k)∧e.at 13=v13∧e.at 14=v14)∧(∀k,k < E0.length→h.ents[k]? =E0[k]?)∧E0.length≤h.ents.length)∧e.length=168∧e.at 1=V.iptr [V.int .i64 x.Prime,V.isl (x.Dims.map Enc.enc),V.isl (x.Maps.map Enc.enc)]∧e.at 2=V.ptr 1 1 0∧e.at 3=V.ptr 2 2 0∧e.at 4=V.int .i64 x.Prime∧e.at 30=V.int .i64 (x.Dims.length:Int)∧e.at 31=V.int .i64 n∧e.at 5=V.int .i64 n∧e.at 6=v6∧e.at 7=V.isl (fr.map Enc.enc)∧e.at 11=V.isl (sr.a.map Enc.enc)∧e.at 12=V.isl (sr.b.map Enc.enc)∧e.at 76=V.isl (us.map Enc.enc)∧e.at 77=V.int .i64 (us.length:Int)∧e.at 78=V.int .i64 i) ⟨hH,hl_0,h1_0,h2_0,h3_0,h4_0,h30_0,h31_0,h5_0,h6_0,h7_0,h11_0,h12_0,h76_0,h77_0,h78_0⟩ ?_ ?_
 ·clear hH hl_0 h1_0 h2_0 h3_0 h4_0 h30_0 h31_0 h5_0 h6_0 h7_0 h11_0 h12_0 h76_0 h77_0 h78_0
  rintro i ⟨o7,o8⟩ e ⟨E,c⟩ ⟨⟨⟨v13,v14,K7,K8,r7,r8,d1,d2,d3,h13_1,h14_1⟩,g2,g3⟩,hl_1,h1_1,h2_1,h3_1,h4_1,h30_1,h31_1,h5_1,h6_1,h7_1,h11_1,h12_1,h76_1,h77_1,h78_1⟩ hlt hw o ho;simp only at g2 g3 r7 r8;unfold F171_3_B at ho;dsimp only at ho;obtain⟨u,gu,ho⟩:=bS ho;obtain⟨wu1,wu2⟩:=getI_w gu;obtain⟨sp,gp,ho⟩:=bS ho;have wp:ans A 191 [(eC x),V.int .i64 n,V.isl (u.map Enc.enc)]=some (V.tup [V.isl (sp.a.map Enc.enc),V.isl (sp.b.map Enc.enc),V.isl (sp.c.map Enc.enc)]):=s191 x n u gp;obtain⟨c1,gc,ho⟩:=bS ho;have wc:tans A 188 [1] [V.int .i64 x.Prime,V.isl (sp.b.map Enc.enc),V.isl (hs.map Enc.enc),V.isl []]=some (V.isl (c1.map Enc.enc)):=t188 x.Prime sp.b hs [] gc;obtain⟨l7,gl7,ho⟩:=bS ho;obtain⟨n1,gn,ho⟩:=bS ho;have wn:=chk_w gn;obtain⟨d,gd,ho⟩:=bS ho;have wd:ans A 102 [(eC x),V.int .i64 n1]=some (V.int .i64 d):=s102 x n1 gd;obtain⟨m0,gm,ho⟩:=bS ho;obtain⟨m1,m2,m3,m4,m5⟩:=mkL_w gm;replace m5:(List.replicate (Int.toNat d) [V.int .i64 0]).flatten=List.map Enc.enc m0:=m5;obtain⟨cs,gcs,ho⟩:=bS ho;have wcs:ans A 188 [V.int .i64 x.Prime,V.isl (sp.a.map Enc.enc),V.isl (sr.a.map Enc.enc),V.isl []]=some (V.isl (cs.map Enc.enc)):=s188 x.Prime sp.a sr.a [] gcs;obtain⟨wh,gwh,ho⟩:=bS ho;obtain⟨l8,gl8,ho⟩:=bS ho;have hE:=Option.some.inj ho; subst hE;have f6:∀ (E':List (Nat×Option (List V))) c',(∀k,k < E0.length→E'[k]? =E0[k]?)→Deep.rep ⟨E',c'⟩ v6 hs K6:=fun E' c' hk=> Deep.frame h6 fun k q=> hk k (Deep.bd h6 q);have z6:frz ⟨E,c⟩ 16 v6=some (V.isl (hs.map Enc.enc)):=Deep.fz (f6 E c g2) 10;have wb:bare 16 [1] (V.isl (c1.map Enc.enc))=true:=bare_one (α:=Int) c1;have pre1:∀k,k < E.length→(E++[(c,some (c1.map Enc.enc))]++[(c+1,some [V.sl E.length c 0 c1.length 1])])[k]? =E[k]?:=fun k q=> by
   rw[List.append_assoc]; exact List.getElem?_append_left q
  have b7:∀k,K7 k→k < E.length:=fun k q=> Deep.bd r7 q;have b8:∀k,K8 k→k < E.length:=fun k q=> Deep.bd r8 q;obtain⟨w13,E',c',K7',p1,p2,p3,p4,p5⟩:=append_rep (E:=E++[(c,some (c1.map Enc.enc))]++[(c+1,some [V.sl E.length c 0 c1.length 1])]) (c:=c+1+1) (Deep.frame r7 fun k q=> pre1 k (b7 k q)) (x:=V.sl E.length c 0 c1.length 1) (a:=c1) (K1:=fun k=> k=E.length) (int_row (ge2a _ _ _) fun k=> Iff.rfl) (fun k q z=> by have:=b7 k q; omega) gl7;simp only[List.length_append,List.length_cons,List.length_nil,Nat.zero_add]at p3 p4 p5;have q7:∀k,K7' k→K7 k∨E.length≤k:=fun k q=> by
   rcases p3 k q with h|h|h
   ·exact .inl h
   ·exact .inr (by omega)
   ·exact .inr (by omega)
  have old1:∀k,k < E.length→¬K7 k→E'[k]? =E[k]?:=fun k a b=>(p4 k (by omega) b).trans (pre1 k a);simp only[simprocAttr, -Int.reduceNatCast',R0,b171_3,hl_1,h1_1,h2_1,h3_1,h4_1,h30_1,h31_1,h5_1,h6_1,h7_1,h11_1,h12_1,h76_1,h77_1,h78_1,h13_1,h14_1,eq_true hlt,hw,wu1,wu2,wp,z6,wc,wb,callM_tans,thaw_one,get_last,p1,wn,wd,m1,m2,m3,m5,wcs];have bE':∀k,k < E'.length→(E'++[(c',some (m0.map Enc.enc))])[k]? =E'[k]?:=fun k q=> List.getElem?_append_left q;refine W.mono (l171_4 x o2 o3 o4 n hs fr sr us o8 i c1 l7 cs (kw:=E'.length) (uW:=c') (m:=m0.length) (v6:=v6) (v13:=w13) (v14:=v14) (E0:=E'++[(c',some (m0.map Enc.enc))]) (by simp) gwh (h:=⟨E'++[(c',some (m0.map Enc.enc))],c'+1⟩) ⟨get_last _ _,rfl,fun _ _ _=> rfl,Nat.le_refl _⟩ ?_ ?_ ?_ ?_ ?_ ?_ ?_ ?_ ?_ ?_ ?_ ?_ ?_ ?_ ?_ ?_ ?_ ?_ ?_ ?_ ?_) ?_
  rotate_right
  ·rintro _ e ⟨E2,q2⟩ ⟨rfl,⟨s1,s2,s3,s4⟩,hl_2,h1_2,h2_2,h3_2,h4_2,h30_2,h31_2,h5_2,h6_2,h7_2,h11_2,h12_2,h76_2,h77_2,h13_2,h14_2,h78_2,h20_2⟩
   simp only[List.length_append,List.length_cons,List.length_nil,Nat.zero_add]at s1 s3 s4;have old2:∀k,k < E'.length→E2[k]? =E'[k]?:=fun k q=>(s3 k (by omega) (by omega)).trans (bE' k q);have pre3:∀y k,k < E2.length→(E2++[y])[k]? =E2[k]?:=fun y k q=> List.getElem?_append_left q;have r8':Deep.rep ⟨E2++[(q2,some [V.sl E'.length c' 0 m0.length 1])],q2+1⟩ v14 o8 K8:=Deep.frame r8 fun k q=>(pre3 _ k (by have:=b8 k q; omega)).trans ((old2 k (by have:=b8 k q; omega)).trans (old1 k (b8 k q) (fun z=> d1 k z q)));have rw8:Deep.rep ⟨E2++[(q2,some [V.sl E'.length c' 0 m0.length 1])],q2+1⟩ (V.sl E'.length c' 0 m0.length 1) wh (fun k=> k=E'.length):=by
    rw[←s2]; exact int_row ((pre3 _ _ (by omega)).trans s1) fun k=> Iff.rfl
   obtain⟨w14,E4,c4,K8',t1,t2,t3,t4,t5⟩:=append_rep r8' rw8 (fun k q z=> by have:=b8 k q; omega) gl8;simp only[List.length_append,List.length_cons,List.length_nil,Nat.zero_add]at t3 t4 t5;simp only[simprocAttr, -Int.reduceNatCast',R0,hl_2,h1_2,h2_2,h3_2,h4_2,h30_2,h31_2,h5_2,h6_2,h7_2,h11_2,h12_2,h76_2,h77_2,h13_2,h14_2,h78_2,h20_2,hw,get_last,t1];have b7':∀k,K7' k→k < E'.length:=fun k q=> Deep.bd p2 q;have r7':Deep.rep ⟨E4,c4⟩ w13 l7 K7':=Deep.frame p2 fun k q=>(t4 k (by have:=b7' k q; omega) (fun z=> by
    rcases q7 k q with h|h
    ·exact d1 k h z
    ·have:=b8 k z; omega)).trans ((pre3 _ k (by have:=b7' k q; omega)).trans (old2 k (b7' k q)))
   refine And.intro rfl (And.intro ⟨⟨w13,w14,K7',K8',r7',t2,fun k q z=>?_,fun k q=>?_,fun k q=>?_,?_,?_⟩,fun k q=>?_,?_⟩ ?_)
   ·rcases t3 k z with h|h|h
    ·rcases q7 k q with h1|h1
     ·exact d1 k h1 h
     ·have:=b8 k h; omega
    ·have:=b7' k q; omega
    ·have:=b7' k q; omega
   ·rcases q7 k q with h1|h1
    ·exact d2 k h1
    ·omega
   ·rcases t3 k q with h|h|h
    ·exact d3 k h
    ·omega
    ·omega
   ·simp only[simprocAttr, -Int.reduceNatCast',R0,hl_2,h1_2,h2_2,h3_2,h4_2,h30_2,h31_2,h5_2,h6_2,h7_2,h11_2,h12_2,h76_2,h77_2,h13_2,h14_2,h78_2,h20_2,hw]
   ·simp only[simprocAttr, -Int.reduceNatCast',R0,hl_2,h1_2,h2_2,h3_2,h4_2,h30_2,h31_2,h5_2,h6_2,h7_2,h11_2,h12_2,h76_2,h77_2,h13_2,h14_2,h78_2,h20_2,hw]
   ·have nk8:¬K8 k:=fun z=> by have:=d3 k z; omega
    have nk7:¬K7 k:=fun z=> by have:=d2 k z; omega
    exact(t4 k (by omega) nk8).trans ((pre3 _ k (by omega)).trans ((old2 k (by omega)).trans ((old1 k (by omega) nk7).trans (g2 k q))))
   ·show E0.length≤E4.length; omega
   ·simp only[simprocAttr, -Int.reduceNatCast',R0,hl_2,h1_2,h2_2,h3_2,h4_2,h30_2,h31_2,h5_2,h6_2,h7_2,h11_2,h12_2,h76_2,h77_2,h13_2,h14_2,h78_2,h20_2,hw]
  all_goals simp only[simprocAttr, -Int.reduceNatCast',R0,hl_1,h1_1,h2_1,h3_1,h4_1,h30_1,h31_1,h5_1,h6_1,h7_1,h11_1,h12_1,h76_1,h77_1,h78_1,h13_1,h14_1,m4]
 ·clear hH hl_0 h1_0 h2_0 h3_0 h4_0 h30_0 h31_0 h5_0 h6_0 h7_0 h11_0 h12_0 h76_0 h77_0 h78_0
  rintro i ⟨o7,o8⟩ e ⟨E,c⟩ ⟨⟨⟨v13,v14,K7,K8,r7,r8,d1,d2,d3,h13_1,h14_1⟩,g2,g3⟩,hl_1,h1_1,h2_1,h3_1,h4_1,h30_1,h31_1,h5_1,h6_1,h7_1,h11_1,h12_1,h76_1,h77_1,h78_1⟩ hge t1 ho;unfold F171_3_D at ho;dsimp only at ho;have hE:=Option.some.inj ho; subst hE;simp only[simprocAttr, -Int.reduceNatCast',R0,b171_3,hl_1,h1_1,h2_1,h3_1,h4_1,h30_1,h31_1,h5_1,h6_1,h7_1,h11_1,h12_1,h76_1,h77_1,h78_1,h13_1,h14_1,eq_false hge];intro ht;obtain⟨rfl,rfl⟩:=Prod.mk.inj ht;exact⟨⟨v13,v14,K7,K8,r7,r8,d1,d2,d3,rfl,rfl⟩,g2,g3⟩
theorem rec3171{α β γ:Type}[Enc α][Deep α][Enc β][Deep β][Enc γ][Deep γ]{h:Heap}{a:α}{b:β}{c:γ}{u v w:V}{K1 K2 K3:Ks}(h1:Deep.rep h u a K1)(h2:Deep.rep h v b K2)(h3:Deep.rep h w c K3)(d1:∀k,K1 k→¬K2 k)(d2:∀k,K1 k→¬K3 k)(d3:∀k,K2 k→¬K3 k):
  repF h [u,v,w] [⟨a⟩,⟨b⟩,⟨c⟩] (fun k=> K1 k∨K2 k∨K3 k):=
 repF_cons h1 (repF_cons h2 (repF_1 h3) d3) fun k x y=> y.elim (d1 k x) (d2 k x)
theorem un3171{α β γ:Type}[Enc α][Deep α][Enc β][Deep β][Enc γ][Deep γ]{h:Heap}{u v w:V}{a:α}{b:β}{c:γ}{K:Ks}(r:repF h [u,v,w] [⟨a⟩,⟨b⟩,⟨c⟩] K):∃K1 K2 K3:Ks,Deep.rep h u a K1∧Deep.rep h v b K2∧Deep.rep h w c K3∧
  (∀k,K1 k→¬K2 k)∧(∀k,K1 k→¬K3 k)∧(∀k,K2 k→¬K3 k)∧∀k,K k↔K1 k∨K2 k∨K3 k:=by
 obtain⟨u',ws',K1,J1,e1,h1,r2,h3,h4⟩:=repF_cons_un r;obtain⟨rfl,rfl⟩:=List.cons.inj e1;obtain⟨v',ws2,K2,J2,e2,h5,r3,h6,h7⟩:=repF_cons_un r2;obtain⟨rfl,rfl⟩:=List.cons.inj e2;obtain⟨w',e3,h8⟩:=repF_1un r3;obtain⟨rfl, -⟩:=List.cons.inj e3;exact⟨K1,K2,J2,h1,h5,h8,fun k x y=> h3 k x ((h7 k).2 (.inl y)),fun k x y=> h3 k x ((h7 k).2 (.inr y)),h6,fun k=> by rw[h4,h7]⟩
theorem tkis171(f:Nat)(h:Heap):∀tb:List (List Int),mapS (take (f+1) []) (tb.map Enc.enc) h=some (List.map Enc.enc tb,h)
 | []=> rfl
 |a::l=> by
  have e:take (f+1) [] (Enc.enc a) h=some (Enc.enc a,h):=rfl;simp only[List.map_cons,mapS,e,tkis171 f h l]
theorem tkT171{E:List (Nat×Option (List V))}{c key uid:Nat}{l:List (List Int)}(h:E[key]? =some (uid,some (l.map Enc.enc))):take 16 [] (.sl key uid 0 l.length 1) ⟨E,c⟩=some (.isl (l.map Enc.enc),⟨E.set key (0,none),c⟩):=by
 have hg:(Heap.mk E c).get key uid=some (l.map Enc.enc):=by simp[Heap.get,h]
 simp only[take,hg];rw[if_pos ⟨by simp,by decide,rfl⟩,List.drop_zero,Nat.mul_one,take_map_len,show([]:List Nat).tail=[] from rfl,tkis171 14];simp[chunk,Heap.kill]
theorem d171(x:GComplex){r:GContraction}(hF:F171 x=some r):∃v h',res A 171 [(eC x)] Heap.empty=some (v,h')∧∃K,Deep.rep h' v r K:=by
 refine res_dp (f:=p171) rfl rfl rfl fun e hl he=>?_;have h0_0:e.at 0=(eC x):=he 0 _ rfl;have hl_0:e.length=168:=hl;clear he hl;show W A b171 e ⟨[],0⟩ _;unfold F171 at hF;obtain⟨⟨t1,t2,t3⟩,gt,hF⟩:=bS hF;dsimp only at hF;have hE:=Option.some.inj hF; subst hE;have ws:ans A 73 [V.isl (x.Dims.map Enc.enc)]=some (V.int .i64 (x.Dims.length:Int)):=s73 x.Dims rfl;simp only[simprocAttr, -Int.reduceNatCast',R0,b171,hl_0,h0_0,ws];refine W.mono (Q:=fun x' e h=> x'= .normal∧(∃v2 v3 v4,∃K:Ks,h.ents[1]? =some (1,some [V.nils,V.nils,V.nils])∧h.ents[2]? =some (2,some [v2,v3,v4])∧repF h [v2,v3,v4] [⟨(t1,t2,t3).1⟩,⟨(t1,t2,t3).2.1⟩,⟨(t1,t2,t3).2.2⟩] K∧∀k,K k→3≤k)∧e.length=168∧e.at 1=V.iptr [V.int .i64 x.Prime,V.isl (x.Dims.map Enc.enc),V.isl (x.Maps.map Enc.enc)]∧e.at 2=V.ptr 1 1 0∧e.at 3=V.ptr 2 2 0∧e.at 4=V.int .i64 x.Prime∧e.at 30=V.int .i64 (x.Dims.length:Int)) ?_ ?_
 ·show W A (.block 0 (.loop true b171_1)) _ _ _
  rw[W_block];refine W_forR gt _ rfl (fun n s e h=>(∃v2 v3 v4,∃K:Ks,h.ents[1]? =some (1,some [V.nils,V.nils,V.nils])∧h.ents[2]? =some (2,some [v2,v3,v4])∧repF h [v2,v3,v4] [⟨s.1⟩,⟨s.2.1⟩,⟨s.2.2⟩] K∧∀k,K k→3≤k)∧e.length=168∧e.at 1=V.iptr [V.int .i64 x.Prime,V.isl (x.Dims.map Enc.enc),V.isl (x.Maps.map Enc.enc)]∧e.at 2=V.ptr 1 1 0∧e.at 3=V.ptr 2 2 0∧e.at 4=V.int .i64 x.Prime∧e.at 30=V.int .i64 (x.Dims.length:Int)∧e.at 31=V.int .i64 n) ?_ ?_ ?_
  ·refine And.intro ⟨V.nils,V.nils,V.nils,_,rfl,rfl,rec3171 (rep_nils _) (rep_nils _) (rep_nils _) (fun _ x _=> x) (fun _ x _=> x) (fun _ x _=> x),fun k q=> by rcases q with q|q|q <;> exact q.elim⟩ ?_
   simp only[simprocAttr, -Int.reduceNatCast',R0,hl_0,h0_0]
  ·clear hl_0 h0_0
   rintro n ⟨o2,o3,o4⟩ e ⟨E,c⟩ ⟨⟨v2,v3,v4,K,g1,g2,r0,hk⟩,hl_1,h1_1,h2_1,h3_1,h4_1,h30_1,h31_1⟩ hlt hw o ho;simp only at g1 g2 r0;unfold F171_1_B at ho;dsimp only at ho;obtain⟨hs,gh,ho⟩:=bS ho;have wh:tans A 189 [1,1] [(eC x),V.int .i64 n]=some (V.isl (hs.map Enc.enc)):=x189 x n gh;obtain⟨fr,gf,ho⟩:=bS ho;have wf:ans A 63 [(eC x),V.int .i64 (n+1)]=some (V.isl (fr.map Enc.enc)):=s63 x (n+1) gf;obtain⟨tb,gtb,ho⟩:=bS ho;obtain⟨d,gd,ho⟩:=bS ho;have wd:ans A 102 [(eC x),V.int .i64 n]=some (V.int .i64 d):=s102 x n gd;obtain⟨sr,gsr,ho⟩:=bS ho;have wsr:ans A 190 [V.int .i64 x.Prime,V.int .i64 d,V.isl (tb.map Enc.enc)]=some (V.tup [V.isl (sr.a.map Enc.enc),V.isl (sr.b.map Enc.enc)]):=s190 x.Prime d tb gsr;obtain⟨us,gus,ho⟩:=bS ho;have wus:ans A 124 [V.int .i64 d]=some (V.isl (us.map Enc.enc)):=s124 d gus;obtain⟨⟨z7,z8⟩,g3,ho⟩:=bS ho;dsimp only at ho;obtain⟨l2,gl2,ho⟩:=bS ho;obtain⟨l3,gl3,ho⟩:=bS ho;obtain⟨l4,gl4,ho⟩:=bS ho;have hE:=Option.some.inj ho; subst hE;obtain⟨v6,⟨E1,c1⟩,K6,t1,t2,t3,t4,t5⟩:=thawD (α:=List (List Int)) (by decide) hs ⟨E,c⟩;simp only at t3 t4 t5;have t1':thaw 16 [1,1] (V.isl (hs.map Enc.enc)) ⟨E,c⟩=some (v6,⟨E1,c1⟩):=t1;obtain⟨a1,a2⟩:=rep_one t2;simp only[simprocAttr, -Int.reduceNatCast',R0,b171_1,hl_1,h1_1,h2_1,h3_1,h4_1,h30_1,h31_1,eq_true hlt,hw,wh,callM_tans,t1',wf];refine W.mono (l171_2 x o2 o3 o4 n hs fr (v6:=v6) (E0:=E1) (c0:=c1) gtb ?_ ?_ ?_ ?_ ?_ ?_ ?_ ?_ ?_ ?_ ?_ ?_ ?_ ?_) ?_
   rotate_right
   ·rintro _ e ⟨E2,c2⟩ ⟨rfl,⟨⟨u8,k1,h8_2⟩,k2,k3⟩,hl_2,h1_2,h2_2,h3_2,h4_2,h30_2,h31_2,h5_2,h6_2,h7_2⟩
    simp only at k1 k2 k3;obtain⟨F2,hF2⟩:∃F2,F2=E2.set E1.length (0,none):=⟨_,rfl⟩;have tk8:take 16 [] (V.sl E1.length u8 0 tb.length 1) ⟨E2,c2⟩=some (V.isl (tb.map Enc.enc),⟨F2,c2⟩):=by rw[hF2]; exact tkT171 k1
    have k2':∀k,k < E1.length→F2[k]? =E1[k]?:=fun k q=> by rw[hF2]; exact(set_ne (by omega)).trans (k2 k q)
    have k3':E1.length < F2.length:=by rw[hF2]; simpa using k3
    clear hF2 k1 k2 k3;simp only[simprocAttr, -Int.reduceNatCast',R0,hl_2,h1_2,h2_2,h3_2,h4_2,h30_2,h31_2,h5_2,h6_2,h7_2,h8_2,wd,tk8,wsr,wus];have h6:Deep.rep ⟨F2,0⟩ v6 hs K6:=Deep.frame t2 fun k q=> k2' k (t3 k q).2;have hH:∀e:Env,e.at 13=V.sl F2.length c2 0 0 1→e.at 14=V.sl (F2.length+1) (c2+1) 0 0 1→(∃v13 v14,∃K7 K8:Ks,Deep.rep ⟨F2++[(c2,some [])]++[(c2+1,some [])],c2+1+1⟩ v13 ([]:List (List Int)) K7∧Deep.rep ⟨F2++[(c2,some [])]++[(c2+1,some [])],c2+1+1⟩ v14 ([]:List (List Int)) K8∧(∀k,K7 k→¬K8 k)∧(∀k,K7 k→F2.length≤k)∧(∀k,K8 k→F2.length≤k)∧e.at 13=v13∧e.at 14=v14)∧(∀k,k < F2.length→(F2++[(c2,some [])]++[(c2+1,some ([]:List V))])[k]? =F2[k]?)∧F2.length≤(F2++[(c2,some [])]++[(c2+1,some ([]:List V))]).length:=fun e e1 e2=>
     ⟨⟨_,_,_,_,rep_at (α:=List Int) (l:=[]) (K:=fun _=> False) (ge2a _ _ _) (fun _ x=> x) (fun x=> x),rep_at (α:=List Int) (l:=[]) (K:=fun _=> False) (ge2b _ _ _) (fun _ x=> x) (fun x=> x),fun k q z=> by rcases q with q|q <;> rcases z with z|z <;> first|exact q.elim|exact z.elim|omega,fun k q=> by rcases q with q|q <;> first|exact q.elim|omega,fun k q=> by rcases q with q|q <;> first|exact q.elim|omega,e1,e2⟩,fun k q=> by rw[List.append_assoc]; exact List.getElem?_append_left q,by simp⟩
    refine W.mono (l171_3 x o2 o3 o4 n hs fr sr us (v6:=v6) (K6:=K6) (E0:=F2) h6 g3 (h:=⟨F2++[(c2,some [])]++[(c2+1,some [])],c2+1+1⟩) (hH _ ?_ ?_) ?_ ?_ ?_ ?_ ?_ ?_ ?_ ?_ ?_ ?_ ?_ ?_ ?_ ?_ ?_) ?_
    rotate_right
    ·rintro _ e ⟨E3,c3⟩ ⟨rfl,⟨⟨v13,v14,K7,K8,r7,r8,d1,d2,d3,h13_3,h14_3⟩,j2,j3⟩,hl_3,h1_3,h2_3,h3_3,h4_3,h30_3,h31_3,h5_3,h6_3,h7_3⟩
     simp only at j2 j3;obtain⟨K2,K3,K4,y2,y3,y4,e23,e24,e34,hK⟩:=un3171 r0;have bd2:∀k,K2 k→3≤k∧k < E.length:=fun k q=>⟨hk k ((hK k).2 (.inl q)),Deep.bd y2 q⟩;have bd3:∀k,K3 k→3≤k∧k < E.length:=fun k q=>⟨hk k ((hK k).2 (.inr (.inl q))),Deep.bd y3 q⟩;have bd4:∀k,K4 k→3≤k∧k < E.length:=fun k q=>⟨hk k ((hK k).2 (.inr (.inr q))),Deep.bd y4 q⟩;have bd7:∀k,K7 k→F2.length≤k∧k < E3.length:=fun k q=>⟨d2 k q,Deep.bd r7 q⟩;have bd8:∀k,K8 k→F2.length≤k∧k < E3.length:=fun k q=>⟨d3 k q,Deep.bd r8 q⟩;have hE2:2 < E.length:=(List.getElem?_eq_some_iff.1 g2).1;have old:∀k,k < E.length→E3[k]? =E[k]?:=fun k q=>(j2 k (by omega)).trans ((k2' k (by omega)).trans (t5 k q));have x1:=(old 1 (by omega)).trans g1;have x2:=(old 2 hE2).trans g2;have pre:∀k,k < E3.length→(E3++[(c3,some [v13])]++[(c3+1,some [v6])]++[(c3+1+1,some [v14])])[k]? =E3[k]?:=fun k q=> by
      rw[List.append_assoc,List.append_assoc]; exact List.getElem?_append_left q
     have hla:(E3++[(c3,some [v13])]++[(c3+1,some [v6])]++[(c3+1+1,some [v14])]).length=E3.length+3:=by simp
     obtain⟨w2,E5,c5,K2',p1,p2,p3,p4,p5⟩:=append_rep (E:=(E3++[(c3,some [v13])]++[(c3+1,some [v6])]++[(c3+1+1,some [v14])])) (c:=c3+1+1+1) (v:=v2) (K:=K2) (Deep.frame y2 fun k q=>(pre k (by have:=bd2 k q; omega)).trans (old k (bd2 k q).2)) (x:=v13) (K1:=K7) (Deep.frame r7 fun k q=> pre k (bd7 k q).2) (fun k q z=> by have:=bd2 k q; have:=bd7 k z; omega) gl2;rw[hla]at p3 p4 p5;have keep5:∀k,k < E3.length+3→¬K2 k→E5[k]? =(E3++[(c3,some [v13])]++[(c3+1,some [v6])]++[(c3+1+1,some [v14])])[k]?:=p4;obtain⟨w3,E6,c6,K3',s1,s2,s3,s4,s5⟩:=append_rep (E:=E5) (c:=c5) (v:=v3) (K:=K3) (Deep.frame y3 fun k q=>(keep5 k (by have:=bd3 k q; omega) (fun z=> e23 k z q)).trans ((pre k (by have:=bd3 k q; omega)).trans (old k (bd3 k q).2))) (x:=v6) (a:=hs) (K1:=K6) (Deep.frame h6 fun k q=>(keep5 k (by have:=t3 k q; omega) (fun z=> by have:=bd2 k z; have:=t3 k q; omega)).trans ((pre k (by have:=t3 k q; omega)).trans (j2 k (by have:=t3 k q; omega)))) (fun k q z=> by have:=bd3 k q; have:=t3 k z; omega) gl3;obtain⟨w4,E7,c7,K4',q1,q2,q3,q4,q5⟩:=append_rep (E:=E6) (c:=c6) (v:=v4) (K:=K4) (Deep.frame y4 fun k q=>(s4 k (by have:=bd4 k q; omega) (fun z=> e34 k z q)).trans ((keep5 k (by have:=bd4 k q; omega) (fun z=> e24 k z q)).trans ((pre k (by have:=bd4 k q; omega)).trans (old k (bd4 k q).2)))) (x:=v14) (a:=z8) (K1:=K8) (Deep.frame r8 fun k q=>(s4 k (by have:=bd8 k q; omega) (fun z=> by have:=bd3 k z; have:=bd8 k q; omega)).trans ((keep5 k (by have:=bd8 k q; omega) (fun z=> by have:=bd2 k z; have:=bd8 k q; omega)).trans (pre k (bd8 k q).2))) (fun k q z=> by have:=bd4 k q; have:=bd8 k z; omega) gl4;have no2:∀k,k < 3→¬K2 k∧¬K3 k∧¬K4 k:=fun k q=>⟨fun z=> by have:=bd2 k z; omega,fun z=> by have:=bd3 k z; omega,fun z=> by have:=bd4 k z; omega⟩;have far:∀k,E.length≤k→¬K2 k∧¬K3 k∧¬K4 k:=fun k q=>⟨fun z=> by have:=bd2 k z; omega,fun z=> by have:=bd3 k z; omega,fun z=> by have:=bd4 k z; omega⟩;have lo:∀k,k < 3→E7[k]? =E3[k]?:=fun k q=>(q4 k (by omega) (no2 k q).2.2).trans ((s4 k (by omega) (no2 k q).2.1).trans ((keep5 k (by omega) (no2 k q).1).trans (pre k (by omega))));have m1:=(lo 1 (by decide)).trans x1;have m2:=(lo 2 (by decide)).trans x2;have x0:(E3++[(c3,some [v13])]++[(c3+1,some [v6])]++[(c3+1+1,some [v14])])[2]? =some (2,some [v2,v3,v4]):=(pre 2 (by omega)).trans x2;have f1:(E3++[(c3,some [v13])]++[(c3+1,some [v6])]++[(c3+1+1,some [v14])])[E3.length]? =some (c3,some [v13]):=ge3a _ _ _ _;have f2:E5[E3.length+1]? =some (c3+1,some [v6]):=(keep5 _ (by omega) (far _ (by omega)).1).trans (ge3b _ _ _ _);have f3:E6[E3.length+1+1]? =some (c3+1+1,some [v14]):=(s4 _ (by omega) (far _ (by omega)).2.1).trans ((keep5 _ (by omega) (far _ (by omega)).1).trans (ge3c _ _ _ _));have x2a:∀y,(E3++[y])[2]? =some (2,some [v2,v3,v4]):=fun y=>(List.getElem?_append_left (by omega)).trans x2;have x2b:∀y z,(E3++[y]++[z])[2]? =some (2,some [v2,v3,v4]):=fun y z=>(List.getElem?_append_left (by simp; omega)).trans (x2a y);have z2:∀z,(E7.set 2 z)[2]? =some z:=fun z=> set_app_key (by omega);obtain⟨c13,tl13⟩:=rep_one r7;obtain⟨c14,tl14⟩:=rep_one r8;obtain⟨cw2,tw2⟩:=rep_one p2;obtain⟨cw3,tw3⟩:=rep_one s2;obtain⟨cw4,tw4⟩:=rep_one q2;simp only[simprocAttr, -Int.reduceNatCast',R0,hl_3,h1_3,h2_3,h3_3,h4_3,h30_3,h31_3,h5_3,h6_3,h7_3,h13_3,h14_3,hw,le1,x2,x2a,x2b,a1,a2,c13,tl13,c14,tl14,x0,f1,p1,f2,s1,f3,q1,cw2,tw2,cw3,tw3,cw4,tw4,m2,z2,List.set_set];have c2':∀k,K2' k→3≤k∧k < E5.length∧(K2 k∨K7 k∨E3.length+3≤k):=fun k q=> by
      refine⟨?_,Deep.bd p2 q,p3 k q⟩;rcases p3 k q with h|h|h
      ·exact(bd2 k h).1
      ·have:=bd7 k h; omega
      ·omega
     have c3':∀k,K3' k→3≤k∧k < E6.length∧(K3 k∨K6 k∨E5.length≤k):=fun k q=> by
      refine⟨?_,Deep.bd s2 q,s3 k q⟩;rcases s3 k q with h|h|h
      ·exact(bd3 k h).1
      ·have:=t3 k h; omega
      ·omega
     have c4':∀k,K4' k→3≤k∧k < E7.length∧(K4 k∨K8 k∨E6.length≤k):=fun k q=> by
      refine⟨?_,Deep.bd q2 q,q3 k q⟩;rcases q3 k q with h|h|h
      ·exact(bd4 k h).1
      ·have:=bd8 k h; omega
      ·omega
     have n23:∀k,K2' k→¬K3 k:=fun k q z=> by
      have:=bd3 k z;rcases(c2' k q).2.2 with h|h|h
      ·exact e23 k h z
      ·have:=bd7 k h; omega
      ·omega
     have n24:∀k,K2' k→¬K4 k:=fun k q z=> by
      have:=bd4 k z;rcases(c2' k q).2.2 with h|h|h
      ·exact e24 k h z
      ·have:=bd7 k h; omega
      ·omega
     have n34:∀k,K3' k→¬K4 k:=fun k q z=> by
      have:=bd4 k z;rcases(c3' k q).2.2 with h|h|h
      ·exact e34 k h z
      ·have:=t3 k h; omega
      ·omega
     have r2:Deep.rep ⟨E7.set 2 (2,some [w2,w3,w4]),c7⟩ w2 l2 K2':=Deep.frame p2 fun k q=>(set_ne (by have:=c2' k q; omega)).trans ((q4 k (by have:=c2' k q; omega) (n24 k q)).trans (s4 k (c2' k q).2.1 (n23 k q)));have r3:Deep.rep ⟨E7.set 2 (2,some [w2,w3,w4]),c7⟩ w3 l3 K3':=Deep.frame s2 fun k q=>(set_ne (by have:=c3' k q; omega)).trans (q4 k (c3' k q).2.1 (n34 k q));have r4:Deep.rep ⟨E7.set 2 (2,some [w2,w3,w4]),c7⟩ w4 l4 K4':=Deep.frame q2 fun k q=> set_ne (by have:=c4' k q; omega);refine And.intro rfl (And.intro ⟨w2,w3,w4,_,(set_ne (by decide)).trans m1,z2 _,rec3171 r2 r3 r4 (fun k p q=>?_) (fun k p q=>?_) (fun k p q=>?_),fun k q=>?_⟩ ?_)
     ·rcases(c3' k q).2.2 with h|h|h
      ·exact n23 k p h
      ·have:=t3 k h
       rcases(c2' k p).2.2 with h1|h1|h1
       ·have:=bd2 k h1; omega
       ·have:=bd7 k h1; omega
       ·omega
      ·have:=c2' k p; omega
     ·rcases(c4' k q).2.2 with h|h|h
      ·exact n24 k p h
      ·have:=bd8 k h
       rcases(c2' k p).2.2 with h1|h1|h1
       ·have:=bd2 k h1; omega
       ·exact d1 k h1 h
       ·omega
      ·have:=c2' k p; omega
     ·rcases(c4' k q).2.2 with h|h|h
      ·exact n34 k p h
      ·have:=bd8 k h
       rcases(c3' k p).2.2 with h1|h1|h1
       ·have:=bd3 k h1; omega
       ·have:=t3 k h1; omega
       ·omega
      ·have:=c3' k p; omega
     ·rcases q with q|q|q
      ·exact(c2' k q).1
      ·exact(c3' k q).1
      ·exact(c4' k q).1
     ·simp only[simprocAttr, -Int.reduceNatCast',R0,hl_3,h1_3,h2_3,h3_3,h4_3,h30_3,h31_3,h5_3,h6_3,h7_3,hw]
    all_goals simp only[simprocAttr, -Int.reduceNatCast',R0,hl_2,h1_2,h2_2,h3_2,h4_2,h30_2,h31_2,h5_2,h6_2,h7_2,h8_2,le1]
   all_goals simp only[simprocAttr, -Int.reduceNatCast',R0,hl_1,h1_1,h2_1,h3_1,h4_1,h30_1,h31_1]
  ·clear hl_0 h0_0
   rintro n ⟨o2,o3,o4⟩ e ⟨E,c⟩ ⟨hS,hl_1,h1_1,h2_1,h3_1,h4_1,h30_1,h31_1⟩ hge t ho;unfold F171_1_D at ho;dsimp only at ho;have hE:=Option.some.inj ho; subst hE;simp only[simprocAttr, -Int.reduceNatCast',R0,b171_1,hl_1,h1_1,h2_1,h3_1,h4_1,h30_1,h31_1,eq_false hge];intro ht;simp only[Prod.mk.injEq]at ht;obtain⟨rfl,rfl,rfl⟩:=ht;exact hS
 clear hl_0 h0_0;rintro _ e ⟨E,c⟩ ⟨rfl,⟨v2,v3,v4,K,g1,g2,r0,hk⟩,hl_0,h1_0,h2_0,h3_0,h4_0,h30_0⟩;simp only at g1 g2 r0;simp only[simprocAttr, -Int.reduceNatCast',R0,hl_0,h1_0,h2_0,h3_0,h4_0,h30_0,g1,g2];have rr:Deep.rep ⟨E.set 1 (1,some [v2,v3,v4]),c⟩ (V.agg [v2,v3,v4]) (⟨t1,t2,t3⟩:GContraction) K:=⟨_,rfl,r0.frame fun k q=> set_ne (by have:=hk k q; omega)⟩;refine And.intro (fun _=> trivial) ⟨V.agg [v2,v3,v4],?_,K,rr⟩;simp only[simprocAttr, -Int.reduceNatCast',R0,fn_out,p171,Rs.ev,hl_0,h1_0,h2_0,h3_0,h4_0,h30_0,set_app_key (show 1 < E.length from (List.getElem?_eq_some_iff.1 g1).1)]
theorem x171(x:GComplex){r:GContraction}(hF:F171 x=some r):tans A 171 [1,1,1] [(eC x)]=some (Enc.enc r):=tans_of_deep (α:=GContraction) (by decide) (d171 x hF)
def F154(a0:GComplex):Option (T2 GContraction Int):=
 (F42 a0).bind fun x1=>
 if x1=true then
  (F171 a0).bind fun x3=>
  some ⟨x3,0⟩
 else
  some ⟨⟨[],[],[]⟩,1⟩
theorem d154(x:GComplex){r:T2 GContraction Int}(hF:F154 x=some r):∃v h',res A 154 [(eC x)] Heap.empty=some (v,h')∧∃vs K,v=V.tup vs∧repF h' vs [⟨r.a⟩,⟨r.b⟩] K:=by
 refine res_dp (f:=p154) rfl rfl rfl fun e hl he=>?_;have h0_0:e.at 0=(eC x):=he 0 _ rfl;have hl_0:e.length=10:=hl;clear he hl;show W A b154 e ⟨[],0⟩ _;unfold F154 at hF;obtain⟨x1,gx1,hF⟩:=bS hF;have w2:ans A 42 [(eC x)]=some (V.bool x1):=s42 x gx1;cases x1 with
 |true=>
  rw[if_pos rfl]at hF;obtain⟨x3,gx3,hF⟩:=bS hF;have w4:tans A 171 [1,1,1] [(eC x)]=some (Enc.enc x3):=x171 x gx3;cases hF;obtain⟨v,⟨E1,c1⟩,K,t1,t2,t3,t4,t5⟩:=thawD (α:=GContraction) (by decide) x3 ⟨[(0,none),(1,some [V.nils,V.nils,V.nils])],2⟩;obtain⟨vs,rfl,r0⟩:=t2;have hlen:=r0.len;obtain⟨a,b,c,rfl⟩:∃a b c,vs=[a,b,c]:=by
   match vs,hlen with
   | [a,b,c],_=> exact⟨a,b,c,rfl⟩
  have t1':thaw 16 [1,1,1] ((eK x3)) ⟨[(0,none),(1,some [V.nils,V.nils,V.nils])],2⟩=some (V.agg [a,b,c],⟨E1,c1⟩):=t1;simp only[List.length_cons,List.length_nil,Nat.zero_add,Nat.reduceAdd]at t3 t4 t5;have m1:E1[1]? =some (1,some [V.nils,V.nils,V.nils]):=t5 1 (by decide);have rr:Deep.rep ⟨E1.set 1 (1,some [a,b,c]),c1⟩ (V.agg [a,b,c]) x3 K:=⟨_,rfl,r0.frame fun k q=> set_ne (by have:=t3 k q; omega)⟩;simp only[simprocAttr,R0,b154,hl_0,h0_0,w2,w4,callM_tans,t1',m1];refine And.intro (fun _=> trivial) ⟨V.tup [V.agg [a,b,c],V.int .i64 0],?_,_,_,rfl,pair_rep rr _⟩;simp only[simprocAttr,R0,fn_out,p154,Rs.ev,hl_0,set_app_key (show 1 < E1.length by omega)]
 |false=>
  rw[if_neg Bool.false_ne_true]at hF;cases hF;simp only[simprocAttr,R0,b154,hl_0,h0_0,w2];have zr:∀h,Deep.rep h (V.agg [V.nils,V.nils,V.nils]) (⟨[],[],[]⟩:GContraction) _:=fun h=>⟨_,rfl,repF_cons (rep_nils h) (repF_cons (rep_nils h) (repF_1 (rep_nils h)) (fun _ x _=> x)) (fun _ x _=> x)⟩;refine And.intro (fun _=> trivial) ⟨V.tup [V.agg [V.nils,V.nils,V.nils],V.int .i64 1],?_,_,_,rfl,pair_rep (α:=GContraction) (zr _) _⟩;simp only[simprocAttr,R0,fn_out,p154,Rs.ev,hl_0]
theorem x154(x:GComplex){r:T2 GContraction Int}(hF:F154 x=some r):tans A 154 [1,1,1] [(eC x)]=some (V.tup [Enc.enc r.a,V.int .i64 r.b]):=by
 obtain⟨_,h',h1,vs,K,rfl,h2⟩:=d154 x hF;exact tans_tup (fits_pair rfl (by decide)) h1 h2
theorem s154(x:GComplex){r:T2 GContraction Int}(hF:F154 x=some r):ans A 154 [(eC x)]=some (EncR.enc r):=by
 obtain⟨_,h',h1,vs,K,rfl,h2⟩:=d154 x hF;exact ans_tup (ss:=[1,1,1]) (fits_pair rfl (by decide)) h1 h2
def F228(a0:GContraction)(a1:GContraction):Option Bool:=
 (F17 a0.Down a1.Down).bind fun x1=>
 if x1=true then
  (F17 a0.Up a1.Up).bind fun x3=>
  if x3=true then
   (F17 a0.Back a1.Back).bind fun x5=>
   if x5=true then
    some true
   else
    some false
  else
   some false
 else
  some false
theorem s228(a0:GContraction)(a1:GContraction){r:Bool}(hF:F228 a0 a1=some r):ans A 228 [(eK a0),(eK a1)]=some (Enc.enc r):=by
 refine ans_of (f:=p228) rfl rfl rfl fun e hl he=>?_;have h0_0:e.at 0=(eK a0):=he 0 _ rfl;have h1_0:e.at 1=(eK a1):=he 1 _ rfl;have hl_0:e.length=23:=hl;clear he hl;have h_0:=And.intro hl_0 (And.intro h0_0 h1_0);show W A b228 e ⟨[],0⟩ _;unfold F228 at hF;obtain⟨x1,gx1,hF⟩:=bS hF;have w2:ans A 17 [V.isl (a0.Down.map Enc.enc),V.isl (a1.Down.map Enc.enc)]=some (V.bool x1):=s17 a0.Down a1.Down gx1;cases x1 with
 |true=>
  rw[if_pos rfl]at hF;obtain⟨x3,gx3,hF⟩:=bS hF;have w4:ans A 17 [V.isl (a0.Up.map Enc.enc),V.isl (a1.Up.map Enc.enc)]=some (V.bool x3):=s17 a0.Up a1.Up gx3;cases x3 with
  |true=>
   rw[if_pos rfl]at hF;obtain⟨x5,gx5,hF⟩:=bS hF;have w6:ans A 17 [V.isl (a0.Back.map Enc.enc),V.isl (a1.Back.map Enc.enc)]=some (V.bool x5):=s17 a0.Back a1.Back gx5;cases x5 with
   |true=>
    rw[if_pos rfl]at hF;cases hF;simp only[simprocAttr,R0,b228,h_0,w2,w4,w6];exact fin_ret (by simp only[simprocAttr,R0,fn_out,p228,Rs.ev,take_len_self,h_0,w2,w4,w6])
   |false=>
    rw[if_neg Bool.false_ne_true]at hF;cases hF;simp only[simprocAttr,R0,b228,h_0,w2,w4,w6];exact fin_ret (by simp only[simprocAttr,R0,fn_out,p228,Rs.ev,take_len_self,h_0,w2,w4,w6])
  |false=>
   rw[if_neg Bool.false_ne_true]at hF;cases hF;simp only[simprocAttr,R0,b228,h_0,w2,w4];exact fin_ret (by simp only[simprocAttr,R0,fn_out,p228,Rs.ev,take_len_self,h_0,w2,w4])
 |false=>
  rw[if_neg Bool.false_ne_true]at hF;cases hF;simp only[simprocAttr,R0,b228,h_0,w2];exact fin_ret (by simp only[simprocAttr,R0,fn_out,p228,Rs.ev,take_len_self,h_0,w2])
def F54(a0:Int)(a1:Int)(a2:Int):Option Bool:=
 if a1≤a0 then
  some (decide (a0≤a2))
 else
  some false
theorem s54(a0:Int)(a1:Int)(a2:Int){r:Bool}(hF:F54 a0 a1 a2=some r):ans A 54 [V.int .i64 a0,V.int .i64 a1,V.int .i64 a2]=some (Enc.enc r):=by
 refine ans_of (f:=p54) rfl rfl rfl fun e hl he=>?_;have h0_0:e.at 0=V.int .i64 a0:=he 0 _ rfl;have h1_0:e.at 1=V.int .i64 a1:=he 1 _ rfl;have h2_0:e.at 2=V.int .i64 a2:=he 2 _ rfl;have hl_0:e.length=15:=hl;clear he hl;have h_0:=And.intro hl_0 (And.intro h0_0 (And.intro h1_0 h2_0));show W A b54 e ⟨[],0⟩ _;unfold F54 at hF;by_cases c1:a1≤a0
 ·rw[if_pos c1]at hF
  cases hF;simp only[simprocAttr,R0,b54,h_0,eq_true c1];exact fin_ret (by simp only[simprocAttr,R0,fn_out,p54,Rs.ev,take_len_self,h_0,eq_true c1])
 ·rw[if_neg c1]at hF
  cases hF;simp only[simprocAttr,R0,b54,h_0,eq_false c1];exact fin_ret (by simp only[simprocAttr,R0,fn_out,p54,Rs.ev,take_len_self,h_0,eq_false c1])
def F78(a0:Int):Option Bool:=
 if a0=2 then
  some true
 else
  if a0=3 then
   some true
  else
   if a0=5 then
    some true
   else
    some (decide (a0=7))
theorem s78(a0:Int){r:Bool}(hF:F78 a0=some r):ans A 78 [V.int .i64 a0]=some (Enc.enc r):=by
 refine ans_of (f:=p78) rfl rfl rfl fun e hl he=>?_;have h0_0:e.at 0=V.int .i64 a0:=he 0 _ rfl;have hl_0:e.length=17:=hl;clear he hl;have h_0:=And.intro hl_0 h0_0;show W A b78 e ⟨[],0⟩ _;unfold F78 at hF;by_cases c1:a0=2
 ·rw[if_pos c1]at hF
  cases hF;simp only[simprocAttr,R0,b78,h_0,eq_true c1];exact fin_ret (by simp only[simprocAttr,R0,fn_out,p78,Rs.ev,take_len_self,h_0,eq_true c1])
 ·rw[if_neg c1]at hF
  by_cases c2:a0=3
  ·rw[if_pos c2]at hF
   cases hF;simp only[simprocAttr,R0,b78,h_0,eq_false c1,eq_true c2];exact fin_ret (by simp only[simprocAttr,R0,fn_out,p78,Rs.ev,take_len_self,h_0,eq_false c1,eq_true c2])
  ·rw[if_neg c2]at hF
   by_cases c3:a0=5
   ·rw[if_pos c3]at hF
    cases hF;simp only[simprocAttr,R0,b78,h_0,eq_false c1,eq_false c2,eq_true c3];exact fin_ret (by simp only[simprocAttr,R0,fn_out,p78,Rs.ev,take_len_self,h_0,eq_false c1,eq_false c2,eq_true c3])
   ·rw[if_neg c3]at hF
    cases hF;simp only[simprocAttr,R0,b78,h_0,eq_false c1,eq_false c2,eq_false c3];exact fin_ret (by simp only[simprocAttr,R0,fn_out,p78,Rs.ev,take_len_self,h_0,eq_false c1,eq_false c2,eq_false c3])
def F79_2_S(a0:Int)(a1:List (List Int))(a3:Int)(v9_1:Int)(v10_2:Int):Option ((Int)⊕((Unit)⊕Bool)):=
 (getI a1 v9_1).bind fun x11=>
if v10_2 < (x11.length:Int)then
 (getI x11 v10_2).bind fun x14=>
 (chk (a0 - 1)).bind fun x16=>
 (F54 x14 0 x16).bind fun x17=>
 if x17=true then
  (chk (v10_2+1)).bind fun x19=>
  some (.inl x19)
 else
  some (.inr (.inr false))
else
 some (.inr (.inl ()))
def F79_1_B(a0:Int)(a1:List (List Int))(a3:Int)(v9_1:Int)(s:Unit):Option ((Unit)⊕((Unit)⊕Bool)):=
 (getI a1 v9_1).bind fun x5=>
if(x5.length:Int)=a3 then
 (loopW (F79_2_S a0 a1 a3 v9_1) 0).bind fun t20=> match t20 with
  | .inl _=>
   some (.inl ())
  | .inr r21=> some (.inr (.inr r21))
else
 some (.inr (.inr false))
def F79_1_D(a0:Int)(a1:List (List Int))(a3:Int)(v9_1:Int)(s:Unit):Option ((Unit)⊕Bool):=
 some (.inl ())
def F79(a0:Int)(a1:List (List Int))(a2:Int)(a3:Int):Option Bool:=
 if(a1.length:Int)=a2 then
  (forR 0 (a1.length:Int) (F79_1_B a0 a1 a3) (F79_1_D a0 a1 a3) ()).bind fun t22=> match t22 with
   | .inl _=>
    some true
   | .inr r23=> some r23
 else
  some false
def I79_2(a0:Int)(a1:List (List Int))(a3:Int)(v9_1:Int)(v10_2:Int)(e:Env)(h:Heap):Prop:=
 ∃k9:Nat,h=⟨[],k9⟩∧e.length=48∧e.at 0=V.int .i64 a0∧e.at 1=V.isl (a1.map Enc.enc)∧e.at 3=V.int .i64 a3∧e.at 9=V.int .i64 v9_1∧e.at 10=V.int .i64 v10_2
def P79_2(a0:Int)(a1:List (List Int))(a3:Int)(v9_1:Int)(t:(Unit)⊕Bool)(x:Ex)(e:Env)(h:Heap):Prop:=
 match t with
 | .inl _=> x= .normal∧∃k9:Nat,h=⟨[],k9⟩∧e.length=48∧e.at 0=V.int .i64 a0∧e.at 1=V.isl (a1.map Enc.enc)∧e.at 3=V.int .i64 a3∧e.at 9=V.int .i64 v9_1
 | .inr r=> x= .ret∧Fin p79 (Enc.enc r) .ret e h
theorem l79_2(a0:Int)(a1:List (List Int))(a3:Int)(v9_1:Int){s:Int}{t:(Unit)⊕Bool}(hF:loopW (F79_2_S a0 a1 a3 v9_1) s=some t){e:Env}{h:Heap}(hI:I79_2 a0 a1 a3 v9_1 s e h):W A c79_2 e h (P79_2 a0 a1 a3 v9_1 t):=by
 show W A (.block 2 (.loop false b79_2)) e h _;rw[W_block];refine W_loop hF 0 (by obtain⟨_,rfl,_⟩:=hI; rfl) (I79_2 a0 a1 a3 v9_1) hI ?_
 ·rintro v10_2 e h ⟨k9,rfl,h_8⟩ o ho
  unfold F79_2_S at ho;obtain⟨x11,gx11,ho⟩:=bS ho;obtain⟨w12a,w12b⟩:=getI_w gx11;by_cases c13:v10_2 < (x11.length:Int)
  ·rw[if_pos c13]at ho
   obtain⟨x14,gx14,ho⟩:=bS ho;obtain⟨w15a,w15b⟩:=getI_w gx14;obtain⟨x16,gx16,ho⟩:=bS ho;have wx16:=chk_w gx16;obtain⟨x17,gx17,ho⟩:=bS ho;have w18:ans A 54 [V.int .i64 x14,V.int .i64 0,V.int .i64 x16]=some (V.bool x17):=s54 x14 0 x16 gx17;cases x17 with
   |true=>
    rw[if_pos rfl]at ho;obtain⟨x19,gx19,ho⟩:=bS ho;have wx19:=chk_w gx19;cases ho;simp only[simprocAttr,R0,b79_2,h_8,w12a,w12b,eq_true c13,w15a,w15b,wx16,w18,wx19];refine And.intro rfl (Exists.intro _ (And.intro rfl ?_));simp only[simprocAttr,R0,h_8,w12a,w12b,eq_true c13,w15a,w15b,wx16,w18,wx19]
   |false=>
    rw[if_neg Bool.false_ne_true]at ho;cases ho;simp only[simprocAttr,R0,b79_2,h_8,w12a,w12b,eq_true c13,w15a,w15b,wx16,w18];intro ht; subst ht;simp only[simprocAttr,RR,RB];exact And.intro rfl (fin_ret (by simp only[simprocAttr,R0,fn_out,p79,Rs.ev,take_len_self,h_8,w12a,w12b,eq_true c13,w15a,w15b,wx16,w18]))
  ·rw[if_neg c13]at ho
   cases ho;simp only[simprocAttr,R0,b79_2,h_8,w12a,w12b,eq_false c13];intro ht; subst ht;simp only[simprocAttr,RR,RB];refine And.intro rfl (Exists.intro _ (And.intro rfl ?_));simp only[simprocAttr,R0,h_8,w12a,w12b,eq_false c13]
def I79_1(a0:Int)(a1:List (List Int))(a3:Int)(v9_1:Int)(s:Unit)(e:Env)(h:Heap):Prop:=
 ∃k3:Nat,h=⟨[],k3⟩∧e.length=48∧e.at 0=V.int .i64 a0∧e.at 1=V.isl (a1.map Enc.enc)∧e.at 3=V.int .i64 a3∧e.at 9=V.int .i64 v9_1
def P79_1(a0:Int)(a1:List (List Int))(a3:Int)(t:(Unit)⊕Bool)(x:Ex)(e:Env)(h:Heap):Prop:=
 match t with
 | .inl _=> x= .normal∧∃k3:Nat,h=⟨[],k3⟩∧e.length=48
 | .inr r=> x= .ret∧Fin p79 (Enc.enc r) .ret e h
theorem l79_1(a0:Int)(a1:List (List Int))(a3:Int){lo:Int}{s:Unit}{t:(Unit)⊕Bool}(hF:forR lo (a1.length:Int) (F79_1_B a0 a1 a3) (F79_1_D a0 a1 a3) s=some t){e:Env}{h:Heap}(hI:I79_1 a0 a1 a3 lo s e h):W A c79_1 e h (P79_1 a0 a1 a3 t):=by
 show W A (.block 0 (.loop false b79_1)) e h _;rw[W_block];refine W_forR hF 0 (by obtain⟨_,rfl,_⟩:=hI; rfl) (I79_1 a0 a1 a3) hI ?_ ?_
 ·rintro v9_1 _ e h ⟨k3,rfl,h_2⟩ hlt hw o ho
  unfold F79_1_B at ho;obtain⟨x5,gx5,ho⟩:=bS ho;obtain⟨w6a,w6b⟩:=getI_w gx5;by_cases c7:(x5.length:Int)=a3
  ·rw[if_pos c7]at ho
   obtain⟨t20,gt20,ho⟩:=bS ho;rcases t20 with _|r21
   ·dsimp only at ho
    simp only[simprocAttr,R0,b79_1,h_2,eq_true hlt,hw,w6a,w6b,eq_true c7];refine W.mono (l79_2 a0 a1 a3 v9_1 gt20 (Exists.intro _ (And.intro rfl ?_))) ?_
    ·simp only[simprocAttr,R0,h_2,eq_true hlt,hw,w6a,w6b,eq_true c7]
    rintro _ e _ ⟨rfl,k9,rfl,h_10⟩;cases ho;simp only[simprocAttr,R0,h_10,eq_true hlt,hw,eq_true c7];refine And.intro rfl (Exists.intro _ (And.intro rfl ?_));simp only[simprocAttr,R0,h_10,eq_true hlt,hw,eq_true c7]
   ·dsimp only at ho
    cases ho;simp only[simprocAttr,R0,b79_1,h_2,eq_true hlt,hw,w6a,w6b,eq_true c7];refine W.mono (l79_2 a0 a1 a3 v9_1 gt20 (Exists.intro _ (And.intro rfl ?_))) ?_
    ·simp only[simprocAttr,R0,h_2,eq_true hlt,hw,w6a,w6b,eq_true c7]
    rintro _ e h ⟨rfl,hq⟩;simp only[simprocAttr,RR,RB];intro ht; subst ht;simp only[simprocAttr,RR,RB];exact And.intro rfl hq
  ·rw[if_neg c7]at ho
   cases ho;simp only[simprocAttr,R0,b79_1,h_2,eq_true hlt,hw,w6a,w6b,eq_false c7];intro ht; subst ht;simp only[simprocAttr,RR,RB];exact And.intro rfl (fin_ret (by simp only[simprocAttr,R0,fn_out,p79,Rs.ev,take_len_self,h_2,eq_true hlt,hw,w6a,w6b,eq_false c7]))
 ·rintro v9_1 _ e h ⟨k3,rfl,h_2⟩ hge t1 ho
  unfold F79_1_D at ho;cases ho;simp only[simprocAttr,R0,b79_1,h_2,eq_false hge];intro ht; subst ht;refine And.intro rfl (Exists.intro _ (And.intro rfl ?_));simp only[simprocAttr,R0,h_2,eq_false hge]
theorem s79(a0:Int)(a1:List (List Int))(a2:Int)(a3:Int){r:Bool}(hF:F79 a0 a1 a2 a3=some r):ans A 79 [V.int .i64 a0,V.isl (a1.map Enc.enc),V.int .i64 a2,V.int .i64 a3]=some (Enc.enc r):=by
 refine ans_of (f:=p79) rfl rfl rfl fun e hl he=>?_;have h0_0:e.at 0=V.int .i64 a0:=he 0 _ rfl;have h1_0:e.at 1=V.isl (a1.map Enc.enc):=he 1 _ rfl;have h2_0:e.at 2=V.int .i64 a2:=he 2 _ rfl;have h3_0:e.at 3=V.int .i64 a3:=he 3 _ rfl;have hl_0:e.length=48:=hl;clear he hl;have h_0:=And.intro hl_0 (And.intro h0_0 (And.intro h1_0 (And.intro h2_0 h3_0)));show W A b79 e ⟨[],0⟩ _;unfold F79 at hF;by_cases c1:(a1.length:Int)=a2
 ·rw[if_pos c1]at hF
  obtain⟨t22,gt22,hF⟩:=bS hF;rcases t22 with _|r23
  ·dsimp only at hF
   simp only[simprocAttr,R0,b79,h_0,eq_true c1];refine W.mono (l79_1 a0 a1 a3 gt22 (Exists.intro _ (And.intro rfl ?_))) ?_
   ·simp only[simprocAttr,R0,h_0,eq_true c1]
   rintro _ e _ ⟨rfl,k3,rfl,hl_4⟩;cases hF;simp only[simprocAttr,R0,hl_4,eq_true c1];exact fin_ret (by simp only[simprocAttr,R0,fn_out,p79,Rs.ev,take_len_self,hl_4,eq_true c1])
  ·dsimp only at hF
   cases hF;simp only[simprocAttr,R0,b79,h_0,eq_true c1];refine W.mono (l79_1 a0 a1 a3 gt22 (Exists.intro _ (And.intro rfl ?_))) ?_
   ·simp only[simprocAttr,R0,h_0,eq_true c1]
   rintro _ e h ⟨rfl,hq⟩;simp only[simprocAttr,RR,RB];exact hq
 ·rw[if_neg c1]at hF
  cases hF;simp only[simprocAttr,R0,b79,h_0,eq_false c1];exact fin_ret (by simp only[simprocAttr,R0,fn_out,p79,Rs.ev,take_len_self,h_0,eq_false c1])
def F80_2_S(a0:Int)(a1:List (List Int))(a2:List Int)(v10_1:Int)(s:(List Int)×Int):Option (((List Int)×Int)⊕((List Int))):=
 match s with
 |(o0_2,v11_2)=>
  if v11_2 < ((o0_2.length:Nat):Int)then
   (getI o0_2 v11_2).bind fun x12=>
   (getI a2 v10_1).bind fun x14=>
   (getI a1 v10_1).bind fun x16=>
   (getI x16 v11_2).bind fun x18=>
   (chk (x14*x18)).bind fun x20=>
   (chk (x12+x20)).bind fun x21=>
   (remI x21 a0).bind fun x22=>
   (setI o0_2 v11_2 x22).bind fun l24=>
   (chk (v11_2+1)).bind fun x26=>
   some (.inl (l24,x26))
  else
   some (.inr o0_2)
def F80_1_B(a0:Int)(a1:List (List Int))(a2:List Int)(v10_1:Int)(o0_1:(List Int)):Option (((List Int))⊕((List Int))):=
 (loopW (F80_2_S a0 a1 a2 v10_1) (o0_1,0)).bind fun zo0_2=>
some (.inl zo0_2)
def F80_1_D(a0:Int)(a1:List (List Int))(a2:List Int)(v10_1:Int)(o0_1:(List Int)):Option ((List Int)):=
 some o0_1
def F80(a0:Int)(a1:List (List Int))(a2:List Int)(a3:Int):Option (List Int):=
 (mkL 8 a3 0).bind fun l1=>
 (forR 0 (a2.length:Int) (F80_1_B a0 a1 a2) (F80_1_D a0 a1 a2) l1).bind fun zo0_1=>
 some zo0_1
def I80_2(a0:Int)(a1:List (List Int))(a2:List Int)(v10_1:Int)(s:(List Int)×Int)(e:Env)(h:Heap):Prop:=
 match s with
 |(o0_2,v11_2)=>
  ∃u8 k9:Nat,h=⟨[(u8,some (o0_2.map Enc.enc))],k9⟩∧e.length=49∧e.at 0=V.int .i64 a0∧e.at 1=V.isl (a1.map Enc.enc)∧e.at 2=V.isl (a2.map Enc.enc)∧e.at 9=V.sl 0 u8 0 o0_2.length 1∧e.at 10=V.int .i64 v10_1∧e.at 11=V.int .i64 v11_2
def P80_2(a0:Int)(a1:List (List Int))(a2:List Int)(v10_1:Int)(zo0_2:(List Int))(x:Ex)(e:Env)(h:Heap):Prop:=
 x= .normal∧∃u8 k9:Nat,h=⟨[(u8,some (zo0_2.map Enc.enc))],k9⟩∧e.length=49∧e.at 0=V.int .i64 a0∧e.at 1=V.isl (a1.map Enc.enc)∧e.at 2=V.isl (a2.map Enc.enc)∧e.at 9=V.sl 0 u8 0 zo0_2.length 1∧e.at 10=V.int .i64 v10_1
theorem l80_2(a0:Int)(a1:List (List Int))(a2:List Int)(v10_1:Int){s:(List Int)×Int}{t:(List Int)}(hF:loopW (F80_2_S a0 a1 a2 v10_1) s=some t){e:Env}{h:Heap}(hI:I80_2 a0 a1 a2 v10_1 s e h):W A c80_2 e h (P80_2 a0 a1 a2 v10_1 t):=by
 show W A (.block 2 (.loop false b80_2)) e h _;rw[W_block];refine W_loop hF 1 (by rcases s with⟨_,_⟩; obtain⟨_,_,rfl,_⟩:=hI; rfl) (I80_2 a0 a1 a2 v10_1) hI ?_
 ·rintro⟨o0_2,v11_2⟩ e h ⟨u8,k9,rfl,h_7⟩ o ho
  unfold F80_2_S at ho;dsimp only at ho;by_cases c11:v11_2 < ((o0_2.length:Nat):Int)
  ·rw[if_pos c11]at ho
   obtain⟨x12,gx12,ho⟩:=bS ho;obtain⟨w13a,w13b⟩:=getI_w gx12;have w13c:=getI_lt gx12;have w13d:List.drop (Int.toNat v11_2) (o0_2.map Enc.enc)=(V.int .i64 x12)::List.drop ((Int.toNat v11_2)+1) (o0_2.map Enc.enc):=drop_enc w13b;obtain⟨x14,gx14,ho⟩:=bS ho;obtain⟨w15a,w15b⟩:=getI_w gx14;obtain⟨x16,gx16,ho⟩:=bS ho;obtain⟨w17a,w17b⟩:=getI_w gx16;obtain⟨x18,gx18,ho⟩:=bS ho;obtain⟨w19a,w19b⟩:=getI_w gx18;obtain⟨x20,gx20,ho⟩:=bS ho;have wx20:=chk_w gx20;obtain⟨x21,gx21,ho⟩:=bS ho;have wx21:=chk_w gx21;obtain⟨x22,gx22,ho⟩:=bS ho;obtain⟨w23a,w23b⟩:=rem_w gx22;obtain⟨l24,gl24,ho⟩:=bS ho;obtain⟨w25a,w25b,w25c,w25d,w25e⟩:=setI_w gl24;replace w25e:List.take (Int.toNat v11_2) (o0_2.map Enc.enc)++[V.int .i64 x22]++List.drop (Int.toNat v11_2+1) (o0_2.map Enc.enc)=List.map Enc.enc l24:=w25e;obtain⟨x26,gx26,ho⟩:=bS ho;have wx26:=chk_w gx26;cases ho;simp only[simprocAttr,R0,b80_2,h_7,eq_true c11,w13a,w13b,w13c,w13d,w15a,w15b,w17a,w17b,w19a,w19b,wx20,wx21,eq_false w23a,w23b,w25a,w25b,w25c,w25e,wx26];refine And.intro rfl (Exists.intro _ (Exists.intro _ (And.intro rfl ?_)));simp only[simprocAttr,R0,h_7,eq_true c11,w13a,w13b,w13c,w13d,w15a,w15b,w17a,w17b,w19a,w19b,wx20,wx21,eq_false w23a,w23b,w25a,w25b,w25c,w25e,wx26,w25d]
  ·rw[if_neg c11]at ho
   cases ho;simp only[simprocAttr,R0,b80_2,h_7,eq_false c11];intro ht; subst ht;simp only[simprocAttr,RR,RB];refine And.intro rfl (Exists.intro _ (Exists.intro _ (And.intro rfl ?_)));simp only[simprocAttr,R0,h_7,eq_false c11]
def I80_1(a0:Int)(a1:List (List Int))(a2:List Int)(v10_1:Int)(o0_1:(List Int))(e:Env)(h:Heap):Prop:=
 ∃u4 k5:Nat,h=⟨[(u4,some (o0_1.map Enc.enc))],k5⟩∧e.length=49∧e.at 0=V.int .i64 a0∧e.at 1=V.isl (a1.map Enc.enc)∧e.at 2=V.isl (a2.map Enc.enc)∧e.at 9=V.sl 0 u4 0 o0_1.length 1∧e.at 10=V.int .i64 v10_1
def P80_1(a0:Int)(a1:List (List Int))(a2:List Int)(zo0_1:(List Int))(x:Ex)(e:Env)(h:Heap):Prop:=
 x= .normal∧∃u4 k5:Nat,h=⟨[(u4,some (zo0_1.map Enc.enc))],k5⟩∧e.length=49∧e.at 9=V.sl 0 u4 0 zo0_1.length 1
theorem l80_1(a0:Int)(a1:List (List Int))(a2:List Int){lo:Int}{s:(List Int)}{t:(List Int)}(hF:forR lo (a2.length:Int) (F80_1_B a0 a1 a2) (F80_1_D a0 a1 a2) s=some t){e:Env}{h:Heap}(hI:I80_1 a0 a1 a2 lo s e h):W A c80_1 e h (P80_1 a0 a1 a2 t):=by
 show W A (.block 0 (.loop false b80_1)) e h _;rw[W_block];refine W_forR hF 1 (by obtain⟨_,_,rfl,_⟩:=hI; rfl) (I80_1 a0 a1 a2) hI ?_ ?_
 ·rintro v10_1 o0_1 e h ⟨u4,k5,rfl,h_3⟩ hlt hw o ho
  unfold F80_1_B at ho;obtain⟨zo0_2,gt27,ho⟩:=bS ho;simp only[simprocAttr,R0,b80_1,h_3,eq_true hlt,hw];refine W.mono (l80_2 a0 a1 a2 v10_1 gt27 (Exists.intro _ (Exists.intro _ (And.intro rfl ?_)))) ?_
  ·simp only[simprocAttr,R0,h_3,eq_true hlt,hw]
  rintro _ e _ ⟨rfl,u8,k9,rfl,h_10⟩;cases ho;simp only[simprocAttr,R0,h_10,eq_true hlt,hw];refine And.intro rfl (Exists.intro _ (Exists.intro _ (And.intro rfl ?_)));simp only[simprocAttr,R0,h_10,eq_true hlt,hw]
 ·rintro v10_1 o0_1 e h ⟨u4,k5,rfl,h_3⟩ hge t1 ho
  unfold F80_1_D at ho;cases ho;simp only[simprocAttr,R0,b80_1,h_3,eq_false hge];intro ht; subst ht;refine And.intro rfl (Exists.intro _ (Exists.intro _ (And.intro rfl ?_)));simp only[simprocAttr,R0,h_3,eq_false hge]
theorem s80(a0:Int)(a1:List (List Int))(a2:List Int)(a3:Int){r:List Int}(hF:F80 a0 a1 a2 a3=some r):ans A 80 [V.int .i64 a0,V.isl (a1.map Enc.enc),V.isl (a2.map Enc.enc),V.int .i64 a3]=some (Enc.enc r):=by
 refine ans_of (f:=p80) rfl rfl rfl fun e hl he=>?_;have h0_0:e.at 0=V.int .i64 a0:=he 0 _ rfl;have h1_0:e.at 1=V.isl (a1.map Enc.enc):=he 1 _ rfl;have h2_0:e.at 2=V.isl (a2.map Enc.enc):=he 2 _ rfl;have h3_0:e.at 3=V.int .i64 a3:=he 3 _ rfl;have hl_0:e.length=49:=hl;clear he hl;show W A b80 e ⟨[],0⟩ _;unfold F80 at hF;obtain⟨l1,gl1,hF⟩:=bS hF;obtain⟨w2a,w2b,w2c,w2d,w2e⟩:=mkL_w gl1;replace w2e:(List.replicate (Int.toNat a3) [V.int .i64 0]).flatten=List.map Enc.enc l1:=w2e;obtain⟨zo0_1,gt28,hF⟩:=bS hF;simp only[simprocAttr, -Int.reduceNatCast',R0,b80,hl_0,h0_0,h1_0,h2_0,h3_0,w2a,w2b,w2c,w2e];refine W.mono (l80_1 a0 a1 a2 gt28 (Exists.intro _ (Exists.intro _ (And.intro rfl ?_)))) ?_
 ·simp only[simprocAttr, -Int.reduceNatCast',R0,hl_0,h0_0,h1_0,h2_0,h3_0,w2a,w2b,w2c,w2e,w2d]
 rintro _ e _ ⟨rfl,u4,k5,rfl,hl_6,h9_6⟩;have hE:=Option.some.inj hF; subst hE;simp only[simprocAttr, -Int.reduceNatCast',R0,hl_6,h9_6];exact fin_ret (by simp only[simprocAttr, -Int.reduceNatCast',R0,fn_out,p80,Rs.ev,take_len_self,hl_6,h9_6,frzs (α:=Int) zo0_1,takes (α:=Int) zo0_1])
def F81_1_B(a0:List Int)(v3_1:Int)(s:Unit):Option ((Unit)⊕((Unit)⊕Int)):=
 (getI a0 v3_1).bind fun x4=>
if x4=0 then
 some (.inl ())
else
 some (.inr (.inr v3_1))
def F81_1_D(a0:List Int)(v3_1:Int)(s:Unit):Option ((Unit)⊕Int):=
 some (.inl ())
def F81(a0:List Int):Option Int:=
 (forR 0 (a0.length:Int) (F81_1_B a0) (F81_1_D a0) ()).bind fun t7=> match t7 with
  | .inl _=>
   some (-1)
  | .inr r8=> some r8
def I81_1(a0:List Int)(v3_1:Int)(s:Unit)(e:Env)(h:Heap):Prop:=
 ∃k2:Nat,h=⟨[],k2⟩∧e.length=16∧e.at 0=V.isl (a0.map Enc.enc)∧e.at 3=V.int .i64 v3_1
def P81_1(a0:List Int)(t:(Unit)⊕Int)(x:Ex)(e:Env)(h:Heap):Prop:=
 match t with
 | .inl _=> x= .normal∧∃k2:Nat,h=⟨[],k2⟩∧e.length=16
 | .inr r=> x= .ret∧Fin p81 (Enc.enc r) .ret e h
theorem l81_1(a0:List Int){lo:Int}{s:Unit}{t:(Unit)⊕Int}(hF:forR lo (a0.length:Int) (F81_1_B a0) (F81_1_D a0) s=some t){e:Env}{h:Heap}(hI:I81_1 a0 lo s e h):W A c81_1 e h (P81_1 a0 t):=by
 show W A (.block 0 (.loop false b81_1)) e h _;rw[W_block];refine W_forR hF 0 (by obtain⟨_,rfl,_⟩:=hI; rfl) (I81_1 a0) hI ?_ ?_
 ·rintro v3_1 _ e h ⟨k2,rfl,h_1⟩ hlt hw o ho
  unfold F81_1_B at ho;obtain⟨x4,gx4,ho⟩:=bS ho;obtain⟨w5a,w5b⟩:=getI_w gx4;by_cases c6:x4=0
  ·rw[if_pos c6]at ho
   cases ho;simp only[simprocAttr,R0,b81_1,h_1,eq_true hlt,hw,w5a,w5b,eq_true c6];refine And.intro rfl (Exists.intro _ (And.intro rfl ?_));simp only[simprocAttr,R0,h_1,eq_true hlt,hw,w5a,w5b,eq_true c6]
  ·rw[if_neg c6]at ho
   cases ho;simp only[simprocAttr,R0,b81_1,h_1,eq_true hlt,hw,w5a,w5b,eq_false c6];intro ht; subst ht;simp only[simprocAttr,RR,RB];exact And.intro rfl (fin_ret (by simp only[simprocAttr,R0,fn_out,p81,Rs.ev,take_len_self,h_1,eq_true hlt,hw,w5a,w5b,eq_false c6]))
 ·rintro v3_1 _ e h ⟨k2,rfl,h_1⟩ hge t1 ho
  unfold F81_1_D at ho;cases ho;simp only[simprocAttr,R0,b81_1,h_1,eq_false hge];intro ht; subst ht;refine And.intro rfl (Exists.intro _ (And.intro rfl ?_));simp only[simprocAttr,R0,h_1,eq_false hge]
theorem s81(a0:List Int){r:Int}(hF:F81 a0=some r):ans A 81 [V.isl (a0.map Enc.enc)]=some (Enc.enc r):=by
 refine ans_of (f:=p81) rfl rfl rfl fun e hl he=>?_;have h0_0:e.at 0=V.isl (a0.map Enc.enc):=he 0 _ rfl;have hl_0:e.length=16:=hl;clear he hl;have h_0:=And.intro hl_0 h0_0;show W A b81 e ⟨[],0⟩ _;unfold F81 at hF;obtain⟨t7,gt7,hF⟩:=bS hF;rcases t7 with _|r8
 ·dsimp only at hF
  simp only[simprocAttr,R0,b81,h_0];refine W.mono (l81_1 a0 gt7 (Exists.intro _ (And.intro rfl ?_))) ?_
  ·simp only[simprocAttr,R0,h_0]
  rintro _ e _ ⟨rfl,k2,rfl,hl_3⟩;cases hF;simp only[simprocAttr,R0,hl_3];exact fin_ret (by simp only[simprocAttr,R0,fn_out,p81,Rs.ev,take_len_self,hl_3])
 ·dsimp only at hF
  cases hF;simp only[simprocAttr,R0,b81,h_0];refine W.mono (l81_1 a0 gt7 (Exists.intro _ (And.intro rfl ?_))) ?_
  ·simp only[simprocAttr,R0,h_0]
  rintro _ e h ⟨rfl,hq⟩;simp only[simprocAttr,RR,RB];exact hq
def F39_1_B(a0:GComplex)(v3_1:Int)(s:Unit):Option ((Unit)⊕((Unit)⊕Bool)):=
 (getI a0.Dims v3_1).bind fun x10=>
(F54 x10 0 8).bind fun x12=>
if x12=true then
 some (.inl ())
else
 some (.inr (.inr false))
def F39_1_D(a0:GComplex)(v3_1:Int)(s:Unit):Option ((Unit)⊕Bool):=
 some (.inl ())
def F39_3_S(a0:GComplex)(v4_2:Int)(v5_3:Int):Option ((Int)⊕((Unit)⊕Bool)):=
 (getI a0.Maps v4_2).bind fun x29=>
if v5_3 < (x29.length:Int)then
 if 0 < v4_2 then
  (chk (v4_2 - 1)).bind fun x33=>
  (getI a0.Maps x33).bind fun x34=>
  (getI x29 v5_3).bind fun x36=>
  (getI a0.Dims x33).bind fun x38=>
  (F80 a0.Prime x34 x36 x38).bind fun x40=>
  (F81 x40).bind fun x42=>
  if 0≤x42 then
   some (.inr (.inr false))
  else
   (chk (v5_3+1)).bind fun x45=>
   some (.inl x45)
 else
  some (.inr (.inl ()))
else
 some (.inr (.inl ()))
def F39_2_B(a0:GComplex)(v4_2:Int)(s:Unit):Option ((Unit)⊕((Unit)⊕Bool)):=
 (getI a0.Maps v4_2).bind fun x18=>
(getI a0.Dims (v4_2+1)).bind fun x20=>
(getI a0.Dims v4_2).bind fun x22=>
(F79 a0.Prime x18 x20 x22).bind fun x24=>
if x24=true then
 (loopW (F39_3_S a0 v4_2) 0).bind fun t46=> match t46 with
  | .inl _=>
   some (.inl ())
  | .inr r47=> some (.inr (.inr r47))
else
 some (.inr (.inr false))
def F39_2_D(a0:GComplex)(v4_2:Int)(s:Unit):Option ((Unit)⊕Bool):=
 some (.inl ())
def F39(a0:GComplex):Option Bool:=
 (F78 a0.Prime).bind fun x1=>
 if x1=true then
  if(a0.Dims.length:Int) < 1 then
   some false
  else
   if 6 < (a0.Dims.length:Int)then
    some false
   else
    (chk ((a0.Dims.length:Int) - 1)).bind fun x5=>
    if(a0.Maps.length:Int)=x5 then
     (forR 0 (a0.Dims.length:Int) (F39_1_B a0) (F39_1_D a0) ()).bind fun t14=> match t14 with
      | .inl _=>
       (forR 0 (a0.Maps.length:Int) (F39_2_B a0) (F39_2_D a0) ()).bind fun t48=> match t48 with
        | .inl _=>
         some true
        | .inr r49=> some r49
      | .inr r50=> some r50
    else
     some false
 else
  some false
def I39_1(a0:GComplex)(v3_1:Int)(s:Unit)(e:Env)(h:Heap):Prop:=
 ∃k8:Nat,h=⟨[(0,none)],k8⟩∧e.length=112∧e.at 1=V.iptr [V.int .i64 a0.Prime,V.isl (a0.Dims.map Enc.enc),V.isl (a0.Maps.map Enc.enc)]∧e.at 3=V.int .i64 v3_1
def P39_1(a0:GComplex)(t:(Unit)⊕Bool)(x:Ex)(e:Env)(h:Heap):Prop:=
 match t with
 | .inl _=> x= .normal∧∃k8:Nat,h=⟨[(0,none)],k8⟩∧e.length=112∧e.at 1=V.iptr [V.int .i64 a0.Prime,V.isl (a0.Dims.map Enc.enc),V.isl (a0.Maps.map Enc.enc)]
 | .inr r=> x= .ret∧Fin p39 (Enc.enc r) .ret e h
theorem l39_1(a0:GComplex){lo:Int}{s:Unit}{t:(Unit)⊕Bool}(hF:forR lo (a0.Dims.length:Int) (F39_1_B a0) (F39_1_D a0) s=some t){e:Env}{h:Heap}(hI:I39_1 a0 lo s e h):W A c39_1 e h (P39_1 a0 t):=by
 show W A (.block 0 (.loop false b39_1)) e h _;rw[W_block];refine W_forR hF 1 (by obtain⟨_,rfl,_⟩:=hI; rfl) (I39_1 a0) hI ?_ ?_
 ·rintro v3_1 _ e h ⟨k8,rfl,h_7⟩ hlt hw o ho
  unfold F39_1_B at ho;obtain⟨x10,gx10,ho⟩:=bS ho;obtain⟨w11a,w11b⟩:=getI_w gx10;obtain⟨x12,gx12,ho⟩:=bS ho;have w13:ans A 54 [V.int .i64 x10,V.int .i64 0,V.int .i64 8]=some (V.bool x12):=s54 x10 0 8 gx12;cases x12 with
  |true=>
   rw[if_pos rfl]at ho;cases ho;simp only[simprocAttr,R0,b39_1,h_7,eq_true hlt,hw,w11a,w11b,w13];refine And.intro rfl (Exists.intro _ (And.intro rfl ?_));simp only[simprocAttr,R0,h_7,eq_true hlt,hw,w11a,w11b,w13]
  |false=>
   rw[if_neg Bool.false_ne_true]at ho;cases ho;simp only[simprocAttr,R0,b39_1,h_7,eq_true hlt,hw,w11a,w11b,w13];intro ht; subst ht;simp only[simprocAttr,RR,RB];exact And.intro rfl (fin_ret (by simp only[simprocAttr,R0,fn_out,p39,Rs.ev,take_len_self,h_7,eq_true hlt,hw,w11a,w11b,w13]))
 ·rintro v3_1 _ e h ⟨k8,rfl,h_7⟩ hge t1 ho
  unfold F39_1_D at ho;cases ho;simp only[simprocAttr,R0,b39_1,h_7,eq_false hge];intro ht; subst ht;refine And.intro rfl (Exists.intro _ (And.intro rfl ?_));simp only[simprocAttr,R0,h_7,eq_false hge]
def I39_3(a0:GComplex)(v4_2:Int)(v5_3:Int)(e:Env)(h:Heap):Prop:=
 ∃k27:Nat,h=⟨[(0,none)],k27⟩∧e.length=112∧e.at 1=V.iptr [V.int .i64 a0.Prime,V.isl (a0.Dims.map Enc.enc),V.isl (a0.Maps.map Enc.enc)]∧e.at 4=V.int .i64 v4_2∧e.at 5=V.int .i64 v5_3
def P39_3(a0:GComplex)(v4_2:Int)(t:(Unit)⊕Bool)(x:Ex)(e:Env)(h:Heap):Prop:=
 match t with
 | .inl _=> x= .normal∧∃k27:Nat,h=⟨[(0,none)],k27⟩∧e.length=112∧e.at 1=V.iptr [V.int .i64 a0.Prime,V.isl (a0.Dims.map Enc.enc),V.isl (a0.Maps.map Enc.enc)]∧e.at 4=V.int .i64 v4_2
 | .inr r=> x= .ret∧Fin p39 (Enc.enc r) .ret e h
theorem l39_3(a0:GComplex)(v4_2:Int){s:Int}{t:(Unit)⊕Bool}(hF:loopW (F39_3_S a0 v4_2) s=some t){e:Env}{h:Heap}(hI:I39_3 a0 v4_2 s e h):W A c39_3 e h (P39_3 a0 v4_2 t):=by
 show W A (.block 4 (.loop false b39_3)) e h _;rw[W_block];refine W_loop hF 1 (by obtain⟨_,rfl,_⟩:=hI; rfl) (I39_3 a0 v4_2) hI ?_
 ·rintro v5_3 e h ⟨k27,rfl,h_26⟩ o ho
  unfold F39_3_S at ho;obtain⟨x29,gx29,ho⟩:=bS ho;obtain⟨w30a,w30b⟩:=getI_w gx29;by_cases c31:v5_3 < (x29.length:Int)
  ·rw[if_pos c31]at ho
   by_cases c32:0 < v4_2
   ·rw[if_pos c32]at ho
    obtain⟨x33,gx33,ho⟩:=bS ho;have wx33:=chk_w gx33;obtain⟨x34,gx34,ho⟩:=bS ho;obtain⟨w35a,w35b⟩:=getI_w gx34;obtain⟨x36,gx36,ho⟩:=bS ho;obtain⟨w37a,w37b⟩:=getI_w gx36;obtain⟨x38,gx38,ho⟩:=bS ho;obtain⟨w39a,w39b⟩:=getI_w gx38;obtain⟨x40,gx40,ho⟩:=bS ho;have w41:ans A 80 [V.int .i64 a0.Prime,V.isl (x34.map Enc.enc),V.isl (x36.map Enc.enc),V.int .i64 x38]=some (V.isl (x40.map Enc.enc)):=s80 a0.Prime x34 x36 x38 gx40;obtain⟨x42,gx42,ho⟩:=bS ho;have w43:ans A 81 [V.isl (x40.map Enc.enc)]=some (V.int .i64 x42):=s81 x40 gx42;by_cases c44:0≤x42
    ·rw[if_pos c44]at ho
     cases ho;simp only[simprocAttr,R0,b39_3,h_26,w30a,w30b,eq_true c31,eq_true c32,wx33,w35a,w35b,w37a,w37b,w39a,w39b,w41,w43,eq_true c44];intro ht; subst ht;simp only[simprocAttr,RR,RB];exact And.intro rfl (fin_ret (by simp only[simprocAttr,R0,fn_out,p39,Rs.ev,take_len_self,h_26,w30a,w30b,eq_true c31,eq_true c32,wx33,w35a,w35b,w37a,w37b,w39a,w39b,w41,w43,eq_true c44]))
    ·rw[if_neg c44]at ho
     obtain⟨x45,gx45,ho⟩:=bS ho;have wx45:=chk_w gx45;cases ho;simp only[simprocAttr,R0,b39_3,h_26,w30a,w30b,eq_true c31,eq_true c32,wx33,w35a,w35b,w37a,w37b,w39a,w39b,w41,w43,eq_false c44,wx45];refine And.intro rfl (Exists.intro _ (And.intro rfl ?_));simp only[simprocAttr,R0,h_26,w30a,w30b,eq_true c31,eq_true c32,wx33,w35a,w35b,w37a,w37b,w39a,w39b,w41,w43,eq_false c44,wx45]
   ·rw[if_neg c32]at ho
    cases ho;simp only[simprocAttr,R0,b39_3,h_26,w30a,w30b,eq_true c31,eq_false c32];intro ht; subst ht;simp only[simprocAttr,RR,RB];refine And.intro rfl (Exists.intro _ (And.intro rfl ?_));simp only[simprocAttr,R0,h_26,w30a,w30b,eq_true c31,eq_false c32]
  ·rw[if_neg c31]at ho
   cases ho;simp only[simprocAttr,R0,b39_3,h_26,w30a,w30b,eq_false c31];intro ht; subst ht;simp only[simprocAttr,RR,RB];refine And.intro rfl (Exists.intro _ (And.intro rfl ?_));simp only[simprocAttr,R0,h_26,w30a,w30b,eq_false c31]
def I39_2(a0:GComplex)(v4_2:Int)(s:Unit)(e:Env)(h:Heap):Prop:=
 ∃k16:Nat,h=⟨[(0,none)],k16⟩∧e.length=112∧e.at 1=V.iptr [V.int .i64 a0.Prime,V.isl (a0.Dims.map Enc.enc),V.isl (a0.Maps.map Enc.enc)]∧e.at 4=V.int .i64 v4_2
def P39_2(a0:GComplex)(t:(Unit)⊕Bool)(x:Ex)(e:Env)(h:Heap):Prop:=
 match t with
 | .inl _=> x= .normal∧∃k16:Nat,h=⟨[(0,none)],k16⟩∧e.length=112
 | .inr r=> x= .ret∧Fin p39 (Enc.enc r) .ret e h
theorem l39_2(a0:GComplex){lo:Int}{s:Unit}{t:(Unit)⊕Bool}(hF:forR lo (a0.Maps.length:Int) (F39_2_B a0) (F39_2_D a0) s=some t){e:Env}{h:Heap}(hI:I39_2 a0 lo s e h):W A c39_2 e h (P39_2 a0 t):=by
 show W A (.block 2 (.loop false b39_2)) e h _;rw[W_block];refine W_forR hF 1 (by obtain⟨_,rfl,_⟩:=hI; rfl) (I39_2 a0) hI ?_ ?_
 ·rintro v4_2 _ e h ⟨k16,rfl,h_15⟩ hlt hw o ho
  unfold F39_2_B at ho;obtain⟨x18,gx18,ho⟩:=bS ho;obtain⟨w19a,w19b⟩:=getI_w gx18;obtain⟨x20,gx20,ho⟩:=bS ho;obtain⟨w21a,w21b⟩:=getI_w gx20;obtain⟨x22,gx22,ho⟩:=bS ho;obtain⟨w23a,w23b⟩:=getI_w gx22;obtain⟨x24,gx24,ho⟩:=bS ho;have w25:ans A 79 [V.int .i64 a0.Prime,V.isl (x18.map Enc.enc),V.int .i64 x20,V.int .i64 x22]=some (V.bool x24):=s79 a0.Prime x18 x20 x22 gx24;cases x24 with
  |true=>
   rw[if_pos rfl]at ho;obtain⟨t46,gt46,ho⟩:=bS ho;rcases t46 with _|r47
   ·dsimp only at ho
    simp only[simprocAttr,R0,b39_2,h_15,eq_true hlt,hw,w19a,w19b,w21a,w21b,w23a,w23b,w25];refine W.mono (l39_3 a0 v4_2 gt46 (Exists.intro _ (And.intro rfl ?_))) ?_
    ·simp only[simprocAttr,R0,h_15,eq_true hlt,hw,w19a,w19b,w21a,w21b,w23a,w23b,w25]
    rintro _ e _ ⟨rfl,k27,rfl,h_28⟩;cases ho;simp only[simprocAttr,R0,h_28,eq_true hlt,hw];refine And.intro rfl (Exists.intro _ (And.intro rfl ?_));simp only[simprocAttr,R0,h_28,eq_true hlt,hw]
   ·dsimp only at ho
    cases ho;simp only[simprocAttr,R0,b39_2,h_15,eq_true hlt,hw,w19a,w19b,w21a,w21b,w23a,w23b,w25];refine W.mono (l39_3 a0 v4_2 gt46 (Exists.intro _ (And.intro rfl ?_))) ?_
    ·simp only[simprocAttr,R0,h_15,eq_true hlt,hw,w19a,w19b,w21a,w21b,w23a,w23b,w25]
    rintro _ e h ⟨rfl,hq⟩;simp only[simprocAttr,RR,RB];intro ht; subst ht;simp only[simprocAttr,RR,RB];exact And.intro rfl hq
  |false=>
   rw[if_neg Bool.false_ne_true]at ho;cases ho;simp only[simprocAttr,R0,b39_2,h_15,eq_true hlt,hw,w19a,w19b,w21a,w21b,w23a,w23b,w25];intro ht; subst ht;simp only[simprocAttr,RR,RB];exact And.intro rfl (fin_ret (by simp only[simprocAttr,R0,fn_out,p39,Rs.ev,take_len_self,h_15,eq_true hlt,hw,w19a,w19b,w21a,w21b,w23a,w23b,w25]))
 ·rintro v4_2 _ e h ⟨k16,rfl,h_15⟩ hge t1 ho
  unfold F39_2_D at ho;cases ho;simp only[simprocAttr,R0,b39_2,h_15,eq_false hge];intro ht; subst ht;refine And.intro rfl (Exists.intro _ (And.intro rfl ?_));simp only[simprocAttr,R0,h_15,eq_false hge]
theorem s39(a0:GComplex){r:Bool}(hF:F39 a0=some r):ans A 39 [(eC a0)]=some (Enc.enc r):=by
 refine ans_of (f:=p39) rfl rfl rfl fun e hl he=>?_;have h0_0:e.at 0=(eC a0):=he 0 _ rfl;have hl_0:e.length=112:=hl;clear he hl;have h_0:=And.intro hl_0 h0_0;show W A b39 e ⟨[],0⟩ _;unfold F39 at hF;obtain⟨x1,gx1,hF⟩:=bS hF;have w2:ans A 78 [V.int .i64 a0.Prime]=some (V.bool x1):=s78 a0.Prime gx1;cases x1 with
 |true=>
  rw[if_pos rfl]at hF;by_cases c3:(a0.Dims.length:Int) < 1
  ·rw[if_pos c3]at hF
   cases hF;simp only[simprocAttr,R0,b39,h_0,w2,eq_true c3];exact fin_ret (by simp only[simprocAttr,R0,fn_out,p39,Rs.ev,take_len_self,h_0,w2,eq_true c3])
  ·rw[if_neg c3]at hF
   by_cases c4:6 < (a0.Dims.length:Int)
   ·rw[if_pos c4]at hF
    cases hF;simp only[simprocAttr,R0,b39,h_0,w2,eq_false c3,eq_true c4];exact fin_ret (by simp only[simprocAttr,R0,fn_out,p39,Rs.ev,take_len_self,h_0,w2,eq_false c3,eq_true c4])
   ·rw[if_neg c4]at hF
    obtain⟨x5,gx5,hF⟩:=bS hF;have wx5:=chk_w gx5;by_cases c6:(a0.Maps.length:Int)=x5
    ·rw[if_pos c6]at hF
     obtain⟨t14,gt14,hF⟩:=bS hF;rcases t14 with _|r50
     ·dsimp only at hF
      simp only[simprocAttr,R0,b39,h_0,w2,eq_false c3,eq_false c4,wx5,eq_true c6];refine W.mono (l39_1 a0 gt14 (Exists.intro _ (And.intro rfl ?_))) ?_
      ·simp only[simprocAttr,R0,h_0,w2,eq_false c3,eq_false c4,wx5,eq_true c6]
      rintro _ e _ ⟨rfl,k8,rfl,h_9⟩;obtain⟨t48,gt48,hF⟩:=bS hF;rcases t48 with _|r49
      ·dsimp only at hF
       simp only[simprocAttr,R0,h_9,eq_false c3,eq_false c4,eq_true c6];refine W.mono (l39_2 a0 gt48 (Exists.intro _ (And.intro rfl ?_))) ?_
       ·simp only[simprocAttr,R0,h_9,eq_false c3,eq_false c4,eq_true c6]
       rintro _ e _ ⟨rfl,k16,rfl,hl_17⟩;cases hF;simp only[simprocAttr,R0,hl_17,eq_false c3,eq_false c4,eq_true c6];exact fin_ret (by simp only[simprocAttr,R0,fn_out,p39,Rs.ev,take_len_self,hl_17,eq_false c3,eq_false c4,eq_true c6])
      ·dsimp only at hF
       cases hF;simp only[simprocAttr,R0,h_9,eq_false c3,eq_false c4,eq_true c6];refine W.mono (l39_2 a0 gt48 (Exists.intro _ (And.intro rfl ?_))) ?_
       ·simp only[simprocAttr,R0,h_9,eq_false c3,eq_false c4,eq_true c6]
       rintro _ e h ⟨rfl,hq⟩;simp only[simprocAttr,RR,RB];exact hq
     ·dsimp only at hF
      cases hF;simp only[simprocAttr,R0,b39,h_0,w2,eq_false c3,eq_false c4,wx5,eq_true c6];refine W.mono (l39_1 a0 gt14 (Exists.intro _ (And.intro rfl ?_))) ?_
      ·simp only[simprocAttr,R0,h_0,w2,eq_false c3,eq_false c4,wx5,eq_true c6]
      rintro _ e h ⟨rfl,hq⟩;simp only[simprocAttr,RR,RB];exact hq
    ·rw[if_neg c6]at hF
     cases hF;simp only[simprocAttr,R0,b39,h_0,w2,eq_false c3,eq_false c4,wx5,eq_false c6];exact fin_ret (by simp only[simprocAttr,R0,fn_out,p39,Rs.ev,take_len_self,h_0,w2,eq_false c3,eq_false c4,wx5,eq_false c6])
 |false=>
  rw[if_neg Bool.false_ne_true]at hF;cases hF;simp only[simprocAttr,R0,b39,h_0,w2];exact fin_ret (by simp only[simprocAttr,R0,fn_out,p39,Rs.ev,take_len_self,h_0,w2])
def F99(a0:GComplex)(a1:Int):Option Int:=
 (chk ((a0.Dims.length:Int) - 1)).bind fun x1=>
 (F54 a1 0 x1).bind fun x2=>
 if x2=true then
  (getI a0.Dims a1).bind fun x4=>
  some x4
 else
  some 0
theorem s99(a0:GComplex)(a1:Int){r:Int}(hF:F99 a0 a1=some r):ans A 99 [(eC a0),V.int .i64 a1]=some (Enc.enc r):=by
 refine ans_of (f:=p99) rfl rfl rfl fun e hl he=>?_;have h0_0:e.at 0=(eC a0):=he 0 _ rfl;have h1_0:e.at 1=V.int .i64 a1:=he 1 _ rfl;have hl_0:e.length=17:=hl;clear he hl;have h_0:=And.intro hl_0 (And.intro h0_0 h1_0);show W A b99 e ⟨[],0⟩ _;unfold F99 at hF;obtain⟨x1,gx1,hF⟩:=bS hF;have wx1:=chk_w gx1;obtain⟨x2,gx2,hF⟩:=bS hF;have w3:ans A 54 [V.int .i64 a1,V.int .i64 0,V.int .i64 x1]=some (V.bool x2):=s54 a1 0 x1 gx2;cases x2 with
 |true=>
  rw[if_pos rfl]at hF;obtain⟨x4,gx4,hF⟩:=bS hF;obtain⟨w5a,w5b⟩:=getI_w gx4;cases hF;simp only[simprocAttr,R0,b99,h_0,wx1,w3,w5a,w5b];exact fin_ret (by simp only[simprocAttr,R0,fn_out,p99,Rs.ev,take_len_self,h_0,wx1,w3,w5a,w5b])
 |false=>
  rw[if_neg Bool.false_ne_true]at hF;cases hF;simp only[simprocAttr,R0,b99,h_0,wx1,w3];exact fin_ret (by simp only[simprocAttr,R0,fn_out,p99,Rs.ev,take_len_self,h_0,wx1,w3])
def F76_1_S(a0:GComplex)(a1:Int)(s:(List (List Int))×Int):Option (((List (List Int))×Int)⊕((List (List Int)))):=
 match s with
 |(o1_1,v6_1)=>
  (F99 a0 a1).bind fun x11=>
  if v6_1 < x11 then
   (app 24 o1_1 ([([]:List Int)])).bind fun l15=>
   (chk (v6_1+1)).bind fun x16=>
   some (.inl (l15,x16))
  else
   some (.inr o1_1)
def F76(a0:GComplex)(a1:Int):Option (List (List Int)):=
 (chk ((a0.Dims.length:Int) - 1)).bind fun x1=>
 (F54 a1 1 x1).bind fun x2=>
 if x2=true then
  (chk (a1 - 1)).bind fun x4=>
  (getI a0.Maps x4).bind fun x5=>
  some x5
 else
  (loopW (F76_1_S a0 a1) ([],0)).bind fun zo1_1=>
  some zo1_1
def I76_1(a0:GComplex)(a1:Int)(s:(List (List Int))×Int)(e:Env)(h:Heap):Prop:=
 match s with
 |(o1_1,v6_1)=>
  ∃u8 k9:Nat,h=⟨[(0,none),(u8,some (o1_1.map Enc.enc))],k9⟩∧e.length=32∧e.at 1=V.int .i64 a1∧e.at 2=V.iptr [V.int .i64 a0.Prime,V.isl (a0.Dims.map Enc.enc),V.isl (a0.Maps.map Enc.enc)]∧e.at 5=V.sl 1 u8 0 o1_1.length 1∧e.at 6=V.int .i64 v6_1
def P76_1(a0:GComplex)(a1:Int)(zo1_1:(List (List Int)))(x:Ex)(e:Env)(h:Heap):Prop:=
 x= .normal∧∃u8 k9:Nat,h=⟨[(0,none),(u8,some (zo1_1.map Enc.enc))],k9⟩∧e.length=32∧e.at 5=V.sl 1 u8 0 zo1_1.length 1
theorem l76_1(a0:GComplex)(a1:Int){s:(List (List Int))×Int}{t:(List (List Int))}(hF:loopW (F76_1_S a0 a1) s=some t){e:Env}{h:Heap}(hI:I76_1 a0 a1 s e h):W A c76_1 e h (P76_1 a0 a1 t):=by
 show W A (.block 0 (.loop false b76_1)) e h _;rw[W_block];refine W_loop hF 2 (by rcases s with⟨_,_⟩; obtain⟨_,_,rfl,_⟩:=hI; rfl) (I76_1 a0 a1) hI ?_
 ·rintro⟨o1_1,v6_1⟩ e h ⟨u8,k9,rfl,h_7⟩ o ho
  unfold F76_1_S at ho;dsimp only at ho;obtain⟨x11,gx11,ho⟩:=bS ho;have w12:ans A 99 [(eC a0),V.int .i64 a1]=some (V.int .i64 x11):=s99 a0 a1 gx11;by_cases c13:v6_1 < x11
  ·rw[if_pos c13]at ho
   obtain⟨l15,gl15,ho⟩:=bS ho;have w14:=fun a b c d e=> appendV_w (α:=List Int) (n:=o1_1.length) (m:=1) (ds:=[V.isl []]) gl15 (by first|rfl|simp) (by first|rfl|simp) rfl a b c d e;have w14l:=app_len gl15;obtain⟨x16,gx16,ho⟩:=bS ho;have wx16:=chk_w gx16;cases ho;simp only[simprocAttr,R0,b76_1,h_7,w12,eq_true c13,w14,wx16];refine And.intro rfl (Exists.intro _ (Exists.intro _ (And.intro rfl ?_)));simp only[simprocAttr,R0,h_7,w12,eq_true c13,w14,wx16]
  ·rw[if_neg c13]at ho
   cases ho;simp only[simprocAttr,R0,b76_1,h_7,w12,eq_false c13];intro ht; subst ht;simp only[simprocAttr,RR,RB];refine And.intro rfl (Exists.intro _ (Exists.intro _ (And.intro rfl ?_)));simp only[simprocAttr,R0,h_7,w12,eq_false c13]
theorem s76(a0:GComplex)(a1:Int){r:List (List Int)}(hF:F76 a0 a1=some r):ans A 76 [(eC a0),V.int .i64 a1]=some (Enc.enc r):=by
 refine ans_of (f:=p76) rfl rfl rfl fun e hl he=>?_;have h0_0:e.at 0=(eC a0):=he 0 _ rfl;have h1_0:e.at 1=V.int .i64 a1:=he 1 _ rfl;have hl_0:e.length=32:=hl;clear he hl;show W A b76 e ⟨[],0⟩ _;unfold F76 at hF;obtain⟨x1,gx1,hF⟩:=bS hF;have wx1:=chk_w gx1;obtain⟨x2,gx2,hF⟩:=bS hF;have w3:ans A 54 [V.int .i64 a1,V.int .i64 1,V.int .i64 x1]=some (V.bool x2):=s54 a1 1 x1 gx2;cases x2 with
 |true=>
  rw[if_pos rfl]at hF;obtain⟨x4,gx4,hF⟩:=bS hF;have wx4:=chk_w gx4;obtain⟨x5,gx5,hF⟩:=bS hF;obtain⟨w6a,w6b⟩:=getI_w gx5;have hE:=Option.some.inj hF; subst hE;simp only[simprocAttr, -Int.reduceNatCast',R0,b76,hl_0,h0_0,h1_0,wx1,w3,wx4,w6a,w6b];exact fin_ret (by simp only[simprocAttr, -Int.reduceNatCast',R0,fn_out,p76,Rs.ev,take_len_self,hl_0,h0_0,h1_0,wx1,w3,wx4,w6a,w6b])
 |false=>
  rw[if_neg Bool.false_ne_true]at hF;obtain⟨zo1_1,gt17,hF⟩:=bS hF;simp only[simprocAttr, -Int.reduceNatCast',R0,b76,hl_0,h0_0,h1_0,wx1,w3];refine W.mono (l76_1 a0 a1 gt17 (Exists.intro _ (Exists.intro _ (And.intro rfl ?_)))) ?_
  ·simp only[simprocAttr, -Int.reduceNatCast',R0,hl_0,h0_0,h1_0,wx1,w3]
  rintro _ e _ ⟨rfl,u8,k9,rfl,hl_10,h5_10⟩;have hE:=Option.some.inj hF; subst hE;simp only[simprocAttr, -Int.reduceNatCast',R0,hl_10,h5_10];exact fin_ret (by simp only[simprocAttr, -Int.reduceNatCast',R0,fn_out,p76,Rs.ev,take_len_self,hl_10,h5_10,frzs (α:=List Int) zo1_1,takes (α:=List Int) zo1_1])
def F94(a0:List Int):Option (List Int):=
 (app 8 ([]:List Int) a0).bind fun l2=>
 some l2
theorem s94(a0:List Int){r:List Int}(hF:F94 a0=some r):ans A 94 [V.isl (a0.map Enc.enc)]=some (Enc.enc r):=by
 refine ans_of (f:=p94) rfl rfl rfl fun e hl he=>?_;have h0_0:e.at 0=V.isl (a0.map Enc.enc):=he 0 _ rfl;have hl_0:e.length=6:=hl;clear he hl;show W A b94 e ⟨[],0⟩ _;unfold F94 at hF;obtain⟨l2,gl2,hF⟩:=bS hF;have w1:=fun ents key uid clk he=> appendV_w (α:=Int) (n:=0) (m:=a0.length) (ds:=List.map Enc.enc a0) gl2 (by first|rfl|simp only[List.length_nil]) (by first|rfl|simp only[List.length_nil]) rfl ents key uid clk he;have w1l:=app_len gl2;have hE:=Option.some.inj hF; subst hE;simp only[simprocAttr, -Int.reduceNatCast',R0,b94,hl_0,h0_0,w1];exact fin_ret (by simp only[simprocAttr, -Int.reduceNatCast',R0,fn_out,p94,Rs.ev,take_len_self,hl_0,h0_0,w1,frzs (α:=Int) l2,takes (α:=Int) l2])
theorem t94(a0:List Int){r:List Int}(hF:F94 a0=some r):tans A 94 [1] [V.isl (a0.map Enc.enc)]=some (Enc.enc r):=by
 refine tans_of (f:=p94) rfl rfl rfl fun e hl he=>?_;have h0_0:e.at 0=V.isl (a0.map Enc.enc):=he 0 _ rfl;have hl_0:e.length=6:=hl;clear he hl;show W A b94 e ⟨[],0⟩ _;unfold F94 at hF;obtain⟨l2,gl2,hF⟩:=bS hF;have w1:=fun ents key uid clk he=> appendV_w (α:=Int) (n:=0) (m:=a0.length) (ds:=List.map Enc.enc a0) gl2 (by first|rfl|simp only[List.length_nil]) (by first|rfl|simp only[List.length_nil]) rfl ents key uid clk he;have w1l:=app_len gl2;have hE:=Option.some.inj hF; subst hE;simp only[simprocAttr, -Int.reduceNatCast',R0,b94,hl_0,h0_0,w1];exact tfin_ret (by simp only[simprocAttr, -Int.reduceNatCast',R0,fn_out,p94,Rs.ev,take_len_self,hl_0,h0_0,w1,frzs (α:=Int) l2,takes (α:=Int) l2])
def F127(a0:Int)(a1:Int):Option Int:=
 (remI a1 a0).bind fun x1=>
 (chk (x1+a0)).bind fun x3=>
 (remI x3 a0).bind fun x4=>
 some x4
theorem s127(a0:Int)(a1:Int){r:Int}(hF:F127 a0 a1=some r):ans A 127 [V.int .i64 a0,V.int .i64 a1]=some (Enc.enc r):=by
 refine ans_of (f:=p127) rfl rfl rfl fun e hl he=>?_;have h0_0:e.at 0=V.int .i64 a0:=he 0 _ rfl;have h1_0:e.at 1=V.int .i64 a1:=he 1 _ rfl;have hl_0:e.length=12:=hl;clear he hl;show W A b127 e ⟨[],0⟩ _;unfold F127 at hF;obtain⟨x1,gx1,hF⟩:=bS hF;obtain⟨w2a,w2b⟩:=rem_w gx1;obtain⟨x3,gx3,hF⟩:=bS hF;have wx3:=chk_w gx3;obtain⟨x4,gx4,hF⟩:=bS hF;obtain⟨w5a,w5b⟩:=rem_w gx4;cases hF;simp only[simprocAttr,R0,b127,hl_0,h0_0,h1_0,eq_false w2a,w2b,wx3,eq_false w5a,w5b];exact fin_ret (by simp only[simprocAttr,R0,fn_out,p127,Rs.ev,take_len_self,hl_0,h0_0,h1_0,eq_false w2a,w2b,wx3,eq_false w5a,w5b])
def F136_1_B(a0:Int)(a1:List Int)(a2:List Int)(a3:Int)(v10_1:Int)(o0_1:(List Int)):Option (((List Int))⊕((List Int))):=
 (getI a1 v10_1).bind fun x5=>
(getI a2 v10_1).bind fun x7=>
(chk (a3*x7)).bind fun x9=>
(chk (x5 - x9)).bind fun x10=>
(F127 a0 x10).bind fun x11=>
(app 8 o0_1 [x11]).bind fun l14=>
some (.inl l14)
def F136_1_D(a0:Int)(a1:List Int)(a2:List Int)(a3:Int)(v10_1:Int)(o0_1:(List Int)):Option ((List Int)):=
 some o0_1
def F136(a0:Int)(a1:List Int)(a2:List Int)(a3:Int):Option (List Int):=
 (forR 0 (a1.length:Int) (F136_1_B a0 a1 a2 a3) (F136_1_D a0 a1 a2 a3) ([]:(List Int))).bind fun zo0_1=>
 some zo0_1
def I136_1(a0:Int)(a1:List Int)(a2:List Int)(a3:Int)(v10_1:Int)(o0_1:(List Int))(e:Env)(h:Heap):Prop:=
 ∃u2 k3:Nat,h=⟨[(u2,some (o0_1.map Enc.enc))],k3⟩∧e.length=35∧e.at 0=V.int .i64 a0∧e.at 1=V.isl (a1.map Enc.enc)∧e.at 2=V.isl (a2.map Enc.enc)∧e.at 3=V.int .i64 a3∧e.at 9=V.sl 0 u2 0 o0_1.length 1∧e.at 10=V.int .i64 v10_1
def P136_1(a0:Int)(a1:List Int)(a2:List Int)(a3:Int)(zo0_1:(List Int))(x:Ex)(e:Env)(h:Heap):Prop:=
 x= .normal∧∃u2 k3:Nat,h=⟨[(u2,some (zo0_1.map Enc.enc))],k3⟩∧e.length=35∧e.at 9=V.sl 0 u2 0 zo0_1.length 1
theorem l136_1(a0:Int)(a1:List Int)(a2:List Int)(a3:Int){lo:Int}{s:(List Int)}{t:(List Int)}(hF:forR lo (a1.length:Int) (F136_1_B a0 a1 a2 a3) (F136_1_D a0 a1 a2 a3) s=some t){e:Env}{h:Heap}(hI:I136_1 a0 a1 a2 a3 lo s e h):W A c136_1 e h (P136_1 a0 a1 a2 a3 t):=by
 show W A (.block 0 (.loop false b136_1)) e h _;rw[W_block];refine W_forR hF 1 (by obtain⟨_,_,rfl,_⟩:=hI; rfl) (I136_1 a0 a1 a2 a3) hI ?_ ?_
 ·rintro v10_1 o0_1 e h ⟨u2,k3,rfl,h_1⟩ hlt hw o ho
  unfold F136_1_B at ho;obtain⟨x5,gx5,ho⟩:=bS ho;obtain⟨w6a,w6b⟩:=getI_w gx5;obtain⟨x7,gx7,ho⟩:=bS ho;obtain⟨w8a,w8b⟩:=getI_w gx7;obtain⟨x9,gx9,ho⟩:=bS ho;have wx9:=chk_w gx9;obtain⟨x10,gx10,ho⟩:=bS ho;have wx10:=chk_w gx10;obtain⟨x11,gx11,ho⟩:=bS ho;have w12:ans A 127 [V.int .i64 a0,V.int .i64 x10]=some (V.int .i64 x11):=s127 a0 x10 gx11;obtain⟨l14,gl14,ho⟩:=bS ho;have w13:=fun a b c d e=> appendV_w (α:=Int) (n:=o0_1.length) (m:=1) (ds:=[V.int .i64 x11]) gl14 (by first|rfl|simp) (by first|rfl|simp) rfl a b c d e;have w13l:=app_len gl14;cases ho;simp only[simprocAttr,R0,b136_1,h_1,eq_true hlt,hw,w6a,w6b,w8a,w8b,wx9,wx10,w12,w13];refine And.intro rfl (Exists.intro _ (Exists.intro _ (And.intro rfl ?_)));simp only[simprocAttr,R0,h_1,eq_true hlt,hw,w6a,w6b,w8a,w8b,wx9,wx10,w12,w13]
 ·rintro v10_1 o0_1 e h ⟨u2,k3,rfl,h_1⟩ hge t1 ho
  unfold F136_1_D at ho;cases ho;simp only[simprocAttr,R0,b136_1,h_1,eq_false hge];intro ht; subst ht;refine And.intro rfl (Exists.intro _ (Exists.intro _ (And.intro rfl ?_)));simp only[simprocAttr,R0,h_1,eq_false hge]
theorem t136(a0:Int)(a1:List Int)(a2:List Int)(a3:Int){r:List Int}(hF:F136 a0 a1 a2 a3=some r):tans A 136 [1] [V.int .i64 a0,V.isl (a1.map Enc.enc),V.isl (a2.map Enc.enc),V.int .i64 a3]=some (Enc.enc r):=by
 refine tans_of (f:=p136) rfl rfl rfl fun e hl he=>?_;have h0_0:e.at 0=V.int .i64 a0:=he 0 _ rfl;have h1_0:e.at 1=V.isl (a1.map Enc.enc):=he 1 _ rfl;have h2_0:e.at 2=V.isl (a2.map Enc.enc):=he 2 _ rfl;have h3_0:e.at 3=V.int .i64 a3:=he 3 _ rfl;have hl_0:e.length=35:=hl;clear he hl;show W A b136 e ⟨[],0⟩ _;unfold F136 at hF;obtain⟨zo0_1,gt15,hF⟩:=bS hF;simp only[simprocAttr, -Int.reduceNatCast',R0,b136,hl_0,h0_0,h1_0,h2_0,h3_0];refine W.mono (l136_1 a0 a1 a2 a3 gt15 (Exists.intro _ (Exists.intro _ (And.intro rfl ?_)))) ?_
 ·simp only[simprocAttr, -Int.reduceNatCast',R0,hl_0,h0_0,h1_0,h2_0,h3_0]
 rintro _ e _ ⟨rfl,u2,k3,rfl,hl_4,h9_4⟩;have hE:=Option.some.inj hF; subst hE;simp only[simprocAttr, -Int.reduceNatCast',R0,hl_4,h9_4];exact tfin_ret (by simp only[simprocAttr, -Int.reduceNatCast',R0,fn_out,p136,Rs.ev,take_len_self,hl_4,h9_4,frzs (α:=Int) zo0_1,takes (α:=Int) zo0_1])
def F134_1_B(a0:Int)(a1:List (List Int))(v8_1:Int)(v7_1:(List Int)):Option (((List Int))⊕((List Int))):=
 (getI a1 v8_1).bind fun x6=>
(F81 x6).bind fun x8=>
(getI v7_1 x8).bind fun x10=>
(F136 a0 v7_1 x6 x10).bind fun x12=>
some (.inl x12)
def F134_1_D(a0:Int)(a1:List (List Int))(v8_1:Int)(v7_1:(List Int)):Option ((List Int)):=
 some v7_1
def F134(a0:Int)(a1:List (List Int))(a2:List Int):Option (List Int):=
 (F94 a2).bind fun x1=>
 (forR 0 (a1.length:Int) (F134_1_B a0 a1) (F134_1_D a0 a1) x1).bind fun zv7_1=>
 some zv7_1
theorem d134(a0:Int)(a1:List (List Int))(a2:List Int){r:List Int}(hF:F134 a0 a1 a2=some r):∃v h',res A 134 [V.int .i64 a0,V.isl (a1.map Enc.enc),V.isl (a2.map Enc.enc)] Heap.empty=some (v,h')∧∃K,Deep.rep h' v r K:=by
 refine res_dp (f:=p134) rfl rfl rfl fun e hl he=>?_;have h0_0:e.at 0=V.int .i64 a0:=he 0 _ rfl;have h1_0:e.at 1=V.isl (a1.map Enc.enc):=he 1 _ rfl;have h2_0:e.at 2=V.isl (a2.map Enc.enc):=he 2 _ rfl;have hl_0:e.length=33:=hl;clear he hl;show W A b134 e ⟨[],0⟩ _;unfold F134 at hF;obtain⟨o,go,hF⟩:=bS hF;have wo:tans A 94 [1] [V.isl (a2.map Enc.enc)]=some (V.isl (o.map Enc.enc)):=t94 a2 go;obtain⟨t,gt,hF⟩:=bS hF;cases hF;simp only[simprocAttr,R1,b134,hl_0,h0_0,h1_0,h2_0,wo,callM_tans,thaw_one];show W A (.block 0 (.loop true b134_1)) _ _ _;rw[W_block];refine W_forR gt _ rfl (fun i q e h=>∃k u,h.ents[k]? =some (u,some (q.map Enc.enc))∧e.length=33∧e.at 0=V.int .i64 a0∧e.at 1=V.isl (a1.map Enc.enc)∧e.at 7=V.sl k u 0 q.length 1∧e.at 8=V.int .i64 i) ?_ ?_ ?_
 ·refine⟨0,0,rfl,?_⟩
  simp only[simprocAttr,R1,hl_0,h0_0,h1_0,h2_0]
 ·clear hl_0 h0_0 h1_0 h2_0
  rintro i q e ⟨E,c⟩ ⟨k,u,g1,h_1⟩ hlt hw s' ho;unfold F134_1_B at ho;simp only at g1;obtain⟨x6,gx6,ho⟩:=bS ho;obtain⟨x6a,x6b⟩:=getI_w gx6;obtain⟨x8,gx8,ho⟩:=bS ho;have w8:ans A 81 [V.isl (x6.map Enc.enc)]=some (V.int .i64 x8):=s81 x6 gx8;obtain⟨x10,gx10,ho⟩:=bS ho;obtain⟨x10a,x10b⟩:=getI_w gx10;have x10c:=getI_lt gx10;obtain⟨x12,gx12,ho⟩:=bS ho;have w12:tans A 136 [1] [V.int .i64 a0,V.isl (q.map Enc.enc),V.isl (x6.map Enc.enc),V.int .i64 x10]=some (V.isl (x12.map Enc.enc)):=t136 a0 q x6 x10 gx12;cases ho;have wfz:frz ⟨E,c⟩ 16 (V.sl k u 0 q.length 1)=some (V.isl (q.map Enc.enc)):=frz_row g1;have wbr:=bare_one (α:=Int) x12;have o10:ofCells none (List.drop x8.toNat (q.map Enc.enc))=some (V.int .i64 x10):=ofCells_drop (by rw[List.getElem?_map,x10b]; rfl);simp only[simprocAttr,R1,b134_1,h_1,eq_true hlt,hw,x6a,x6b,w8,x10a,eq_true x10c,g1,o10,wfz,w12,wbr,callM_tans,thaw_one];refine And.intro rfl ⟨_,_,get_last _ _,?_⟩;simp only[simprocAttr,R1,h_1,hw]
 ·clear hl_0 h0_0 h1_0 h2_0
  rintro i q e ⟨E,c⟩ ⟨k,u,g1,h_1⟩ hge t1 ho;unfold F134_1_D at ho;cases ho;simp only at g1;simp only[simprocAttr,R1,b134_1,h_1,eq_false hge];intro ht; subst ht;refine And.intro (fun _=> trivial) ⟨_,?_,fun x=> x=k,int_row (l:=q) g1 fun x=> Iff.rfl⟩;simp only[simprocAttr,R1,fn_out,p134,Rs.ev,h_1]
theorem t134(a0:Int)(a1:List (List Int))(a2:List Int){r:List Int}(hF:F134 a0 a1 a2=some r):tans A 134 [1] [V.int .i64 a0,V.isl (a1.map Enc.enc),V.isl (a2.map Enc.enc)]=some (Enc.enc r):=tans_of_deep (α:=List Int) (by decide) (d134 a0 a1 a2 hF)
theorem s134(a0:Int)(a1:List (List Int))(a2:List Int){r:List Int}(hF:F134 a0 a1 a2=some r):ans A 134 [V.int .i64 a0,V.isl (a1.map Enc.enc),V.isl (a2.map Enc.enc)]=some (Enc.enc r):=ans_of_deep (α:=List Int) (by decide) (d134 a0 a1 a2 hF)
def F135_1_B(a0:Int)(a1:Int)(v5_1:Int)(s:Unit):Option ((Unit)⊕((Unit)⊕Int)):=
 (F127 a0 a1).bind fun x4=>
(chk (v5_1*x4)).bind fun x6=>
(remI x6 a0).bind fun x7=>
if x7=1 then
 some (.inr (.inr v5_1))
else
 some (.inl ())
def F135_1_D(a0:Int)(a1:Int)(v5_1:Int)(s:Unit):Option ((Unit)⊕Int):=
 some (.inl ())
def F135(a0:Int)(a1:Int):Option Int:=
 (forR 1 a0 (F135_1_B a0 a1) (F135_1_D a0 a1) ()).bind fun t10=> match t10 with
  | .inl _=>
   some 0
  | .inr r11=> some r11
def I135_1(a0:Int)(a1:Int)(v5_1:Int)(s:Unit)(e:Env)(h:Heap):Prop:=
 ∃k2:Nat,h=⟨[],k2⟩∧e.length=20∧e.at 0=V.int .i64 a0∧e.at 1=V.int .i64 a1∧e.at 5=V.int .i64 v5_1
def P135_1(a0:Int)(a1:Int)(t:(Unit)⊕Int)(x:Ex)(e:Env)(h:Heap):Prop:=
 match t with
 | .inl _=> x= .normal∧∃k2:Nat,h=⟨[],k2⟩∧e.length=20
 | .inr r=> x= .ret∧Fin p135 (Enc.enc r) .ret e h
theorem l135_1(a0:Int)(a1:Int){lo:Int}{s:Unit}{t:(Unit)⊕Int}(hF:forR lo a0 (F135_1_B a0 a1) (F135_1_D a0 a1) s=some t){e:Env}{h:Heap}(hI:I135_1 a0 a1 lo s e h):W A c135_1 e h (P135_1 a0 a1 t):=by
 show W A (.block 0 (.loop false b135_1)) e h _;rw[W_block];refine W_forR hF 0 (by obtain⟨_,rfl,_⟩:=hI; rfl) (I135_1 a0 a1) hI ?_ ?_
 ·rintro v5_1 _ e h ⟨k2,rfl,h_1⟩ hlt hw o ho
  unfold F135_1_B at ho;obtain⟨x4,gx4,ho⟩:=bS ho;have w5:ans A 127 [V.int .i64 a0,V.int .i64 a1]=some (V.int .i64 x4):=s127 a0 a1 gx4;obtain⟨x6,gx6,ho⟩:=bS ho;have wx6:=chk_w gx6;obtain⟨x7,gx7,ho⟩:=bS ho;obtain⟨w8a,w8b⟩:=rem_w gx7;by_cases c9:x7=1
  ·rw[if_pos c9]at ho
   cases ho;simp only[simprocAttr,R0,b135_1,h_1,eq_true hlt,hw,w5,wx6,eq_false w8a,w8b,eq_true c9];intro ht; subst ht;simp only[simprocAttr,RR,RB];exact And.intro rfl (fin_ret (by simp only[simprocAttr,R0,fn_out,p135,Rs.ev,take_len_self,h_1,eq_true hlt,hw,w5,wx6,eq_false w8a,w8b,eq_true c9]))
  ·rw[if_neg c9]at ho
   cases ho;simp only[simprocAttr,R0,b135_1,h_1,eq_true hlt,hw,w5,wx6,eq_false w8a,w8b,eq_false c9];refine And.intro rfl (Exists.intro _ (And.intro rfl ?_));simp only[simprocAttr,R0,h_1,eq_true hlt,hw,w5,wx6,eq_false w8a,w8b,eq_false c9]
 ·rintro v5_1 _ e h ⟨k2,rfl,h_1⟩ hge t1 ho
  unfold F135_1_D at ho;cases ho;simp only[simprocAttr,R0,b135_1,h_1,eq_false hge];intro ht; subst ht;refine And.intro rfl (Exists.intro _ (And.intro rfl ?_));simp only[simprocAttr,R0,h_1,eq_false hge]
theorem s135(a0:Int)(a1:Int){r:Int}(hF:F135 a0 a1=some r):ans A 135 [V.int .i64 a0,V.int .i64 a1]=some (Enc.enc r):=by
 refine ans_of (f:=p135) rfl rfl rfl fun e hl he=>?_;have h0_0:e.at 0=V.int .i64 a0:=he 0 _ rfl;have h1_0:e.at 1=V.int .i64 a1:=he 1 _ rfl;have hl_0:e.length=20:=hl;clear he hl;have h_0:=And.intro hl_0 (And.intro h0_0 h1_0);show W A b135 e ⟨[],0⟩ _;unfold F135 at hF;obtain⟨t10,gt10,hF⟩:=bS hF;rcases t10 with _|r11
 ·dsimp only at hF
  simp only[simprocAttr,R0,b135,h_0];refine W.mono (l135_1 a0 a1 gt10 (Exists.intro _ (And.intro rfl ?_))) ?_
  ·simp only[simprocAttr,R0,h_0]
  rintro _ e _ ⟨rfl,k2,rfl,hl_3⟩;cases hF;simp only[simprocAttr,R0,hl_3];exact fin_ret (by simp only[simprocAttr,R0,fn_out,p135,Rs.ev,take_len_self,hl_3])
 ·dsimp only at hF
  cases hF;simp only[simprocAttr,R0,b135,h_0];refine W.mono (l135_1 a0 a1 gt10 (Exists.intro _ (And.intro rfl ?_))) ?_
  ·simp only[simprocAttr,R0,h_0]
  rintro _ e h ⟨rfl,hq⟩;simp only[simprocAttr,RR,RB];exact hq
def F131_2_B(p b:Int)(k:Int)(row:List Int):Option (List Int⊕List Int):=(getI row k).bind fun x=>(chk (x*b)).bind fun m=>(remI m p).bind fun z=>(setI row k z).bind fun r=> some (.inl r)
def F131_2_D(k:Int)(row:List Int):Option (List Int):=some row
def F131_3_C(out:List (List Int))(at_:Int)(k:Int)(put:Bool):Option Bool:=if put=true then some false else(getI out k).bind fun o=>(F81 o).bind fun ld=> some (decide (at_ < ld))
def F131_3_B(p:Int)(out:List (List Int))(own:List Int)(at_:Int)(k:Int)(s:List (List Int)×Bool):Option ((List (List Int)×Bool)⊕(List (List Int)×Bool)):=
 (F131_3_C out at_ k s.2).bind fun c=>(if c=true then(app 24 s.1 [own]).bind fun n=> some (n,true)else some s).bind fun s2=>
 (getI out k).bind fun o=>(getI o at_).bind fun y=>(F136 p o own y).bind fun q=>(app 24 s2.1 [q]).bind fun n=> some (.inl (n,s2.2))
def F131_3_D(k:Int)(s:List (List Int)×Bool):Option (List (List Int)×Bool):=some s
def F131_1_B(p:Int)(rows:List (List Int))(i:Int)(out:List (List Int)):Option (List (List Int)⊕List (List Int)):=
 (getI rows i).bind fun row=>(F134 p out row).bind fun own=>(F81 own).bind fun at_=> if at_ < 0 then some (.inl out)else
 (getI own at_).bind fun x=>(F135 p x).bind fun inv=>(forR 0 (own.length:Int) (F131_2_B p inv) F131_2_D own).bind fun own'=>
 (forR 0 (out.length:Int) (F131_3_B p out own' at_) F131_3_D ([],false)).bind fun s=> if s.2=true then some (.inl s.1)else(app 24 s.1 [own']).bind fun n=> some (.inl n)
def F131_1_D(i:Int)(out:List (List Int)):Option (List (List Int)):=some out
def F131(p:Int)(rows:List (List Int)):Option (List (List Int)):=forR 0 (rows.length:Int) (F131_1_B p rows) F131_1_D []
theorem d131(p:Int)(rows:List (List Int)){r:List (List Int)}(hF:F131 p rows=some r):∃v h',res A 131 [V.int .i64 p,V.isl (rows.map Enc.enc)] Heap.empty=some (v,h')∧
  ∃k u vs,v=V.sl k u 0 r.length 1∧h'.ents[k]? =some (u,some vs)∧Rws h'.ents (fun _=> True) vs r:=by
 refine res_dp (f:=p131) rfl rfl rfl fun e hl he=>?_;have h0_0:e.at 0=V.int .i64 p:=he 0 _ rfl;have h1_0:e.at 1=V.isl (rows.map Enc.enc):=he 1 _ rfl;have hl_0:e.length=102:=hl;clear he hl;show W A b131 e ⟨[],0⟩ _;unfold F131 at hF;simp only[simprocAttr, -Int.reduceNatCast',R1,b131,hl_0,h0_0,h1_0];show W A (.block 0 (.loop true b131_1)) _ _ _;rw[W_block];refine W_forR hF _ rfl (fun i out e h=>∃ko uo vs,h.ents[ko]? =some (uo,some vs)∧Rws h.ents (fun _=> True) vs out∧e.length=102∧e.at 0=V.int .i64 p∧e.at 1=V.isl (rows.map Enc.enc)∧e.at 5=V.sl ko uo 0 out.length 1∧e.at 6=V.int .i64 i) ?_ ?_ ?_
 ·refine⟨0,0,[],rfl,.nil,?_⟩
  simp only[simprocAttr, -Int.reduceNatCast',R1,hl_0,h0_0,h1_0]
 ·clear hl_0 h0_0 h1_0
  rintro i out e ⟨E,c⟩ ⟨ko,uo,vs,g1,g2,hl_1,h0_1,h1_1,h5_1,h6_1⟩ hlt hw s' ho;unfold F131_1_B at ho;simp only at g1 g2;have hko:ko < E.length:=(List.getElem?_eq_some_iff.1 g1).1;obtain⟨row,gr,ho⟩:=bS ho;obtain⟨ra,rb⟩:=getI_w gr;obtain⟨own,gown,ho⟩:=bS ho;have wown:tans A 134 [1] [V.int .i64 p,V.isl (out.map Enc.enc),V.isl (row.map Enc.enc)]=some (V.isl (own.map Enc.enc)):=t134 p out row gown;obtain⟨at_,gat,ho⟩:=bS ho;have wat:ans A 81 [V.isl (own.map Enc.enc)]=some (V.int .i64 at_):=s81 own gat;have wfo:=g2.fz c g1;have wbr:=bare_one (α:=Int) own;have wfr:∀z:List Int,∀c',frz ⟨E++[(c,some (z.map Enc.enc))],c'⟩ 16 (V.sl E.length c 0 z.length 1)=some (V.isl (z.map Enc.enc)):=fun z c'=> frz_row (get_last _ _);have wfr0:=wfr own;by_cases hat:at_ < 0
  ·rw[if_pos hat]at ho
   have hE:=Option.some.inj ho; subst hE;simp only[simprocAttr, -Int.reduceNatCast',R1,b131_1,hl_1,h0_1,h1_1,h5_1,h6_1,eq_true hlt,hw,ra,rb,wfo,wown,wbr,callM_tans,thaw_one,wfr0,wat,eq_true hat];refine And.intro rfl ⟨ko,uo,vs,(List.getElem?_append_left hko).trans g1,g2.frame fun k hk _=>⟨List.getElem?_append_left hk,trivial⟩,?_⟩;simp only[simprocAttr, -Int.reduceNatCast',R1,hl_1,h0_1,h1_1,h5_1,h6_1,hw]
  ·rw[if_neg hat]at ho
   obtain⟨x,gx,ho⟩:=bS ho;obtain⟨xa,xb⟩:=getI_w gx;have xc:=getI_lt gx;obtain⟨inv,ginv,ho⟩:=bS ho;have winv:ans A 135 [V.int .i64 p,V.int .i64 x]=some (V.int .i64 inv):=s135 p x ginv;obtain⟨own',gown',ho⟩:=bS ho;obtain⟨s,gs,ho⟩:=bS ho;have ox:ofCells none (List.drop at_.toNat (own.map Enc.enc))=some (V.int .i64 x):=ofCells_drop (by rw[List.getElem?_map,xb]; rfl);simp only[simprocAttr, -Int.reduceNatCast',R1,b131_1,hl_1,h0_1,h1_1,h5_1,h6_1,eq_true hlt,hw,ra,rb,wfo,wown,wbr,callM_tans,thaw_one,wfr0,wat,eq_false hat,xa,eq_true xc,get_last,ox,winv];show W A (.block 2 (.loop true b131_2)) _ _ _;rw[W_block];refine W_forR gown' _ rfl (fun k q e h=> q.length=own.length∧h=⟨E++[(c,some (q.map Enc.enc))],c+1⟩∧e.length=102∧e.at 0=V.int .i64 p∧e.at 1=V.isl (rows.map Enc.enc)∧e.at 5=V.sl ko uo 0 out.length 1∧e.at 6=V.int .i64 i∧e.at 7=V.sl E.length c 0 own.length 1∧e.at 8=V.int .i64 at_∧e.at 9=V.int .i64 inv∧e.at 10=V.int .i64 k) ?_ ?_ ?_
   ·refine⟨rfl,rfl,?_⟩
    simp only[simprocAttr, -Int.reduceNatCast',R1,hl_1,h0_1,h1_1,h5_1,h6_1]
   ·clear hl_1 h0_1 h1_1 h5_1 h6_1
    rintro k q e h ⟨hq,rfl,hl_1,h0_1,h1_1,h5_1,h6_1,h7_1,h8_1,h9_1,h10_1⟩ hlt2 hw2 s2 ho2;unfold F131_2_B at ho2;obtain⟨x3,gx3,ho2⟩:=bS ho2;obtain⟨x3a,x3b⟩:=getI_w gx3;obtain⟨m3,gm3,ho2⟩:=bS ho2;have wm3:=chk_w gm3;obtain⟨z3,gz3,ho2⟩:=bS ho2;obtain⟨wz30,wz3⟩:=rem_w gz3;obtain⟨q2,gq2,ho2⟩:=bS ho2;obtain⟨s31,s32,s33,s34,s35⟩:=setI_w gq2;have hE:=Option.some.inj ho2; subst hE;have o3:ofCells none (List.drop k.toNat (q.map Enc.enc))=some (V.int .i64 x3):=ofCells_drop (by rw[List.getElem?_map,x3b]; rfl);have hk3:k < (own.length:Int):=hlt2;have s35':List.take k.toNat (q.map Enc.enc)++[V.int .i64 z3]++List.drop (k.toNat+1) (q.map Enc.enc)=List.map Enc.enc q2:=s35;simp only[simprocAttr, -Int.reduceNatCast',R1,b131_2,hl_1,h0_1,h1_1,h5_1,h6_1,h7_1,h8_1,h9_1,h10_1,hw2,eq_true hlt2,get_last,set_last,x3a,o3,wm3,wz30,wz3,s33,s35'];refine And.intro rfl ⟨by omega,rfl,?_⟩;simp only[simprocAttr, -Int.reduceNatCast',R1,hl_1,h0_1,h1_1,h5_1,h6_1,h7_1,h8_1,h9_1,h10_1,hw2]
   ·clear hl_1 h0_1 h1_1 h5_1 h6_1
    rintro k q e h ⟨hq,rfl,hl_1,h0_1,h1_1,h5_1,h6_1,h7_1,h8_1,h9_1,h10_1⟩ hge2 t2 ho2;unfold F131_2_D at ho2;have hE:=Option.some.inj ho2; subst hE;simp only[simprocAttr, -Int.reduceNatCast',R1,b131_2,hl_1,h0_1,h1_1,h5_1,h6_1,h7_1,h8_1,h9_1,h10_1,eq_false hge2,le1];intro ht; subst ht;show W A (.block 4 (.loop true b131_3)) _ _ _;rw[W_block];refine W_forR gs _ rfl (fun k s e h=>∃un vn,h.ents[E.length+1]? =some (un,some vn)∧Rws h.ents (fun k=> k≠E.length+1) vn s.1∧h.ents[E.length]? =some (c,some (q.map Enc.enc))∧(∀k,k < E.length→h.ents[k]? =E[k]?)∧e.length=102∧e.at 0=V.int .i64 p∧e.at 1=V.isl (rows.map Enc.enc)∧e.at 5=V.sl ko uo 0 out.length 1∧e.at 6=V.int .i64 i∧e.at 7=V.sl E.length c 0 q.length 1∧e.at 8=V.int .i64 at_∧e.at 11=V.sl (E.length+1) un 0 s.1.length 1∧e.at 12=V.bool s.2∧e.at 13=V.int .i64 k) ?_ ?_ ?_
    ·refine⟨c+1,[],ge2b ..,.nil,ge2a ..,fun k hk=> by rw[List.append_assoc]; exact List.getElem?_append_left hk,?_⟩
     simp only[simprocAttr, -Int.reduceNatCast',R1,hl_1,h0_1,h1_1,h5_1,h6_1,h7_1,h8_1,h9_1,h10_1,hq]
    ·clear hl_1 h0_1 h1_1 h5_1 h6_1 h7_1 h8_1 h9_1 h10_1
     rintro k ⟨nx,put⟩ e ⟨E3,c3⟩ ⟨un,vn,f1,f2,f3,f4,hl_1,h0_1,h1_1,h5_1,h6_1,h7_1,h8_1,h11_1,h12_1,h13_1⟩ hlt3 hw3 s3 ho3;unfold F131_3_B at ho3;simp only at f1 f2 f3 f4 h11_1 h12_1 ho3;obtain⟨cnd,gcnd,ho3⟩:=bS ho3;obtain⟨st,gst,ho3⟩:=bS ho3;obtain⟨o,go,ho3⟩:=bS ho3;obtain⟨oa,ob⟩:=getI_w go;have oc:=getI_lt go;obtain⟨y,gy,ho3⟩:=bS ho3;obtain⟨ya,yb⟩:=getI_w gy;have yc:=getI_lt gy;obtain⟨qq,gqq,ho3⟩:=bS ho3;have wqq:tans A 136 [1] [V.int .i64 p,V.isl (o.map Enc.enc),V.isl (q.map Enc.enc),V.int .i64 y]=some (V.isl (qq.map Enc.enc)):=t136 p o q y gqq;have wbq:=bare_one (α:=Int) qq;obtain⟨nn,gnn,ho3⟩:=bS ho3;have hE:=Option.some.inj ho3; subst hE;have hN1:E.length+1 < E3.length:=(List.getElem?_eq_some_iff.1 f1).1;have k1:E3[ko]? =some (uo,some vs):=(f4 ko hko).trans g1;obtain⟨v,v1,v2⟩:=g2.get ob;have ov:=ofCells_drop v1;have oy:ofCells none (List.drop at_.toNat (o.map Enc.enc))=some (V.int .i64 y):=ofCells_drop (by rw[List.getElem?_map,yb]; rfl);have v3:RRep E3 (fun k=> k < E.length) v o:=v2.frame fun k hk _=>⟨f4 k hk,hk⟩
     -- in any memory that keeps the rows
     have step:∀ (E4:List (Nat×Option (List V))) (c4 un4:Nat) (vn4:List V),E4[E.length+1]? =some (un4,some vn4)→Rws E4 (fun k=> k≠E.length+1) vn4 st.1→E4[E.length]? =some (c,some (q.map Enc.enc))→(∀k,k < E.length→E4[k]? =E[k]?)→
       E4[ko]? =some (uo,some vs)∧frz ⟨E4,c4⟩ 16 v=some (V.isl (o.map Enc.enc))∧frz ⟨E4,c4⟩ 16 (V.sl E.length c 0 q.length 1)=some (V.isl (q.map Enc.enc))∧
       appendV 1 24 (.sl (E.length+1) un4 0 st.1.length 1) 1 [V.sl E4.length c4 0 qq.length 1] ⟨E4++[(c4,some (qq.map Enc.enc))]++[(c4+1,some [V.sl E4.length c4 0 qq.length 1])],c4+1+1⟩=some (.sl (E.length+1) (c4+1+1) 0 (st.1.length+1) 1,⟨(E4++[(c4,some (qq.map Enc.enc))]++[(c4+1,some [V.sl E4.length c4 0 qq.length 1])]).set (E.length+1) (c4+1+1,some (vn4++[V.sl E4.length c4 0 qq.length 1])),c4+1+1+1⟩)∧
       RRep E4 (fun k=> k < E.length) v o∧
       (((E4++[(c4,some (qq.map Enc.enc))]++[(c4+1,some [V.sl E4.length c4 0 qq.length 1])]).set (E.length+1) (c4+1+1,some (vn4++[V.sl E4.length c4 0 qq.length 1])))[E.length+1]? =some (c4+1+1,some (vn4++[V.sl E4.length c4 0 qq.length 1]))∧
       Rws ((E4++[(c4,some (qq.map Enc.enc))]++[(c4+1,some [V.sl E4.length c4 0 qq.length 1])]).set (E.length+1) (c4+1+1,some (vn4++[V.sl E4.length c4 0 qq.length 1]))) (fun k=> k≠E.length+1) (vn4++[V.sl E4.length c4 0 qq.length 1]) nn∧
       ((E4++[(c4,some (qq.map Enc.enc))]++[(c4+1,some [V.sl E4.length c4 0 qq.length 1])]).set (E.length+1) (c4+1+1,some (vn4++[V.sl E4.length c4 0 qq.length 1])))[E.length]? =some (c,some (q.map Enc.enc))∧
       (∀k,k < E.length→((E4++[(c4,some (qq.map Enc.enc))]++[(c4+1,some [V.sl E4.length c4 0 qq.length 1])]).set (E.length+1) (c4+1+1,some (vn4++[V.sl E4.length c4 0 qq.length 1])))[k]? =E[k]?)∧nn.length=st.1.length+1):=by
      intro E4 c4 un4 vn4 a1 a2 a3 a4;have hN4:E.length+1 < E4.length:=(List.getElem?_eq_some_iff.1 a1).1;obtain⟨p1,p2,rfl⟩:=app_w gnn;have pre:∀x y (k:Nat),k < E4.length→(E4++[x]++[y])[k]? =E4[k]?:=fun x y k hk=> by rw[List.append_assoc]; exact List.getElem?_append_left hk
      refine⟨(a4 ko hko).trans g1,(v2.frame (B':=fun _=> True) fun k hk _=>⟨a4 k hk,trivial⟩).fz c4 10,frz_row a3,appendV_deep (E:=E4++[(c4,some (qq.map Enc.enc))]++[(c4+1,some [V.sl E4.length c4 0 qq.length 1])]) ((pre _ _ _ hN4).trans a1) a2.len (by simpa using p1) (by simpa using p2),v2.frame fun k hk _=>⟨a4 k hk,hk⟩,set_app_key (by simp; omega),?_,?_,fun k hk=>?_,by simp⟩
      ·exact(a2.frame fun k hk hne=>⟨(set_ne hne).trans (pre _ _ k hk),hne⟩).snoc ⟨_,_,rfl,(set_ne (by omega)).trans (ge2a ..),by omega⟩
      ·exact(set_ne (by omega)).trans ((pre _ _ _ (by omega)).trans a3)
      ·exact(set_ne (by omega)).trans ((pre _ _ k (by omega)).trans (a4 k hk))
     have hoc:k < (out.length:Int):=oc;cases put with
     |true=>
      unfold F131_3_C at gcnd;rw[if_pos rfl]at gcnd;cases gcnd;rw[if_neg Bool.false_ne_true]at gst;cases gst;obtain⟨b1,b2,b3,b4,b5,b6,b7,b8,b9,b10⟩:=step E3 c3 un vn f1 f2 f3 f4;simp only at b4 b10;obtain⟨kv,uv,rfl,w2,w3⟩:=b5;simp only[simprocAttr, -Int.reduceNatCast',R1,b131_3,hl_1,h0_1,h1_1,h5_1,h6_1,h7_1,h8_1,h11_1,h12_1,h13_1,hw3,eq_true hlt3,oa,k1,ov,ya,eq_true yc,oy,w2,b2,b3,wqq,wbq,callM_tans,thaw_one,le1,get_last,ge2a,ge2b,b4];refine And.intro rfl ⟨_,_,b6,b7,b8,b9,?_⟩;simp only[simprocAttr, -Int.reduceNatCast',R1,hl_1,h0_1,h1_1,h5_1,h6_1,h7_1,h8_1,h11_1,h12_1,h13_1,hw3,b10]
     |false=>
      unfold F131_3_C at gcnd;rw[if_neg Bool.false_ne_true,go,Option.bind_some]at gcnd;obtain⟨ld,gld,gcnd⟩:=bS gcnd;have wld:ans A 81 [V.isl (o.map Enc.enc)]=some (V.int .i64 ld):=s81 o gld;have hE:=Option.some.inj gcnd; subst hE;have wfv:=(v2.frame (E':=E3) (B':=fun _=> True) fun k hk _=>⟨f4 k hk,trivial⟩).fz c3 10;by_cases hld:at_ < ld
      ·rw[if_pos (by simpa using hld)]at gst
       obtain⟨n1,gn1,gst⟩:=bS gst;obtain⟨p1,p2,rfl⟩:=app_w gn1;have hE:=Option.some.inj gst; subst hE;have wap:appendV 1 24 (.sl (E.length+1) un 0 nx.length 1) 1 [V.sl E.length c 0 q.length 1] ⟨E3++[(c3,some [V.sl E.length c 0 q.length 1])],c3+1⟩=_:=appendV_deep (E:=E3++[(c3,some [V.sl E.length c 0 q.length 1])]) (by rw[List.getElem?_append_left hN1]; exact f1) f2.len (by simpa using p1) (by simpa using p2);have r1:Rws ((E3++[(c3,some [V.sl E.length c 0 q.length 1])]).set (E.length+1) (c3+1,some (vn++[V.sl E.length c 0 q.length 1]))) (fun k=> k≠E.length+1) (vn++[V.sl E.length c 0 q.length 1]) (nx++[q]):=
        (f2.frame fun k hk hne=>⟨(set_ne hne).trans (List.getElem?_append_left hk),hne⟩).snoc ⟨_,_,rfl,(set_ne (by omega)).trans ((List.getElem?_append_left (by omega)).trans f3),by omega⟩
       have hln:(nx++[q]).length=nx.length+1:=by simp
       obtain⟨b1,b2,b3,b4,b5,b6,b7,b8,b9,b10⟩:=step ((E3++[(c3,some [V.sl E.length c 0 q.length 1])]).set (E.length+1) (c3+1,some (vn++[V.sl E.length c 0 q.length 1]))) (c3+1+1) (c3+1) (vn++[V.sl E.length c 0 q.length 1]) (set_app_key (by simp; omega)) r1 ((set_ne (by omega)).trans ((List.getElem?_append_left (by omega)).trans f3)) (fun k hk=>(set_ne (by omega)).trans ((List.getElem?_append_left (by omega)).trans (f4 k hk)));have hlb:((E3++[(c3,some [V.sl E.length c 0 q.length 1])]).set (E.length+1) (c3+1,some (vn++[V.sl E.length c 0 q.length 1]))).length=E3.length+1:=by simp
       have hge:=fun y z=> ge2b ((E3++[(c3,some [V.sl E.length c 0 q.length 1])]).set (E.length+1) (c3+1,some (vn++[V.sl E.length c 0 q.length 1]))) y z;simp only[hlb]at hge;simp only[hln,hlb]at b4 b6 b7 b8 b9 b10;obtain⟨kv,uv,rfl,w2,w3⟩:=b5;simp only[simprocAttr, -Int.reduceNatCast',R1,b131_3,hl_1,h0_1,h1_1,h5_1,h6_1,h7_1,h8_1,h11_1,h12_1,h13_1,hw3,eq_true hlt3,oa,k1,ov,wfv,wld,eq_true hld,ya,eq_true yc,oy,w2,b1,b2,b3,wap,wqq,wbq,callM_tans,thaw_one,le1,hlb,hge,get_last,ge2a,ge2b,b4];refine And.intro rfl ⟨_,_,b6,b7,b8,b9,?_⟩;simp only[simprocAttr, -Int.reduceNatCast',R1,hl_1,h0_1,h1_1,h5_1,h6_1,h7_1,h8_1,h11_1,h12_1,h13_1,hw3,b10]
      ·rw[if_neg (by simpa using hld)]at gst
       have hE:=Option.some.inj gst; subst hE;obtain⟨b1,b2,b3,b4,b5,b6,b7,b8,b9,b10⟩:=step E3 c3 un vn f1 f2 f3 f4;simp only at b4 b10;obtain⟨kv,uv,rfl,w2,w3⟩:=b5;simp only[simprocAttr, -Int.reduceNatCast',R1,b131_3,hl_1,h0_1,h1_1,h5_1,h6_1,h7_1,h8_1,h11_1,h12_1,h13_1,hw3,eq_true hlt3,oa,k1,ov,wfv,wld,eq_false hld,ya,eq_true yc,oy,w2,b2,b3,wqq,wbq,callM_tans,thaw_one,le1,get_last,ge2a,ge2b,b4];refine And.intro rfl ⟨_,_,b6,b7,b8,b9,?_⟩;simp only[simprocAttr, -Int.reduceNatCast',R1,hl_1,h0_1,h1_1,h5_1,h6_1,h7_1,h8_1,h11_1,h12_1,h13_1,hw3,b10]
    ·clear hl_1 h0_1 h1_1 h5_1 h6_1 h7_1 h8_1 h9_1 h10_1
     rintro k ⟨nx,put⟩ e ⟨E3,c3⟩ ⟨un,vn,f1,f2,f3,f4,hl_1,h0_1,h1_1,h5_1,h6_1,h7_1,h8_1,h11_1,h12_1,h13_1⟩ hge3 t3 ho3;unfold F131_3_D at ho3;have hE:=Option.some.inj ho3; subst hE;simp only at f1 f2 f3 f4 h11_1 h12_1;have hN1:E.length+1 < E3.length:=(List.getElem?_eq_some_iff.1 f1).1;cases put with
     |true=>
      simp only[simprocAttr, -Int.reduceNatCast',R1,b131_3,hl_1,h0_1,h1_1,h5_1,h6_1,h7_1,h8_1,h11_1,h12_1,h13_1,eq_false hge3,hw];intro ht; subst ht;simp only[if_true]at ho;have hE:=Option.some.inj ho; subst hE;refine And.intro rfl ⟨E.length+1,un,vn,f1,f2.frame fun k hk _=>⟨rfl,trivial⟩,?_⟩;simp only[simprocAttr, -Int.reduceNatCast',R1,hl_1,h0_1,h1_1,h5_1,h6_1,h7_1,h8_1,h11_1,h12_1,h13_1]
     |false=>
      simp only[simprocAttr, -Int.reduceNatCast',R1,b131_3,hl_1,h0_1,h1_1,h5_1,h6_1,h7_1,h8_1,h11_1,h12_1,h13_1,eq_false hge3,hw,le1,get_last];intro ht; subst ht;rw[if_neg Bool.false_ne_true]at ho;obtain⟨n1,gn1,ho⟩:=bS ho;obtain⟨p1,p2,rfl⟩:=app_w gn1;have hE:=Option.some.inj ho; subst hE;have wap:appendV 1 24 (.sl (E.length+1) un 0 nx.length 1) 1 [V.sl E.length c 0 q.length 1] ⟨E3++[(c3,some [V.sl E.length c 0 q.length 1])],c3+1⟩=_:=appendV_deep (E:=E3++[(c3,some [V.sl E.length c 0 q.length 1])]) (by rw[List.getElem?_append_left hN1]; exact f1) f2.len (by simpa using p1) (by simpa using p2);have r1:Rws ((E3++[(c3,some [V.sl E.length c 0 q.length 1])]).set (E.length+1) (c3+1,some (vn++[V.sl E.length c 0 q.length 1]))) (fun k=> k≠E.length+1) (vn++[V.sl E.length c 0 q.length 1]) (nx++[q]):=
       (f2.frame fun k hk hne=>⟨(set_ne hne).trans (List.getElem?_append_left hk),hne⟩).snoc ⟨_,_,rfl,(set_ne (by omega)).trans ((List.getElem?_append_left (by omega)).trans f3),by omega⟩
      simp only[simprocAttr, -Int.reduceNatCast',R1,b131_3,hl_1,h0_1,h1_1,h5_1,h6_1,h7_1,h8_1,h11_1,h12_1,h13_1,eq_false hge3,hw,le1,get_last,wap];refine And.intro rfl ⟨E.length+1,c3+1,_,set_app_key (by simp; omega),r1.frame fun k hk _=>⟨rfl,trivial⟩,?_⟩;simp only[simprocAttr, -Int.reduceNatCast',R1,hl_1,h0_1,h1_1,h5_1,h6_1,h7_1,h8_1,h11_1,h12_1,h13_1,List.length_append]
 ·clear hl_0 h0_0 h1_0
  rintro i out e ⟨E,c⟩ ⟨ko,uo,vs,g1,g2,hl_1,h0_1,h1_1,h5_1,h6_1⟩ hge t1 ho;unfold F131_1_D at ho;have hE:=Option.some.inj ho; subst hE;simp only at g1 g2;simp only[simprocAttr, -Int.reduceNatCast',R1,b131_1,hl_1,h0_1,h1_1,h5_1,h6_1,eq_false hge];intro ht; subst ht;refine And.intro (fun _=> trivial) ⟨_,?_,ko,uo,vs,rfl,g1,g2⟩;simp only[simprocAttr, -Int.reduceNatCast',R1,fn_out,p131,Rs.ev,hl_1,h5_1]
theorem s131(p:Int)(rows:List (List Int)){r:List (List Int)}(hF:F131 p rows=some r):ans A 131 [V.int .i64 p,V.isl (rows.map Enc.enc)]=some (Enc.enc r):=by
 obtain⟨_,h',h1,k,u,vs,rfl,h2,h3⟩:=d131 p rows hF;have:=h3.fz h'.clk h2;unfold ans;rw[h1];exact this
def F122_1_B(a0:Int)(a1:Int)(a2:List (List Int))(v9_1:Int)(s:(List (List Int))×Int):Option (((List (List Int))×Int)⊕((List (List Int))×Int)):=
 match s with
 |(o0_1,v8_1)=>
  (mkL 8 a1 0).bind fun l5=>
  (getI l5 v9_1).bind fun x7=>
  (setI l5 v9_1 1).bind fun l9=>
  (getI a2 v9_1).bind fun x11=>
  (F94 x11).bind fun x13=>
  (app 8 x13 l9).bind fun l16=>
  (app 24 o0_1 [l16]).bind fun l18=>
  some (.inl (l18,(x11.length:Int)))
def F122_1_D(a0:Int)(a1:Int)(a2:List (List Int))(v9_1:Int)(s:(List (List Int))×Int):Option ((List (List Int))×Int):=
 match s with
 |(o0_1,v8_1)=>
  some (o0_1,v8_1)
def F122_2_B(zv8_1:Int)(x20:List (List Int))(v13_2:Int)(o1_2:(List (List Int))):Option (((List (List Int)))⊕((List (List Int)))):=
 (getI x20 v13_2).bind fun x26=>
(F81 x26).bind fun x28=>
if zv8_1≤x28 then
 (slI x26 zv8_1 (x26.length:Int)).bind fun l31=>
 (F94 l31).bind fun x33=>
 (app 24 o1_2 [x33]).bind fun l36=>
 some (.inl l36)
else
 some (.inl o1_2)
def F122_2_D(zv8_1:Int)(x20:List (List Int))(v13_2:Int)(o1_2:(List (List Int))):Option ((List (List Int))):=
 some o1_2
def F122(a0:Int)(a1:Int)(a2:List (List Int)):Option (List (List Int)):=
 (forR 0 a1 (F122_1_B a0 a1 a2) (F122_1_D a0 a1 a2) ([],0)).bind fun t19=> match t19 with
  |(zo0_1,zv8_1)=>
   (F131 a0 zo0_1).bind fun x20=>
   (forR 0 (x20.length:Int) (F122_2_B zv8_1 x20) (F122_2_D zv8_1 x20) ([]:(List (List Int)))).bind fun zo1_2=>
   some zo1_2
def I122_1(a0:Int)(a1:Int)(a2:List (List Int))(v9_1:Int)(s:(List (List Int))×Int)(e:Env)(h:Heap):Prop:=
 match s with
 |(o0_1,v8_1)=>
  ∃u2 k3:Nat,h=⟨[(u2,some (o0_1.map Enc.enc))],k3⟩∧e.length=68∧e.at 0=V.int .i64 a0∧e.at 1=V.int .i64 a1∧e.at 2=V.isl (a2.map Enc.enc)∧e.at 7=V.sl 0 u2 0 o0_1.length 1∧e.at 8=V.int .i64 v8_1∧e.at 9=V.int .i64 v9_1
def P122_1(a0:Int)(a1:Int)(a2:List (List Int))(t:(List (List Int))×Int)(x:Ex)(e:Env)(h:Heap):Prop:=
 match t with
 |(zo0_1,zv8_1)=>
  x= .normal∧∃u2 k3:Nat,h=⟨[(u2,some (zo0_1.map Enc.enc))],k3⟩∧e.length=68∧e.at 0=V.int .i64 a0∧e.at 7=V.sl 0 u2 0 zo0_1.length 1∧e.at 8=V.int .i64 zv8_1
theorem l122_1(a0:Int)(a1:Int)(a2:List (List Int)){lo:Int}{s:(List (List Int))×Int}{t:(List (List Int))×Int}(hF:forR lo a1 (F122_1_B a0 a1 a2) (F122_1_D a0 a1 a2) s=some t){e:Env}{h:Heap}(hI:I122_1 a0 a1 a2 lo s e h):W A c122_1 e h (P122_1 a0 a1 a2 t):=by
 show W A (.block 0 (.loop false b122_1)) e h _;rw[W_block];refine W_forR hF 1 (by rcases s with⟨_,_⟩; obtain⟨_,_,rfl,_⟩:=hI; rfl) (I122_1 a0 a1 a2) hI ?_ ?_
 ·rintro v9_1 ⟨o0_1,v8_1⟩ e h ⟨u2,k3,rfl,h_1⟩ hlt hw o ho
  unfold F122_1_B at ho;dsimp only at ho;obtain⟨l5,gl5,ho⟩:=bS ho;obtain⟨w6a,w6b,w6c,w6d,w6e⟩:=mkL_w gl5;replace w6e:(List.replicate (Int.toNat a1) [V.int .i64 0]).flatten=List.map Enc.enc l5:=w6e;obtain⟨x7,gx7,ho⟩:=bS ho;obtain⟨w8a,w8b⟩:=getI_w gx7;have w8c:=getI_lt gx7;replace w8c:v9_1 < (((Int.toNat a1):Nat):Int):=by first|exact w8c|(simp only[w6d]at w8c ⊢; exact w8c)
  have w8d:List.drop (Int.toNat v9_1) (l5.map Enc.enc)=(V.int .i64 x7)::List.drop ((Int.toNat v9_1)+1) (l5.map Enc.enc):=drop_enc w8b;obtain⟨l9,gl9,ho⟩:=bS ho;obtain⟨w10a,w10b,w10c,w10d,w10e⟩:=setI_w gl9;replace w10e:List.take (Int.toNat v9_1) (l5.map Enc.enc)++[V.int .i64 1]++List.drop (Int.toNat v9_1+1) (l5.map Enc.enc)=List.map Enc.enc l9:=w10e;obtain⟨x11,gx11,ho⟩:=bS ho;obtain⟨w12a,w12b⟩:=getI_w gx11;obtain⟨x13,gx13,ho⟩:=bS ho;have w14:tans A 94 [1] [V.isl (x11.map Enc.enc)]=some (V.isl (x13.map Enc.enc)):=t94 x11 gx13;have w14t:=thaw_one (α:=Int) x13;obtain⟨l16,gl16,ho⟩:=bS ho;have w15:=fun a b c d e=> appendV_w (α:=Int) (n:=x13.length) (m:=(Int.toNat a1)) (ds:=List.map Enc.enc l9) gl16 (by first|rfl|simp only[w6d,w10d]) (by first|rfl|simp only[w6d,w10d]) rfl a b c d e;have w15l:=app_len gl16;obtain⟨l18,gl18,ho⟩:=bS ho;have w17:=fun a b c d e=> appendV_w (α:=List Int) (n:=o0_1.length) (m:=1) (ds:=[V.isl (l16.map Enc.enc)]) gl18 (by first|rfl|simp only[w6d,w10d]) (by first|rfl|simp only[w6d,w10d]) rfl a b c d e;have w17l:=app_len gl18;cases ho;simp only[simprocAttr, -Int.reduceNatCast',R0,b122_1,h_1,eq_true hlt,hw,w6a,w6b,w6c,w6e,w8a,w8b,w8c,w8d,w10a,w10b,w10c,w10e,w12a,w12b,w14,w14t,take_len (α:=Int) (l:=l9) (n:=(Int.toNat a1)) (by first|rfl|simp only[w6d,w10d]),eq_true (le_of_len (l:=l9) (n:=(Int.toNat a1)) (by first|rfl|simp only[w6d,w10d])),w15,takes (α:=Int) l16,w17];refine And.intro rfl (Exists.intro _ (Exists.intro _ (And.intro rfl ?_)));simp only[simprocAttr, -Int.reduceNatCast',R0,h_1,eq_true hlt,hw,w6a,w6b,w6c,w6e,w8a,w8b,w8c,w8d,w10a,w10b,w10c,w10e,w12a,w12b,w14,w14t,take_len (α:=Int) (l:=l9) (n:=(Int.toNat a1)) (by first|rfl|simp only[w6d,w10d]),eq_true (le_of_len (l:=l9) (n:=(Int.toNat a1)) (by first|rfl|simp only[w6d,w10d])),w15,takes (α:=Int) l16,w17,w6d,w10d]
 ·rintro v9_1 ⟨o0_1,v8_1⟩ e h ⟨u2,k3,rfl,h_1⟩ hge t1 ho
  unfold F122_1_D at ho;dsimp only at ho;cases ho;simp only[simprocAttr, -Int.reduceNatCast',R0,b122_1,h_1,eq_false hge];intro ht; subst ht;refine And.intro rfl (Exists.intro _ (Exists.intro _ (And.intro rfl ?_)));simp only[simprocAttr, -Int.reduceNatCast',R0,h_1,eq_false hge]
def I122_2(zv8_1:Int)(x20:List (List Int))(v13_2:Int)(o1_2:(List (List Int)))(e:Env)(h:Heap):Prop:=
 ∃u23 k24:Nat,h=⟨[(0,none),(u23,some (o1_2.map Enc.enc))],k24⟩∧e.length=68∧e.at 8=V.int .i64 zv8_1∧e.at 11=V.isl (x20.map Enc.enc)∧e.at 12=V.sl 1 u23 0 o1_2.length 1∧e.at 13=V.int .i64 v13_2
def P122_2(zv8_1:Int)(x20:List (List Int))(zo1_2:(List (List Int)))(x:Ex)(e:Env)(h:Heap):Prop:=
 x= .normal∧∃u23 k24:Nat,h=⟨[(0,none),(u23,some (zo1_2.map Enc.enc))],k24⟩∧e.length=68∧e.at 12=V.sl 1 u23 0 zo1_2.length 1
theorem l122_2(zv8_1:Int)(x20:List (List Int)){lo:Int}{s:(List (List Int))}{t:(List (List Int))}(hF:forR lo (x20.length:Int) (F122_2_B zv8_1 x20) (F122_2_D zv8_1 x20) s=some t){e:Env}{h:Heap}(hI:I122_2 zv8_1 x20 lo s e h):W A c122_2 e h (P122_2 zv8_1 x20 t):=by
 show W A (.block 2 (.loop false b122_2)) e h _;rw[W_block];refine W_forR hF 2 (by obtain⟨_,_,rfl,_⟩:=hI; rfl) (I122_2 zv8_1 x20) hI ?_ ?_
 ·rintro v13_2 o1_2 e h ⟨u23,k24,rfl,h_22⟩ hlt hw o ho
  unfold F122_2_B at ho;obtain⟨x26,gx26,ho⟩:=bS ho;obtain⟨w27a,w27b⟩:=getI_w gx26;obtain⟨x28,gx28,ho⟩:=bS ho;have w29:ans A 81 [V.isl (x26.map Enc.enc)]=some (V.int .i64 x28):=s81 x26 gx28;by_cases c30:zv8_1≤x28
  ·rw[if_pos c30]at ho
   obtain⟨l31,gl31,ho⟩:=bS ho;have w32:sliceV 1 (V.isl (x26.map Enc.enc)) (some (V.int .i64 zv8_1)) none=some (V.isl (l31.map Enc.enc)):=sliceV_w (α:=Int) One.one gl31 (.inr rfl) (.inl ⟨rfl,rfl⟩);obtain⟨x33,gx33,ho⟩:=bS ho;have w34:ans A 94 [V.isl (l31.map Enc.enc)]=some (V.isl (x33.map Enc.enc)):=s94 l31 gx33;obtain⟨l36,gl36,ho⟩:=bS ho;have w35:=fun a b c d e=> appendV_w (α:=List Int) (n:=o1_2.length) (m:=1) (ds:=[V.isl (x33.map Enc.enc)]) gl36 (by first|rfl|simp) (by first|rfl|simp) rfl a b c d e;have w35l:=app_len gl36;cases ho;simp only[simprocAttr,R0,b122_2,h_22,eq_true hlt,hw,w27a,w27b,w29,eq_true c30,w32,w34,w35];refine And.intro rfl (Exists.intro _ (Exists.intro _ (And.intro rfl ?_)));simp only[simprocAttr,R0,h_22,eq_true hlt,hw,w27a,w27b,w29,eq_true c30,w32,w34,w35]
  ·rw[if_neg c30]at ho
   cases ho;simp only[simprocAttr,R0,b122_2,h_22,eq_true hlt,hw,w27a,w27b,w29,eq_false c30];refine And.intro rfl (Exists.intro _ (Exists.intro _ (And.intro rfl ?_)));simp only[simprocAttr,R0,h_22,eq_true hlt,hw,w27a,w27b,w29,eq_false c30]
 ·rintro v13_2 o1_2 e h ⟨u23,k24,rfl,h_22⟩ hge t1 ho
  unfold F122_2_D at ho;cases ho;simp only[simprocAttr,R0,b122_2,h_22,eq_false hge];intro ht; subst ht;refine And.intro rfl (Exists.intro _ (Exists.intro _ (And.intro rfl ?_)));simp only[simprocAttr,R0,h_22,eq_false hge]
theorem s122(a0:Int)(a1:Int)(a2:List (List Int)){r:List (List Int)}(hF:F122 a0 a1 a2=some r):ans A 122 [V.int .i64 a0,V.int .i64 a1,V.isl (a2.map Enc.enc)]=some (Enc.enc r):=by
 refine ans_of (f:=p122) rfl rfl rfl fun e hl he=>?_;have h0_0:e.at 0=V.int .i64 a0:=he 0 _ rfl;have h1_0:e.at 1=V.int .i64 a1:=he 1 _ rfl;have h2_0:e.at 2=V.isl (a2.map Enc.enc):=he 2 _ rfl;have hl_0:e.length=68:=hl;clear he hl;show W A b122 e ⟨[],0⟩ _;unfold F122 at hF;obtain⟨⟨zo0_1,zv8_1⟩,gt19,hF⟩:=bS hF;dsimp only at hF;simp only[simprocAttr, -Int.reduceNatCast',R0,b122,hl_0,h0_0,h1_0,h2_0];refine W.mono (l122_1 a0 a1 a2 gt19 (Exists.intro _ (Exists.intro _ (And.intro rfl ?_)))) ?_
 ·simp only[simprocAttr, -Int.reduceNatCast',R0,hl_0,h0_0,h1_0,h2_0]
 rintro _ e _ ⟨rfl,u2,k3,rfl,hl_4,h0_4,h7_4,h8_4⟩;obtain⟨x20,gx20,hF⟩:=bS hF;have w21:ans A 131 [V.int .i64 a0,V.isl (zo0_1.map Enc.enc)]=some (V.isl (x20.map Enc.enc)):=s131 a0 zo0_1 gx20;obtain⟨zo1_2,gt37,hF⟩:=bS hF;simp only[simprocAttr, -Int.reduceNatCast',R0,hl_4,h0_4,h7_4,h8_4,takes (α:=List Int) zo0_1,w21];refine W.mono (l122_2 zv8_1 x20 gt37 (Exists.intro _ (Exists.intro _ (And.intro rfl ?_)))) ?_
 ·simp only[simprocAttr, -Int.reduceNatCast',R0,hl_4,h0_4,h7_4,h8_4,takes (α:=List Int) zo0_1,w21]
 rintro _ e _ ⟨rfl,u23,k24,rfl,hl_25,h12_25⟩;have hE:=Option.some.inj hF; subst hE;simp only[simprocAttr, -Int.reduceNatCast',R0,hl_25,h12_25];exact fin_ret (by simp only[simprocAttr, -Int.reduceNatCast',R0,fn_out,p122,Rs.ev,take_len_self,hl_25,h12_25,frzs (α:=List Int) zo1_2,takes (α:=List Int) zo1_2])
def F98(a0:GComplex)(a1:Int):Option (List (List Int)):=
 (F99 a0 a1).bind fun x1=>
 (F76 a0 a1).bind fun x3=>
 (F122 a0.Prime x1 x3).bind fun x5=>
 some x5
theorem s98(a0:GComplex)(a1:Int){r:List (List Int)}(hF:F98 a0 a1=some r):ans A 98 [(eC a0),V.int .i64 a1]=some (Enc.enc r):=by
 refine ans_of (f:=p98) rfl rfl rfl fun e hl he=>?_;have h0_0:e.at 0=(eC a0):=he 0 _ rfl;have h1_0:e.at 1=V.int .i64 a1:=he 1 _ rfl;have hl_0:e.length=14:=hl;clear he hl;show W A b98 e ⟨[],0⟩ _;unfold F98 at hF;obtain⟨x1,gx1,hF⟩:=bS hF;have w2:ans A 99 [(eC a0),V.int .i64 a1]=some (V.int .i64 x1):=s99 a0 a1 gx1;obtain⟨x3,gx3,hF⟩:=bS hF;have w4:ans A 76 [(eC a0),V.int .i64 a1]=some (V.isl (x3.map Enc.enc)):=s76 a0 a1 gx3;obtain⟨x5,gx5,hF⟩:=bS hF;have w6:ans A 122 [V.int .i64 a0.Prime,V.int .i64 x1,V.isl (x3.map Enc.enc)]=some (V.isl (x5.map Enc.enc)):=s122 a0.Prime x1 x3 gx5;cases hF;simp only[simprocAttr,R0,b98,hl_0,h0_0,h1_0,w2,w4,w6];exact fin_ret (by simp only[simprocAttr,R0,fn_out,p98,Rs.ev,take_len_self,hl_0,h0_0,h1_0,w2,w4,w6])
def F251(a0:GComplex)(a1:Int):Option (List (List Int)):=
 (chk (a1+1)).bind fun x1=>
 (F76 a0 x1).bind fun x2=>
 (F131 a0.Prime x2).bind fun x4=>
 some x4
theorem s251(a0:GComplex)(a1:Int){r:List (List Int)}(hF:F251 a0 a1=some r):ans A 251 [(eC a0),V.int .i64 a1]=some (Enc.enc r):=by
 refine ans_of (f:=p251) rfl rfl rfl fun e hl he=>?_;have h0_0:e.at 0=(eC a0):=he 0 _ rfl;have h1_0:e.at 1=V.int .i64 a1:=he 1 _ rfl;have hl_0:e.length=12:=hl;clear he hl;show W A b251 e ⟨[],0⟩ _;unfold F251 at hF;obtain⟨x1,gx1,hF⟩:=bS hF;have wx1:=chk_w gx1;obtain⟨x2,gx2,hF⟩:=bS hF;have w3:ans A 76 [(eC a0),V.int .i64 x1]=some (V.isl (x2.map Enc.enc)):=s76 a0 x1 gx2;obtain⟨x4,gx4,hF⟩:=bS hF;have w5:ans A 131 [V.int .i64 a0.Prime,V.isl (x2.map Enc.enc)]=some (V.isl (x4.map Enc.enc)):=s131 a0.Prime x2 gx4;cases hF;simp only[simprocAttr,R0,b251,hl_0,h0_0,h1_0,wx1,w3,w5];exact fin_ret (by simp only[simprocAttr,R0,fn_out,p251,Rs.ev,take_len_self,hl_0,h0_0,h1_0,wx1,w3,w5])
def F250_1_B(a0:GComplex)(x1:List (List Int))(x3:List (List Int))(v8_1:Int)(o1_1:(List (List Int))):Option (((List (List Int)))⊕((List (List Int)))):=
 (getI x1 v8_1).bind fun x9=>
(F134 a0.Prime x3 x9).bind fun x11=>
(app 24 o1_1 [x11]).bind fun l14=>
some (.inl l14)
def F250_1_D(a0:GComplex)(x1:List (List Int))(x3:List (List Int))(v8_1:Int)(o1_1:(List (List Int))):Option ((List (List Int))):=
 some o1_1
def F250(a0:GComplex)(a1:Int):Option (List (List Int)):=
 (F98 a0 a1).bind fun x1=>
 (F251 a0 a1).bind fun x3=>
 (forR 0 (x1.length:Int) (F250_1_B a0 x1 x3) (F250_1_D a0 x1 x3) ([]:(List (List Int)))).bind fun zo1_1=>
 (F131 a0.Prime zo1_1).bind fun x16=>
 some x16
def I250_1(a0:GComplex)(x1:List (List Int))(x3:List (List Int))(v8_1:Int)(o1_1:(List (List Int)))(e:Env)(h:Heap):Prop:=
 ∃u6 k7:Nat,h=⟨[(0,none),(u6,some (o1_1.map Enc.enc))],k7⟩∧e.length=37∧e.at 2=V.iptr [V.int .i64 a0.Prime,V.isl (a0.Dims.map Enc.enc),V.isl (a0.Maps.map Enc.enc)]∧e.at 5=V.isl (x1.map Enc.enc)∧e.at 6=V.isl (x3.map Enc.enc)∧e.at 7=V.sl 1 u6 0 o1_1.length 1∧e.at 8=V.int .i64 v8_1
def P250_1(a0:GComplex)(x1:List (List Int))(x3:List (List Int))(zo1_1:(List (List Int)))(x:Ex)(e:Env)(h:Heap):Prop:=
 x= .normal∧∃u6 k7:Nat,h=⟨[(0,none),(u6,some (zo1_1.map Enc.enc))],k7⟩∧e.length=37∧e.at 2=V.iptr [V.int .i64 a0.Prime,V.isl (a0.Dims.map Enc.enc),V.isl (a0.Maps.map Enc.enc)]∧e.at 7=V.sl 1 u6 0 zo1_1.length 1
theorem l250_1(a0:GComplex)(x1:List (List Int))(x3:List (List Int)){lo:Int}{s:(List (List Int))}{t:(List (List Int))}(hF:forR lo (x1.length:Int) (F250_1_B a0 x1 x3) (F250_1_D a0 x1 x3) s=some t){e:Env}{h:Heap}(hI:I250_1 a0 x1 x3 lo s e h):W A c250_1 e h (P250_1 a0 x1 x3 t):=by
 show W A (.block 0 (.loop false b250_1)) e h _;rw[W_block];refine W_forR hF 2 (by obtain⟨_,_,rfl,_⟩:=hI; rfl) (I250_1 a0 x1 x3) hI ?_ ?_
 ·rintro v8_1 o1_1 e h ⟨u6,k7,rfl,h_5⟩ hlt hw o ho
  unfold F250_1_B at ho;obtain⟨x9,gx9,ho⟩:=bS ho;obtain⟨w10a,w10b⟩:=getI_w gx9;obtain⟨x11,gx11,ho⟩:=bS ho;have w12:ans A 134 [V.int .i64 a0.Prime,V.isl (x3.map Enc.enc),V.isl (x9.map Enc.enc)]=some (V.isl (x11.map Enc.enc)):=s134 a0.Prime x3 x9 gx11;obtain⟨l14,gl14,ho⟩:=bS ho;have w13:=fun a b c d e=> appendV_w (α:=List Int) (n:=o1_1.length) (m:=1) (ds:=[V.isl (x11.map Enc.enc)]) gl14 (by first|rfl|simp) (by first|rfl|simp) rfl a b c d e;have w13l:=app_len gl14;cases ho;simp only[simprocAttr,R0,b250_1,h_5,eq_true hlt,hw,w10a,w10b,w12,w13];refine And.intro rfl (Exists.intro _ (Exists.intro _ (And.intro rfl ?_)));simp only[simprocAttr,R0,h_5,eq_true hlt,hw,w10a,w10b,w12,w13]
 ·rintro v8_1 o1_1 e h ⟨u6,k7,rfl,h_5⟩ hge t1 ho
  unfold F250_1_D at ho;cases ho;simp only[simprocAttr,R0,b250_1,h_5,eq_false hge];intro ht; subst ht;refine And.intro rfl (Exists.intro _ (Exists.intro _ (And.intro rfl ?_)));simp only[simprocAttr,R0,h_5,eq_false hge]
theorem s250(a0:GComplex)(a1:Int){r:List (List Int)}(hF:F250 a0 a1=some r):ans A 250 [(eC a0),V.int .i64 a1]=some (Enc.enc r):=by
 refine ans_of (f:=p250) rfl rfl rfl fun e hl he=>?_;have h0_0:e.at 0=(eC a0):=he 0 _ rfl;have h1_0:e.at 1=V.int .i64 a1:=he 1 _ rfl;have hl_0:e.length=37:=hl;clear he hl;show W A b250 e ⟨[],0⟩ _;unfold F250 at hF;obtain⟨x1,gx1,hF⟩:=bS hF;have w2:ans A 98 [(eC a0),V.int .i64 a1]=some (V.isl (x1.map Enc.enc)):=s98 a0 a1 gx1;obtain⟨x3,gx3,hF⟩:=bS hF;have w4:ans A 251 [(eC a0),V.int .i64 a1]=some (V.isl (x3.map Enc.enc)):=s251 a0 a1 gx3;obtain⟨zo1_1,gt15,hF⟩:=bS hF;simp only[simprocAttr,R0,b250,hl_0,h0_0,h1_0,w2,w4];refine W.mono (l250_1 a0 x1 x3 gt15 (Exists.intro _ (Exists.intro _ (And.intro rfl ?_)))) ?_
 ·simp only[simprocAttr,R0,hl_0,h0_0,h1_0,w2,w4]
 rintro _ e _ ⟨rfl,u6,k7,rfl,h_8⟩;obtain⟨x16,gx16,hF⟩:=bS hF;have w17:ans A 131 [V.int .i64 a0.Prime,V.isl (zo1_1.map Enc.enc)]=some (V.isl (x16.map Enc.enc)):=s131 a0.Prime zo1_1 gx16;cases hF;simp only[simprocAttr,R0,h_8,takes (α:=List Int) zo1_1,w17];exact fin_ret (by simp only[simprocAttr,R0,fn_out,p250,Rs.ev,take_len_self,h_8,takes (α:=List Int) zo1_1,w17])
def F272(a0:Int)(a1:Int):Option (List Int):=
 (mkL 8 a0 0).bind fun l1=>
 (getI l1 a1).bind fun x3=>
 (setI l1 a1 1).bind fun l5=>
 some l5
theorem s272(a0:Int)(a1:Int){r:List Int}(hF:F272 a0 a1=some r):ans A 272 [V.int .i64 a0,V.int .i64 a1]=some (Enc.enc r):=by
 refine ans_of (f:=p272) rfl rfl rfl fun e hl he=>?_;have h0_0:e.at 0=V.int .i64 a0:=he 0 _ rfl;have h1_0:e.at 1=V.int .i64 a1:=he 1 _ rfl;have hl_0:e.length=12:=hl;clear he hl;show W A b272 e ⟨[],0⟩ _;unfold F272 at hF;obtain⟨l1,gl1,hF⟩:=bS hF;obtain⟨w2a,w2b,w2c,w2d,w2e⟩:=mkL_w gl1;replace w2e:(List.replicate (Int.toNat a0) [V.int .i64 0]).flatten=List.map Enc.enc l1:=w2e;obtain⟨x3,gx3,hF⟩:=bS hF;obtain⟨w4a,w4b⟩:=getI_w gx3;have w4c:=getI_lt gx3;replace w4c:a1 < (((Int.toNat a0):Nat):Int):=by first|exact w4c|(simp only[w2d]at w4c ⊢; exact w4c)
 have w4d:List.drop (Int.toNat a1) (l1.map Enc.enc)=(V.int .i64 x3)::List.drop ((Int.toNat a1)+1) (l1.map Enc.enc):=drop_enc w4b;obtain⟨l5,gl5,hF⟩:=bS hF;obtain⟨w6a,w6b,w6c,w6d,w6e⟩:=setI_w gl5;replace w6e:List.take (Int.toNat a1) (l1.map Enc.enc)++[V.int .i64 1]++List.drop (Int.toNat a1+1) (l1.map Enc.enc)=List.map Enc.enc l5:=w6e;have hE:=Option.some.inj hF; subst hE;simp only[simprocAttr, -Int.reduceNatCast',R0,b272,hl_0,h0_0,h1_0,w2a,w2b,w2c,w2e,w4a,w4b,w4c,w4d,w6a,w6b,w6c,w6e];exact fin_ret (by simp only[simprocAttr, -Int.reduceNatCast',R0,fn_out,p272,Rs.ev,take_len_self,hl_0,h0_0,h1_0,w2a,w2b,w2c,w2e,w4a,w4b,w4c,w4d,w6a,w6b,w6c,w6e,frzs (α:=Int) l5,takes (α:=Int) l5,take_len (α:=Int) (l:=l5) (n:=(Int.toNat a0)) (by first|rfl|simp only[w2d,w6d]),w2d,w6d])
def F335_1_B(a0:Int)(a1:List Int)(a2:List Int)(v8_1:Int)(o0_1:(List Int)):Option (((List Int))⊕((List Int))):=
 (getI a1 v8_1).bind fun x5=>
(getI a2 v8_1).bind fun x7=>
(chk (x5 - x7)).bind fun x9=>
(F127 a0 x9).bind fun x10=>
(app 8 o0_1 [x10]).bind fun l13=>
some (.inl l13)
def F335_1_D(a0:Int)(a1:List Int)(a2:List Int)(v8_1:Int)(o0_1:(List Int)):Option ((List Int)):=
 some o0_1
def F335(a0:Int)(a1:List Int)(a2:List Int):Option (List Int):=
 (forR 0 (a1.length:Int) (F335_1_B a0 a1 a2) (F335_1_D a0 a1 a2) ([]:(List Int))).bind fun zo0_1=>
 some zo0_1
def I335_1(a0:Int)(a1:List Int)(a2:List Int)(v8_1:Int)(o0_1:(List Int))(e:Env)(h:Heap):Prop:=
 ∃u2 k3:Nat,h=⟨[(u2,some (o0_1.map Enc.enc))],k3⟩∧e.length=31∧e.at 0=V.int .i64 a0∧e.at 1=V.isl (a1.map Enc.enc)∧e.at 2=V.isl (a2.map Enc.enc)∧e.at 7=V.sl 0 u2 0 o0_1.length 1∧e.at 8=V.int .i64 v8_1
def P335_1(a0:Int)(a1:List Int)(a2:List Int)(zo0_1:(List Int))(x:Ex)(e:Env)(h:Heap):Prop:=
 x= .normal∧∃u2 k3:Nat,h=⟨[(u2,some (zo0_1.map Enc.enc))],k3⟩∧e.length=31∧e.at 7=V.sl 0 u2 0 zo0_1.length 1
theorem l335_1(a0:Int)(a1:List Int)(a2:List Int){lo:Int}{s:(List Int)}{t:(List Int)}(hF:forR lo (a1.length:Int) (F335_1_B a0 a1 a2) (F335_1_D a0 a1 a2) s=some t){e:Env}{h:Heap}(hI:I335_1 a0 a1 a2 lo s e h):W A c335_1 e h (P335_1 a0 a1 a2 t):=by
 show W A (.block 0 (.loop false b335_1)) e h _;rw[W_block];refine W_forR hF 1 (by obtain⟨_,_,rfl,_⟩:=hI; rfl) (I335_1 a0 a1 a2) hI ?_ ?_
 ·rintro v8_1 o0_1 e h ⟨u2,k3,rfl,h_1⟩ hlt hw o ho
  unfold F335_1_B at ho;obtain⟨x5,gx5,ho⟩:=bS ho;obtain⟨w6a,w6b⟩:=getI_w gx5;obtain⟨x7,gx7,ho⟩:=bS ho;obtain⟨w8a,w8b⟩:=getI_w gx7;obtain⟨x9,gx9,ho⟩:=bS ho;have wx9:=chk_w gx9;obtain⟨x10,gx10,ho⟩:=bS ho;have w11:ans A 127 [V.int .i64 a0,V.int .i64 x9]=some (V.int .i64 x10):=s127 a0 x9 gx10;obtain⟨l13,gl13,ho⟩:=bS ho;have w12:=fun a b c d e=> appendV_w (α:=Int) (n:=o0_1.length) (m:=1) (ds:=[V.int .i64 x10]) gl13 (by first|rfl|simp) (by first|rfl|simp) rfl a b c d e;have w12l:=app_len gl13;cases ho;simp only[simprocAttr,R0,b335_1,h_1,eq_true hlt,hw,w6a,w6b,w8a,w8b,wx9,w11,w12];refine And.intro rfl (Exists.intro _ (Exists.intro _ (And.intro rfl ?_)));simp only[simprocAttr,R0,h_1,eq_true hlt,hw,w6a,w6b,w8a,w8b,wx9,w11,w12]
 ·rintro v8_1 o0_1 e h ⟨u2,k3,rfl,h_1⟩ hge t1 ho
  unfold F335_1_D at ho;cases ho;simp only[simprocAttr,R0,b335_1,h_1,eq_false hge];intro ht; subst ht;refine And.intro rfl (Exists.intro _ (Exists.intro _ (And.intro rfl ?_)));simp only[simprocAttr,R0,h_1,eq_false hge]
theorem s335(a0:Int)(a1:List Int)(a2:List Int){r:List Int}(hF:F335 a0 a1 a2=some r):ans A 335 [V.int .i64 a0,V.isl (a1.map Enc.enc),V.isl (a2.map Enc.enc)]=some (Enc.enc r):=by
 refine ans_of (f:=p335) rfl rfl rfl fun e hl he=>?_;have h0_0:e.at 0=V.int .i64 a0:=he 0 _ rfl;have h1_0:e.at 1=V.isl (a1.map Enc.enc):=he 1 _ rfl;have h2_0:e.at 2=V.isl (a2.map Enc.enc):=he 2 _ rfl;have hl_0:e.length=31:=hl;clear he hl;show W A b335 e ⟨[],0⟩ _;unfold F335 at hF;obtain⟨zo0_1,gt14,hF⟩:=bS hF;simp only[simprocAttr, -Int.reduceNatCast',R0,b335,hl_0,h0_0,h1_0,h2_0];refine W.mono (l335_1 a0 a1 a2 gt14 (Exists.intro _ (Exists.intro _ (And.intro rfl ?_)))) ?_
 ·simp only[simprocAttr, -Int.reduceNatCast',R0,hl_0,h0_0,h1_0,h2_0]
 rintro _ e _ ⟨rfl,u2,k3,rfl,hl_4,h7_4⟩;have hE:=Option.some.inj hF; subst hE;simp only[simprocAttr, -Int.reduceNatCast',R0,hl_4,h7_4];exact fin_ret (by simp only[simprocAttr, -Int.reduceNatCast',R0,fn_out,p335,Rs.ev,take_len_self,hl_4,h7_4,frzs (α:=Int) zo0_1,takes (α:=Int) zo0_1])
def F333(a0:GComplex)(a1:Int)(a2:List Int):Option (List (List Int)):=
 (F98 a0 a1).bind fun x1=>
 (F134 a0.Prime x1 a2).bind fun x3=>
 (F335 a0.Prime a2 x3).bind fun x5=>
 (F251 a0 a1).bind fun x7=>
 (F134 a0.Prime x7 x5).bind fun x9=>
 (F335 a0.Prime x5 x9).bind fun x11=>
 some [x11,x9,x3]
theorem s333(a0:GComplex)(a1:Int)(a2:List Int){r:List (List Int)}(hF:F333 a0 a1 a2=some r):ans A 333 [(eC a0),V.int .i64 a1,V.isl (a2.map Enc.enc)]=some (Enc.enc r):=by
 refine ans_of (f:=p333) rfl rfl rfl fun e hl he=>?_;have h0_0:e.at 0=(eC a0):=he 0 _ rfl;have h1_0:e.at 1=V.int .i64 a1:=he 1 _ rfl;have h2_0:e.at 2=V.isl (a2.map Enc.enc):=he 2 _ rfl;have hl_0:e.length=37:=hl;clear he hl;show W A b333 e ⟨[],0⟩ _;unfold F333 at hF;obtain⟨x1,gx1,hF⟩:=bS hF;have w2:ans A 98 [(eC a0),V.int .i64 a1]=some (V.isl (x1.map Enc.enc)):=s98 a0 a1 gx1;obtain⟨x3,gx3,hF⟩:=bS hF;have w4:ans A 134 [V.int .i64 a0.Prime,V.isl (x1.map Enc.enc),V.isl (a2.map Enc.enc)]=some (V.isl (x3.map Enc.enc)):=s134 a0.Prime x1 a2 gx3;obtain⟨x5,gx5,hF⟩:=bS hF;have w6:ans A 335 [V.int .i64 a0.Prime,V.isl (a2.map Enc.enc),V.isl (x3.map Enc.enc)]=some (V.isl (x5.map Enc.enc)):=s335 a0.Prime a2 x3 gx5;obtain⟨x7,gx7,hF⟩:=bS hF;have w8:ans A 251 [(eC a0),V.int .i64 a1]=some (V.isl (x7.map Enc.enc)):=s251 a0 a1 gx7;obtain⟨x9,gx9,hF⟩:=bS hF;have w10:ans A 134 [V.int .i64 a0.Prime,V.isl (x7.map Enc.enc),V.isl (x5.map Enc.enc)]=some (V.isl (x9.map Enc.enc)):=s134 a0.Prime x7 x5 gx9;obtain⟨x11,gx11,hF⟩:=bS hF;have w12:ans A 335 [V.int .i64 a0.Prime,V.isl (x5.map Enc.enc),V.isl (x9.map Enc.enc)]=some (V.isl (x11.map Enc.enc)):=s335 a0.Prime x5 x9 gx11;cases hF;simp only[simprocAttr,R0,b333,hl_0,h0_0,h1_0,h2_0,w2,w4,w6,w8,w10,w12];exact fin_ret (by simp only[simprocAttr,R0,fn_out,p333,Rs.ev,take_len_self,hl_0,h0_0,h1_0,h2_0,w2,w4,w6,w8,w10,w12])
def F61_2_B(a0:GComplex)(a1:Int)(x1:List (List Int))(o1_1:List Int)(v7_1:Int)(v9_2:Int)(v8_2:Bool):Option ((Bool)⊕(Bool)):=
 if v8_2=true then
 some (.inl true)
else
 (getI x1 v9_2).bind fun x13=>
 (F81 x13).bind fun x15=>
 some (.inl (decide (x15=v7_1)))
def F61_2_D(a0:GComplex)(a1:Int)(x1:List (List Int))(o1_1:List Int)(v7_1:Int)(v9_2:Int)(v8_2:Bool):Option (Bool):=
 some v8_2
def F61_1_S(a0:GComplex)(a1:Int)(x1:List (List Int))(s:(List Int)×Int):Option (((List Int)×Int)⊕((List Int))):=
 match s with
 |(o1_1,v7_1)=>
  (F99 a0 a1).bind fun x7=>
  if v7_1 < x7 then
   (forR 0 (x1.length:Int) (F61_2_B a0 a1 x1 o1_1 v7_1) (F61_2_D a0 a1 x1 o1_1 v7_1) false).bind fun zv8_2=>
   if zv8_2=true then
    (chk (v7_1+1)).bind fun x18=>
    some (.inl (o1_1,x18))
   else
    (app 8 o1_1 [v7_1]).bind fun l20=>
    (chk (v7_1+1)).bind fun x21=>
    some (.inl (l20,x21))
  else
   some (.inr o1_1)
def F61(a0:GComplex)(a1:Int):Option (List Int):=
 (F98 a0 a1).bind fun x1=>
 (loopW (F61_1_S a0 a1 x1) ([],0)).bind fun zo1_1=>
 some zo1_1
def I61_2(a0:GComplex)(a1:Int)(x1:List (List Int))(o1_1:List Int)(v7_1:Int)(u4:Nat)(v9_2:Int)(v8_2:Bool)(e:Env)(h:Heap):Prop:=
 ∃k11:Nat,h=⟨[(0,none),(u4,some (o1_1.map Enc.enc))],k11⟩∧e.length=44∧e.at 1=V.int .i64 a1∧e.at 2=V.iptr [V.int .i64 a0.Prime,V.isl (a0.Dims.map Enc.enc),V.isl (a0.Maps.map Enc.enc)]∧e.at 5=V.isl (x1.map Enc.enc)∧e.at 6=V.sl 1 u4 0 o1_1.length 1∧e.at 7=V.int .i64 v7_1∧e.at 8=V.bool v8_2∧e.at 9=V.int .i64 v9_2
def P61_2(a0:GComplex)(a1:Int)(x1:List (List Int))(o1_1:List Int)(v7_1:Int)(u4:Nat)(zv8_2:Bool)(x:Ex)(e:Env)(h:Heap):Prop:=
 x= .normal∧∃k11:Nat,h=⟨[(0,none),(u4,some (o1_1.map Enc.enc))],k11⟩∧e.length=44∧e.at 1=V.int .i64 a1∧e.at 2=V.iptr [V.int .i64 a0.Prime,V.isl (a0.Dims.map Enc.enc),V.isl (a0.Maps.map Enc.enc)]∧e.at 5=V.isl (x1.map Enc.enc)∧e.at 6=V.sl 1 u4 0 o1_1.length 1∧e.at 7=V.int .i64 v7_1∧e.at 8=V.bool zv8_2
theorem l61_2(a0:GComplex)(a1:Int)(x1:List (List Int))(o1_1:List Int)(v7_1:Int)(u4:Nat){lo:Int}{s:Bool}{t:Bool}(hF:forR lo (x1.length:Int) (F61_2_B a0 a1 x1 o1_1 v7_1) (F61_2_D a0 a1 x1 o1_1 v7_1) s=some t){e:Env}{h:Heap}(hI:I61_2 a0 a1 x1 o1_1 v7_1 u4 lo s e h):W A c61_2 e h (P61_2 a0 a1 x1 o1_1 v7_1 u4 t):=by
 show W A (.block 2 (.loop false b61_2)) e h _;rw[W_block];refine W_forR hF 2 (by obtain⟨_,rfl,_⟩:=hI; rfl) (I61_2 a0 a1 x1 o1_1 v7_1 u4) hI ?_ ?_
 ·rintro v9_2 v8_2 e h ⟨k11,rfl,h_10⟩ hlt hw o ho
  unfold F61_2_B at ho;cases v8_2 with
  |true=>
   rw[if_pos rfl]at ho;cases ho;simp only[simprocAttr,R0,b61_2,h_10,eq_true hlt,hw];refine And.intro rfl (Exists.intro _ (And.intro rfl ?_));simp only[simprocAttr,R0,h_10,eq_true hlt,hw]
  |false=>
   rw[if_neg Bool.false_ne_true]at ho;obtain⟨x13,gx13,ho⟩:=bS ho;obtain⟨w14a,w14b⟩:=getI_w gx13;obtain⟨x15,gx15,ho⟩:=bS ho;have w16:ans A 81 [V.isl (x13.map Enc.enc)]=some (V.int .i64 x15):=s81 x13 gx15;cases ho;simp only[simprocAttr,R0,b61_2,h_10,eq_true hlt,hw,w14a,w14b,w16];refine And.intro rfl (Exists.intro _ (And.intro rfl ?_));simp only[simprocAttr,R0,h_10,eq_true hlt,hw,w14a,w14b,w16]
 ·rintro v9_2 v8_2 e h ⟨k11,rfl,h_10⟩ hge t1 ho
  unfold F61_2_D at ho;cases ho;simp only[simprocAttr,R0,b61_2,h_10,eq_false hge];intro ht; subst ht;refine And.intro rfl (Exists.intro _ (And.intro rfl ?_));simp only[simprocAttr,R0,h_10,eq_false hge]
def I61_1(a0:GComplex)(a1:Int)(x1:List (List Int))(s:(List Int)×Int)(e:Env)(h:Heap):Prop:=
 match s with
 |(o1_1,v7_1)=>
  ∃u4 k5:Nat,h=⟨[(0,none),(u4,some (o1_1.map Enc.enc))],k5⟩∧e.length=44∧e.at 1=V.int .i64 a1∧e.at 2=V.iptr [V.int .i64 a0.Prime,V.isl (a0.Dims.map Enc.enc),V.isl (a0.Maps.map Enc.enc)]∧e.at 5=V.isl (x1.map Enc.enc)∧e.at 6=V.sl 1 u4 0 o1_1.length 1∧e.at 7=V.int .i64 v7_1
def P61_1(a0:GComplex)(a1:Int)(x1:List (List Int))(zo1_1:(List Int))(x:Ex)(e:Env)(h:Heap):Prop:=
 x= .normal∧∃u4 k5:Nat,h=⟨[(0,none),(u4,some (zo1_1.map Enc.enc))],k5⟩∧e.length=44∧e.at 6=V.sl 1 u4 0 zo1_1.length 1
theorem l61_1(a0:GComplex)(a1:Int)(x1:List (List Int)){s:(List Int)×Int}{t:(List Int)}(hF:loopW (F61_1_S a0 a1 x1) s=some t){e:Env}{h:Heap}(hI:I61_1 a0 a1 x1 s e h):W A c61_1 e h (P61_1 a0 a1 x1 t):=by
 show W A (.block 0 (.loop false b61_1)) e h _;rw[W_block];refine W_loop hF 2 (by rcases s with⟨_,_⟩; obtain⟨_,_,rfl,_⟩:=hI; rfl) (I61_1 a0 a1 x1) hI ?_
 ·rintro⟨o1_1,v7_1⟩ e h ⟨u4,k5,rfl,h_3⟩ o ho
  unfold F61_1_S at ho;dsimp only at ho;obtain⟨x7,gx7,ho⟩:=bS ho;have w8:ans A 99 [(eC a0),V.int .i64 a1]=some (V.int .i64 x7):=s99 a0 a1 gx7;by_cases c9:v7_1 < x7
  ·rw[if_pos c9]at ho
   obtain⟨zv8_2,gt17,ho⟩:=bS ho;simp only[simprocAttr,R0,b61_1,h_3,w8,eq_true c9];refine W.mono (l61_2 a0 a1 x1 o1_1 v7_1 u4 gt17 (Exists.intro _ (And.intro rfl ?_))) ?_
   ·simp only[simprocAttr,R0,h_3,w8,eq_true c9]
   rintro _ e _ ⟨rfl,k11,rfl,h_12⟩;cases zv8_2 with
   |true=>
    rw[if_pos rfl]at ho;obtain⟨x18,gx18,ho⟩:=bS ho;have wx18:=chk_w gx18;cases ho;simp only[simprocAttr,R0,h_12,eq_true c9,wx18];refine And.intro rfl (Exists.intro _ (Exists.intro _ (And.intro rfl ?_)));simp only[simprocAttr,R0,h_12,eq_true c9,wx18]
   |false=>
    rw[if_neg Bool.false_ne_true]at ho;obtain⟨l20,gl20,ho⟩:=bS ho;have w19:=fun a b c d e=> appendV_w (α:=Int) (n:=o1_1.length) (m:=1) (ds:=[V.int .i64 v7_1]) gl20 (by first|rfl|simp) (by first|rfl|simp) rfl a b c d e;have w19l:=app_len gl20;obtain⟨x21,gx21,ho⟩:=bS ho;have wx21:=chk_w gx21;cases ho;simp only[simprocAttr,R0,h_12,eq_true c9,w19,wx21];refine And.intro rfl (Exists.intro _ (Exists.intro _ (And.intro rfl ?_)));simp only[simprocAttr,R0,h_12,eq_true c9,w19,wx21]
  ·rw[if_neg c9]at ho
   cases ho;simp only[simprocAttr,R0,b61_1,h_3,w8,eq_false c9];intro ht; subst ht;simp only[simprocAttr,RR,RB];refine And.intro rfl (Exists.intro _ (Exists.intro _ (And.intro rfl ?_)));simp only[simprocAttr,R0,h_3,w8,eq_false c9]
theorem s61(a0:GComplex)(a1:Int){r:List Int}(hF:F61 a0 a1=some r):ans A 61 [(eC a0),V.int .i64 a1]=some (Enc.enc r):=by
 refine ans_of (f:=p61) rfl rfl rfl fun e hl he=>?_;have h0_0:e.at 0=(eC a0):=he 0 _ rfl;have h1_0:e.at 1=V.int .i64 a1:=he 1 _ rfl;have hl_0:e.length=44:=hl;clear he hl;show W A b61 e ⟨[],0⟩ _;unfold F61 at hF;obtain⟨x1,gx1,hF⟩:=bS hF;have w2:ans A 98 [(eC a0),V.int .i64 a1]=some (V.isl (x1.map Enc.enc)):=s98 a0 a1 gx1;obtain⟨zo1_1,gt22,hF⟩:=bS hF;simp only[simprocAttr, -Int.reduceNatCast',R0,b61,hl_0,h0_0,h1_0,w2];refine W.mono (l61_1 a0 a1 x1 gt22 (Exists.intro _ (Exists.intro _ (And.intro rfl ?_)))) ?_
 ·simp only[simprocAttr, -Int.reduceNatCast',R0,hl_0,h0_0,h1_0,w2]
 rintro _ e _ ⟨rfl,u4,k5,rfl,hl_6,h6_6⟩;have hE:=Option.some.inj hF; subst hE;simp only[simprocAttr, -Int.reduceNatCast',R0,hl_6,h6_6];exact fin_ret (by simp only[simprocAttr, -Int.reduceNatCast',R0,fn_out,p61,Rs.ev,take_len_self,hl_6,h6_6,frzs (α:=Int) zo1_1,takes (α:=Int) zo1_1])
def F334_1_B(a0:GComplex)(a1:Int)(a2:List Int)(x2:List Int)(x4:Int)(l6:List Int)(v11_1:Int)(o2_1:(List (List Int))):Option (((List (List Int)))⊕((List (List Int)))):=
 (getI a0.Maps a1).bind fun x12=>
(getI x2 v11_1).bind fun x14=>
(getI x12 x14).bind fun x16=>
(F94 x16).bind fun x18=>
(F272 (x2.length:Int) v11_1).bind fun x20=>
(app 8 x18 x20).bind fun l23=>
(app 24 o2_1 [l23]).bind fun l25=>
some (.inl l25)
def F334_1_D(a0:GComplex)(a1:Int)(a2:List Int)(x2:List Int)(x4:Int)(l6:List Int)(v11_1:Int)(o2_1:(List (List Int))):Option ((List (List Int))):=
 some o2_1
def F334_2_B(a0:GComplex)(a2:List Int)(x2:List Int)(x33:List Int)(v13_2:Int)(o1_2:(List Int)):Option (((List Int))⊕((List Int))):=
 (getI x2 v13_2).bind fun x39=>
(chk ((a2.length:Int)+v13_2)).bind fun x41=>
(getI x33 x41).bind fun x42=>
(chk (0 - x42)).bind fun x44=>
(F127 a0.Prime x44).bind fun x45=>
(getI o1_2 x39).bind fun x47=>
(setI o1_2 x39 x45).bind fun l49=>
some (.inl l49)
def F334_2_D(a0:GComplex)(a2:List Int)(x2:List Int)(x33:List Int)(v13_2:Int)(o1_2:(List Int)):Option ((List Int)):=
 some o1_2
def F334(a0:GComplex)(a1:Int)(a2:List Int):Option (List Int):=
 (chk (a1+1)).bind fun x1=>
 (F61 a0 x1).bind fun x2=>
 (F99 a0 x1).bind fun x4=>
 (mkL 8 x4 0).bind fun l6=>
 (forR 0 (x2.length:Int) (F334_1_B a0 a1 a2 x2 x4 l6) (F334_1_D a0 a1 a2 x2 x4 l6) ([]:(List (List Int)))).bind fun zo2_1=>
 (F131 a0.Prime zo2_1).bind fun x27=>
 (F94 a2).bind fun x29=>
 (appZ 8 x29 (x2.length:Int) 0).bind fun l32=>
 (F134 a0.Prime x27 l32).bind fun x33=>
 (forR 0 (x2.length:Int) (F334_2_B a0 a2 x2 x33) (F334_2_D a0 a2 x2 x33) l6).bind fun zo1_2=>
 some zo1_2
def I334_1(a0:GComplex)(a1:Int)(a2:List Int)(x2:List Int)(x4:Int)(l6:List Int)(v11_1:Int)(o2_1:(List (List Int)))(e:Env)(h:Heap):Prop:=
 ∃u9 k10:Nat,h=⟨[(0,none),(1,some (l6.map Enc.enc)),(u9,some (o2_1.map Enc.enc))],k10⟩∧e.length=87∧e.at 1=V.int .i64 a1∧e.at 2=V.isl (a2.map Enc.enc)∧e.at 3=V.iptr [V.int .i64 a0.Prime,V.isl (a0.Dims.map Enc.enc),V.isl (a0.Maps.map Enc.enc)]∧e.at 7=V.isl (x2.map Enc.enc)∧e.at 8=V.sl 1 1 0 (Int.toNat x4) 1∧e.at 9=V.sl 2 u9 0 o2_1.length 1∧e.at 10=V.int .i64 (a2.length:Int)∧e.at 11=V.int .i64 v11_1
def P334_1(a0:GComplex)(a1:Int)(a2:List Int)(x2:List Int)(x4:Int)(l6:List Int)(zo2_1:(List (List Int)))(x:Ex)(e:Env)(h:Heap):Prop:=
 x= .normal∧∃u9 k10:Nat,h=⟨[(0,none),(1,some (l6.map Enc.enc)),(u9,some (zo2_1.map Enc.enc))],k10⟩∧e.length=87∧e.at 2=V.isl (a2.map Enc.enc)∧e.at 3=V.iptr [V.int .i64 a0.Prime,V.isl (a0.Dims.map Enc.enc),V.isl (a0.Maps.map Enc.enc)]∧e.at 7=V.isl (x2.map Enc.enc)∧e.at 8=V.sl 1 1 0 (Int.toNat x4) 1∧e.at 9=V.sl 2 u9 0 zo2_1.length 1∧e.at 10=V.int .i64 (a2.length:Int)
theorem l334_1(a0:GComplex)(a1:Int)(a2:List Int)(x2:List Int)(x4:Int)(l6:List Int){lo:Int}{s:(List (List Int))}{t:(List (List Int))}(hF:forR lo (x2.length:Int) (F334_1_B a0 a1 a2 x2 x4 l6) (F334_1_D a0 a1 a2 x2 x4 l6) s=some t){e:Env}{h:Heap}(hI:I334_1 a0 a1 a2 x2 x4 l6 lo s e h):W A c334_1 e h (P334_1 a0 a1 a2 x2 x4 l6 t):=by
 show W A (.block 0 (.loop false b334_1)) e h _;rw[W_block];refine W_forR hF 3 (by obtain⟨_,_,rfl,_⟩:=hI; rfl) (I334_1 a0 a1 a2 x2 x4 l6) hI ?_ ?_
 ·rintro v11_1 o2_1 e h ⟨u9,k10,rfl,h_8⟩ hlt hw o ho
  unfold F334_1_B at ho;obtain⟨x12,gx12,ho⟩:=bS ho;obtain⟨w13a,w13b⟩:=getI_w gx12;obtain⟨x14,gx14,ho⟩:=bS ho;obtain⟨w15a,w15b⟩:=getI_w gx14;obtain⟨x16,gx16,ho⟩:=bS ho;obtain⟨w17a,w17b⟩:=getI_w gx16;obtain⟨x18,gx18,ho⟩:=bS ho;have w19:tans A 94 [1] [V.isl (x16.map Enc.enc)]=some (V.isl (x18.map Enc.enc)):=t94 x16 gx18;have w19t:=thaw_one (α:=Int) x18;obtain⟨x20,gx20,ho⟩:=bS ho;have w21:ans A 272 [V.int .i64 (x2.length:Int),V.int .i64 v11_1]=some (V.isl (x20.map Enc.enc)):=s272 (x2.length:Int) v11_1 gx20;obtain⟨l23,gl23,ho⟩:=bS ho;have w22:=fun a b c d e=> appendV_w (α:=Int) (n:=x18.length) (m:=x20.length) (ds:=List.map Enc.enc x20) gl23 (by first|rfl|simp) (by first|rfl|simp) rfl a b c d e;have w22l:=app_len gl23;obtain⟨l25,gl25,ho⟩:=bS ho;have w24:=fun a b c d e=> appendV_w (α:=List Int) (n:=o2_1.length) (m:=1) (ds:=[V.isl (l23.map Enc.enc)]) gl25 (by first|rfl|simp) (by first|rfl|simp) rfl a b c d e;have w24l:=app_len gl25;cases ho;simp only[simprocAttr,R0,b334_1,h_8,eq_true hlt,hw,w13a,w13b,w15a,w15b,w17a,w17b,w19,w19t,w21,w22,takes (α:=Int) l23,w24];refine And.intro rfl (Exists.intro _ (Exists.intro _ (And.intro rfl ?_)));simp only[simprocAttr,R0,h_8,eq_true hlt,hw,w13a,w13b,w15a,w15b,w17a,w17b,w19,w19t,w21,w22,takes (α:=Int) l23,w24]
 ·rintro v11_1 o2_1 e h ⟨u9,k10,rfl,h_8⟩ hge t1 ho
  unfold F334_1_D at ho;cases ho;simp only[simprocAttr,R0,b334_1,h_8,eq_false hge];intro ht; subst ht;refine And.intro rfl (Exists.intro _ (Exists.intro _ (And.intro rfl ?_)));simp only[simprocAttr,R0,h_8,eq_false hge]
def I334_2(a0:GComplex)(a2:List Int)(x2:List Int)(x33:List Int)(v13_2:Int)(o1_2:(List Int))(e:Env)(h:Heap):Prop:=
 ∃u36 k37:Nat,h=⟨[(0,none),(u36,some (o1_2.map Enc.enc)),(0,none),(0,none)],k37⟩∧e.length=87∧e.at 3=V.iptr [V.int .i64 a0.Prime,V.isl (a0.Dims.map Enc.enc),V.isl (a0.Maps.map Enc.enc)]∧e.at 7=V.isl (x2.map Enc.enc)∧e.at 8=V.sl 1 u36 0 o1_2.length 1∧e.at 10=V.int .i64 (a2.length:Int)∧e.at 12=V.isl (x33.map Enc.enc)∧e.at 13=V.int .i64 v13_2
def P334_2(a0:GComplex)(a2:List Int)(x2:List Int)(x33:List Int)(zo1_2:(List Int))(x:Ex)(e:Env)(h:Heap):Prop:=
 x= .normal∧∃u36 k37:Nat,h=⟨[(0,none),(u36,some (zo1_2.map Enc.enc)),(0,none),(0,none)],k37⟩∧e.length=87∧e.at 8=V.sl 1 u36 0 zo1_2.length 1
theorem l334_2(a0:GComplex)(a2:List Int)(x2:List Int)(x33:List Int){lo:Int}{s:(List Int)}{t:(List Int)}(hF:forR lo (x2.length:Int) (F334_2_B a0 a2 x2 x33) (F334_2_D a0 a2 x2 x33) s=some t){e:Env}{h:Heap}(hI:I334_2 a0 a2 x2 x33 lo s e h):W A c334_2 e h (P334_2 a0 a2 x2 x33 t):=by
 show W A (.block 2 (.loop false b334_2)) e h _;rw[W_block];refine W_forR hF 4 (by obtain⟨_,_,rfl,_⟩:=hI; rfl) (I334_2 a0 a2 x2 x33) hI ?_ ?_
 ·rintro v13_2 o1_2 e h ⟨u36,k37,rfl,h_35⟩ hlt hw o ho
  unfold F334_2_B at ho;obtain⟨x39,gx39,ho⟩:=bS ho;obtain⟨w40a,w40b⟩:=getI_w gx39;obtain⟨x41,gx41,ho⟩:=bS ho;have wx41:=chk_w gx41;obtain⟨x42,gx42,ho⟩:=bS ho;obtain⟨w43a,w43b⟩:=getI_w gx42;obtain⟨x44,gx44,ho⟩:=bS ho;have wx44:=chk_w gx44;obtain⟨x45,gx45,ho⟩:=bS ho;have w46:ans A 127 [V.int .i64 a0.Prime,V.int .i64 x44]=some (V.int .i64 x45):=s127 a0.Prime x44 gx45;obtain⟨x47,gx47,ho⟩:=bS ho;obtain⟨w48a,w48b⟩:=getI_w gx47;have w48c:=getI_lt gx47;have w48d:List.drop (Int.toNat x39) (o1_2.map Enc.enc)=(V.int .i64 x47)::List.drop ((Int.toNat x39)+1) (o1_2.map Enc.enc):=drop_enc w48b;obtain⟨l49,gl49,ho⟩:=bS ho;obtain⟨w50a,w50b,w50c,w50d,w50e⟩:=setI_w gl49;replace w50e:List.take (Int.toNat x39) (o1_2.map Enc.enc)++[V.int .i64 x45]++List.drop (Int.toNat x39+1) (o1_2.map Enc.enc)=List.map Enc.enc l49:=w50e;cases ho;simp only[simprocAttr,R0,b334_2,h_35,eq_true hlt,hw,w40a,w40b,wx41,w43a,w43b,wx44,w46,w48a,w48b,w48c,w48d,w50a,w50b,w50c,w50e];refine And.intro rfl (Exists.intro _ (Exists.intro _ (And.intro rfl ?_)));simp only[simprocAttr,R0,h_35,eq_true hlt,hw,w40a,w40b,wx41,w43a,w43b,wx44,w46,w48a,w48b,w48c,w48d,w50a,w50b,w50c,w50e,w50d]
 ·rintro v13_2 o1_2 e h ⟨u36,k37,rfl,h_35⟩ hge t1 ho
  unfold F334_2_D at ho;cases ho;simp only[simprocAttr,R0,b334_2,h_35,eq_false hge];intro ht; subst ht;refine And.intro rfl (Exists.intro _ (Exists.intro _ (And.intro rfl ?_)));simp only[simprocAttr,R0,h_35,eq_false hge]
theorem s334(a0:GComplex)(a1:Int)(a2:List Int){r:List Int}(hF:F334 a0 a1 a2=some r):ans A 334 [(eC a0),V.int .i64 a1,V.isl (a2.map Enc.enc)]=some (Enc.enc r):=by
 refine ans_of (f:=p334) rfl rfl rfl fun e hl he=>?_;have h0_0:e.at 0=(eC a0):=he 0 _ rfl;have h1_0:e.at 1=V.int .i64 a1:=he 1 _ rfl;have h2_0:e.at 2=V.isl (a2.map Enc.enc):=he 2 _ rfl;have hl_0:e.length=87:=hl;clear he hl;show W A b334 e ⟨[],0⟩ _;unfold F334 at hF;obtain⟨x1,gx1,hF⟩:=bS hF;have wx1:=chk_w gx1;obtain⟨x2,gx2,hF⟩:=bS hF;have w3:ans A 61 [(eC a0),V.int .i64 x1]=some (V.isl (x2.map Enc.enc)):=s61 a0 x1 gx2;obtain⟨x4,gx4,hF⟩:=bS hF;have w5:ans A 99 [(eC a0),V.int .i64 x1]=some (V.int .i64 x4):=s99 a0 x1 gx4;obtain⟨l6,gl6,hF⟩:=bS hF;obtain⟨w7a,w7b,w7c,w7d,w7e⟩:=mkL_w gl6;replace w7e:(List.replicate (Int.toNat x4) [V.int .i64 0]).flatten=List.map Enc.enc l6:=w7e;obtain⟨zo2_1,gt26,hF⟩:=bS hF;simp only[simprocAttr, -Int.reduceNatCast',R0,b334,hl_0,h0_0,h1_0,h2_0,wx1,w3,w5,w7a,w7b,w7c,w7e];refine W.mono (l334_1 a0 a1 a2 x2 x4 l6 gt26 (Exists.intro _ (Exists.intro _ (And.intro rfl ?_)))) ?_
 ·simp only[simprocAttr, -Int.reduceNatCast',R0,hl_0,h0_0,h1_0,h2_0,wx1,w3,w5,w7a,w7b,w7c,w7e,w7d]
 rintro _ e _ ⟨rfl,u9,k10,rfl,hl_11,h2_11,h3_11,h7_11,h8_11,h9_11,h10_11⟩;obtain⟨x27,gx27,hF⟩:=bS hF;have w28:ans A 131 [V.int .i64 a0.Prime,V.isl (zo2_1.map Enc.enc)]=some (V.isl (x27.map Enc.enc)):=s131 a0.Prime zo2_1 gx27;obtain⟨x29,gx29,hF⟩:=bS hF;have w30:tans A 94 [1] [V.isl (a2.map Enc.enc)]=some (V.isl (x29.map Enc.enc)):=t94 a2 gx29;have w30t:=thaw_one (α:=Int) x29;obtain⟨l32,gl32,hF⟩:=bS hF;obtain⟨w31a,w31b,w31c,w31d,w31e,w31f⟩:=appZ_w gl32;replace w31f:List.map Enc.enc (List.replicate (Int.toNat (x2.length:Int)) (0:Int))=(List.replicate (Int.toNat (x2.length:Int)) [V.int .i64 0]).flatten:=w31f;have w31:=fun ents key uid clk he=> appendV_w (α:=Int) (n:=x29.length) (m:=(Int.toNat (x2.length:Int))) (ds:=(List.replicate (Int.toNat (x2.length:Int)) [V.int .i64 0]).flatten) w31d (by first|rfl|simp only[w7d]) w31e w31f ents key uid clk he;have w31l:=app_len w31d;obtain⟨x33,gx33,hF⟩:=bS hF;have w34:ans A 134 [V.int .i64 a0.Prime,V.isl (x27.map Enc.enc),V.isl (l32.map Enc.enc)]=some (V.isl (x33.map Enc.enc)):=s134 a0.Prime x27 l32 gx33;obtain⟨zo1_2,gt51,hF⟩:=bS hF;simp only[simprocAttr, -Int.reduceNatCast',R0,hl_11,h2_11,h3_11,h7_11,h8_11,h9_11,h10_11,takes (α:=List Int) zo2_1,w28,w30,w30t,w31a,w31b,w31c,w31,takes (α:=Int) l32,w34];refine W.mono (l334_2 a0 a2 x2 x33 gt51 (Exists.intro _ (Exists.intro _ (And.intro rfl ?_)))) ?_
 ·simp only[simprocAttr, -Int.reduceNatCast',R0,hl_11,h2_11,h3_11,h7_11,h8_11,h9_11,h10_11,takes (α:=List Int) zo2_1,w28,w30,w30t,w31a,w31b,w31c,w31,takes (α:=Int) l32,w34,w7d]
 rintro _ e _ ⟨rfl,u36,k37,rfl,hl_38,h8_38⟩;have hE:=Option.some.inj hF; subst hE;simp only[simprocAttr, -Int.reduceNatCast',R0,hl_38,h8_38];exact fin_ret (by simp only[simprocAttr, -Int.reduceNatCast',R0,fn_out,p334,Rs.ev,take_len_self,hl_38,h8_38,frzs (α:=Int) zo1_2,takes (α:=Int) zo1_2,w7d])
def F332_3_B(a0:GComplex)(o2_1:List (List (List Int)))(o3_1:List (List (List Int)))(o4_1:List (List (List Int)))(v4_1:Int)(x7:List (List Int))(o6_2:List (List Int))(o7_2:List (List Int))(v8_2:Int)(x19:List (List Int))(v11_3:Int)(o8_3:(List Int)):Option (((List Int))⊕((List Int))):=
 (getI x19 1).bind fun x25=>
(getI x7 v11_3).bind fun x27=>
(F81 x27).bind fun x29=>
(getI x25 x29).bind fun x31=>
(app 8 o8_3 [x31]).bind fun l34=>
some (.inl l34)
def F332_3_D(a0:GComplex)(o2_1:List (List (List Int)))(o3_1:List (List (List Int)))(o4_1:List (List (List Int)))(v4_1:Int)(x7:List (List Int))(o6_2:List (List Int))(o7_2:List (List Int))(v8_2:Int)(x19:List (List Int))(v11_3:Int)(o8_3:(List Int)):Option ((List Int)):=
 some o8_3
def F332_2_S(a0:GComplex)(o2_1:List (List (List Int)))(o3_1:List (List (List Int)))(o4_1:List (List (List Int)))(v4_1:Int)(x7:List (List Int))(s:(List (List Int))×(List (List Int))×Int):Option (((List (List Int))×(List (List Int))×Int)⊕((List (List Int))×(List (List Int)))):=
 match s with
 |(o6_2,o7_2,v8_2)=>
  (getI a0.Dims v4_1).bind fun x14=>
  if v8_2 < x14 then
   (F272 x14 v8_2).bind fun x17=>
   (F333 a0 v4_1 x17).bind fun x19=>
   (forR 0 (x7.length:Int) (F332_3_B a0 o2_1 o3_1 o4_1 v4_1 x7 o6_2 o7_2 v8_2 x19) (F332_3_D a0 o2_1 o3_1 o4_1 v4_1 x7 o6_2 o7_2 v8_2 x19) ([]:(List Int))).bind fun zo8_3=>
   (app 24 o6_2 [zo8_3]).bind fun l37=>
   (chk (v4_1+1)).bind fun x38=>
   if x38 < (a0.Dims.length:Int)then
    (getI x19 0).bind fun x40=>
    (F334 a0 v4_1 x40).bind fun x42=>
    (app 24 o7_2 [x42]).bind fun l45=>
    (chk (v8_2+1)).bind fun x46=>
    some (.inl (l37,l45,x46))
   else
    (app 24 o7_2 ([([]:List Int)])).bind fun l48=>
    (chk (v8_2+1)).bind fun x49=>
    some (.inl (l37,l48,x49))
  else
   some (.inr (o6_2,o7_2))
def F332_1_B(a0:GComplex)(v4_1:Int)(s:(List (List (List Int)))×(List (List (List Int)))×(List (List (List Int)))):Option (((List (List (List Int)))×(List (List (List Int)))×(List (List (List Int))))⊕((List (List (List Int)))×(List (List (List Int)))×(List (List (List Int))))):=
 match s with
 |(o2_1,o3_1,o4_1)=>
  (F250 a0 v4_1).bind fun x7=>
  (loopW (F332_2_S a0 o2_1 o3_1 o4_1 v4_1 x7) ([],[],0)).bind fun t50=> match t50 with
   |(zo6_2,zo7_2)=>
    (app 24 o2_1 [zo6_2]).bind fun l52=>
    (app 24 o3_1 [x7]).bind fun l54=>
    (app 24 o4_1 [zo7_2]).bind fun l56=>
    some (.inl (l52,l54,l56))
def F332_1_D(a0:GComplex)(v4_1:Int)(s:(List (List (List Int)))×(List (List (List Int)))×(List (List (List Int)))):Option ((List (List (List Int)))×(List (List (List Int)))×(List (List (List Int)))):=
 match s with
 |(o2_1,o3_1,o4_1)=>
  some (o2_1,o3_1,o4_1)
def F332(a0:GComplex):Option GContraction:=
 (forR 0 (a0.Dims.length:Int) (F332_1_B a0) (F332_1_D a0) ([],[],[])).bind fun t57=> match t57 with
  |(zo2_1,zo3_1,zo4_1)=>
   some ⟨zo2_1,zo3_1,zo4_1⟩
def I332_3(a0:GComplex)(o2_1:List (List (List Int)))(o3_1:List (List (List Int)))(o4_1:List (List (List Int)))(v4_1:Int)(x7:List (List Int))(o6_2:List (List Int))(o7_2:List (List Int))(v8_2:Int)(x19:List (List Int))(u2 u3 u4 u10 u11:Nat)(v11_3:Int)(o8_3:(List Int))(e:Env)(h:Heap):Prop:=
 ∃u22 k23:Nat,h=⟨[(0,none),(1,some [V.nils,V.nils,V.nils]),(u2,some (o2_1.map Enc.enc)),(u3,some (o3_1.map Enc.enc)),(u4,some (o4_1.map Enc.enc)),(5,some [V.sl 2 u2 0 o2_1.length 1,V.sl 3 u3 0 o3_1.length 1,V.sl 4 u4 0 o4_1.length 1]),(u10,some (o6_2.map Enc.enc)),(u11,some (o7_2.map Enc.enc)),(u22,some (o8_3.map Enc.enc))],k23⟩∧e.length=109∧e.at 1=V.iptr [V.int .i64 a0.Prime,V.isl (a0.Dims.map Enc.enc),V.isl (a0.Maps.map Enc.enc)]∧e.at 2=V.ptr 1 1 0∧e.at 3=V.ptr 5 5 0∧e.at 4=V.int .i64 v4_1∧e.at 5=V.isl (x7.map Enc.enc)∧e.at 6=V.sl 6 u10 0 o6_2.length 1∧e.at 7=V.sl 7 u11 0 o7_2.length 1∧e.at 8=V.int .i64 v8_2∧e.at 9=V.isl (x19.map Enc.enc)∧e.at 10=V.sl 8 u22 0 o8_3.length 1∧e.at 11=V.int .i64 v11_3
def P332_3(a0:GComplex)(o2_1:List (List (List Int)))(o3_1:List (List (List Int)))(o4_1:List (List (List Int)))(v4_1:Int)(x7:List (List Int))(o6_2:List (List Int))(o7_2:List (List Int))(v8_2:Int)(x19:List (List Int))(u2 u3 u4 u10 u11:Nat)(zo8_3:(List Int))(x:Ex)(e:Env)(h:Heap):Prop:=
 x= .normal∧∃u22 k23:Nat,h=⟨[(0,none),(1,some [V.nils,V.nils,V.nils]),(u2,some (o2_1.map Enc.enc)),(u3,some (o3_1.map Enc.enc)),(u4,some (o4_1.map Enc.enc)),(5,some [V.sl 2 u2 0 o2_1.length 1,V.sl 3 u3 0 o3_1.length 1,V.sl 4 u4 0 o4_1.length 1]),(u10,some (o6_2.map Enc.enc)),(u11,some (o7_2.map Enc.enc)),(u22,some (zo8_3.map Enc.enc))],k23⟩∧e.length=109∧e.at 1=V.iptr [V.int .i64 a0.Prime,V.isl (a0.Dims.map Enc.enc),V.isl (a0.Maps.map Enc.enc)]∧e.at 2=V.ptr 1 1 0∧e.at 3=V.ptr 5 5 0∧e.at 4=V.int .i64 v4_1∧e.at 5=V.isl (x7.map Enc.enc)∧e.at 6=V.sl 6 u10 0 o6_2.length 1∧e.at 7=V.sl 7 u11 0 o7_2.length 1∧e.at 8=V.int .i64 v8_2∧e.at 9=V.isl (x19.map Enc.enc)∧e.at 10=V.sl 8 u22 0 zo8_3.length 1
theorem l332_3(a0:GComplex)(o2_1:List (List (List Int)))(o3_1:List (List (List Int)))(o4_1:List (List (List Int)))(v4_1:Int)(x7:List (List Int))(o6_2:List (List Int))(o7_2:List (List Int))(v8_2:Int)(x19:List (List Int))(u2 u3 u4 u10 u11:Nat){lo:Int}{s:(List Int)}{t:(List Int)}(hF:forR lo (x7.length:Int) (F332_3_B a0 o2_1 o3_1 o4_1 v4_1 x7 o6_2 o7_2 v8_2 x19) (F332_3_D a0 o2_1 o3_1 o4_1 v4_1 x7 o6_2 o7_2 v8_2 x19) s=some t){e:Env}{h:Heap}(hI:I332_3 a0 o2_1 o3_1 o4_1 v4_1 x7 o6_2 o7_2 v8_2 x19 u2 u3 u4 u10 u11 lo s e h):W A c332_3 e h (P332_3 a0 o2_1 o3_1 o4_1 v4_1 x7 o6_2 o7_2 v8_2 x19 u2 u3 u4 u10 u11 t):=by
 show W A (.block 4 (.loop false b332_3)) e h _;rw[W_block];refine W_forR hF 9 (by obtain⟨_,_,rfl,_⟩:=hI; rfl) (I332_3 a0 o2_1 o3_1 o4_1 v4_1 x7 o6_2 o7_2 v8_2 x19 u2 u3 u4 u10 u11) hI ?_ ?_
 ·rintro v11_3 o8_3 e h ⟨u22,k23,rfl,h_21⟩ hlt hw o ho
  unfold F332_3_B at ho;obtain⟨x25,gx25,ho⟩:=bS ho;obtain⟨w26a,w26b⟩:=getI_w gx25;replace w26b:x19[1]? =some x25:=w26b;obtain⟨x27,gx27,ho⟩:=bS ho;obtain⟨w28a,w28b⟩:=getI_w gx27;obtain⟨x29,gx29,ho⟩:=bS ho;have w30:ans A 81 [V.isl (x27.map Enc.enc)]=some (V.int .i64 x29):=s81 x27 gx29;obtain⟨x31,gx31,ho⟩:=bS ho;obtain⟨w32a,w32b⟩:=getI_w gx31;obtain⟨l34,gl34,ho⟩:=bS ho;have w33:=fun a b c d e=> appendV_w (α:=Int) (n:=o8_3.length) (m:=1) (ds:=[V.int .i64 x31]) gl34 (by first|rfl|simp) (by first|rfl|simp) rfl a b c d e;have w33l:=app_len gl34;cases ho;simp only[simprocAttr,R0,b332_3,h_21,eq_true hlt,hw,w26a,w26b,w28a,w28b,w30,w32a,w32b,w33];refine And.intro rfl (Exists.intro _ (Exists.intro _ (And.intro rfl ?_)));simp only[simprocAttr,R0,h_21,eq_true hlt,hw,w26a,w26b,w28a,w28b,w30,w32a,w32b,w33]
 ·rintro v11_3 o8_3 e h ⟨u22,k23,rfl,h_21⟩ hge t1 ho
  unfold F332_3_D at ho;cases ho;simp only[simprocAttr,R0,b332_3,h_21,eq_false hge];intro ht; subst ht;refine And.intro rfl (Exists.intro _ (Exists.intro _ (And.intro rfl ?_)));simp only[simprocAttr,R0,h_21,eq_false hge]
def I332_2(a0:GComplex)(o2_1:List (List (List Int)))(o3_1:List (List (List Int)))(o4_1:List (List (List Int)))(v4_1:Int)(x7:List (List Int))(u2 u3 u4:Nat)(s:(List (List Int))×(List (List Int))×Int)(e:Env)(h:Heap):Prop:=
 match s with
 |(o6_2,o7_2,v8_2)=>
  ∃u10 u11 k12:Nat,h=⟨[(0,none),(1,some [V.nils,V.nils,V.nils]),(u2,some (o2_1.map Enc.enc)),(u3,some (o3_1.map Enc.enc)),(u4,some (o4_1.map Enc.enc)),(5,some [V.sl 2 u2 0 o2_1.length 1,V.sl 3 u3 0 o3_1.length 1,V.sl 4 u4 0 o4_1.length 1]),(u10,some (o6_2.map Enc.enc)),(u11,some (o7_2.map Enc.enc))],k12⟩∧e.length=109∧e.at 1=V.iptr [V.int .i64 a0.Prime,V.isl (a0.Dims.map Enc.enc),V.isl (a0.Maps.map Enc.enc)]∧e.at 2=V.ptr 1 1 0∧e.at 3=V.ptr 5 5 0∧e.at 4=V.int .i64 v4_1∧e.at 5=V.isl (x7.map Enc.enc)∧e.at 6=V.sl 6 u10 0 o6_2.length 1∧e.at 7=V.sl 7 u11 0 o7_2.length 1∧e.at 8=V.int .i64 v8_2
def P332_2(a0:GComplex)(o2_1:List (List (List Int)))(o3_1:List (List (List Int)))(o4_1:List (List (List Int)))(v4_1:Int)(x7:List (List Int))(u2 u3 u4:Nat)(t:(List (List Int))×(List (List Int)))(x:Ex)(e:Env)(h:Heap):Prop:=
 match t with
 |(zo6_2,zo7_2)=>
  x= .normal∧∃u10 u11 k12:Nat,h=⟨[(0,none),(1,some [V.nils,V.nils,V.nils]),(u2,some (o2_1.map Enc.enc)),(u3,some (o3_1.map Enc.enc)),(u4,some (o4_1.map Enc.enc)),(5,some [V.sl 2 u2 0 o2_1.length 1,V.sl 3 u3 0 o3_1.length 1,V.sl 4 u4 0 o4_1.length 1]),(u10,some (zo6_2.map Enc.enc)),(u11,some (zo7_2.map Enc.enc))],k12⟩∧e.length=109∧e.at 1=V.iptr [V.int .i64 a0.Prime,V.isl (a0.Dims.map Enc.enc),V.isl (a0.Maps.map Enc.enc)]∧e.at 2=V.ptr 1 1 0∧e.at 3=V.ptr 5 5 0∧e.at 4=V.int .i64 v4_1∧e.at 5=V.isl (x7.map Enc.enc)∧e.at 6=V.sl 6 u10 0 zo6_2.length 1∧e.at 7=V.sl 7 u11 0 zo7_2.length 1
theorem l332_2(a0:GComplex)(o2_1:List (List (List Int)))(o3_1:List (List (List Int)))(o4_1:List (List (List Int)))(v4_1:Int)(x7:List (List Int))(u2 u3 u4:Nat){s:(List (List Int))×(List (List Int))×Int}{t:(List (List Int))×(List (List Int))}(hF:loopW (F332_2_S a0 o2_1 o3_1 o4_1 v4_1 x7) s=some t){e:Env}{h:Heap}(hI:I332_2 a0 o2_1 o3_1 o4_1 v4_1 x7 u2 u3 u4 s e h):W A c332_2 e h (P332_2 a0 o2_1 o3_1 o4_1 v4_1 x7 u2 u3 u4 t):=by
 show W A (.block 2 (.loop false b332_2)) e h _;rw[W_block];refine W_loop hF 8 (by rcases s with⟨_,_,_⟩; obtain⟨_,_,_,rfl,_⟩:=hI; rfl) (I332_2 a0 o2_1 o3_1 o4_1 v4_1 x7 u2 u3 u4) hI ?_
 ·rintro⟨o6_2,o7_2,v8_2⟩ e h ⟨u10,u11,k12,rfl,h_9⟩ o ho
  unfold F332_2_S at ho;dsimp only at ho;obtain⟨x14,gx14,ho⟩:=bS ho;obtain⟨w15a,w15b⟩:=getI_w gx14;by_cases c16:v8_2 < x14
  ·rw[if_pos c16]at ho
   obtain⟨x17,gx17,ho⟩:=bS ho;have w18:ans A 272 [V.int .i64 x14,V.int .i64 v8_2]=some (V.isl (x17.map Enc.enc)):=s272 x14 v8_2 gx17;obtain⟨x19,gx19,ho⟩:=bS ho;have w20:ans A 333 [(eC a0),V.int .i64 v4_1,V.isl (x17.map Enc.enc)]=some (V.isl (x19.map Enc.enc)):=s333 a0 v4_1 x17 gx19;obtain⟨zo8_3,gt35,ho⟩:=bS ho;simp only[simprocAttr,R0,b332_2,h_9,w15a,w15b,eq_true c16,w18,w20];refine W.mono (l332_3 a0 o2_1 o3_1 o4_1 v4_1 x7 o6_2 o7_2 v8_2 x19 u2 u3 u4 u10 u11 gt35 (Exists.intro _ (Exists.intro _ (And.intro rfl ?_)))) ?_
   ·simp only[simprocAttr,R0,h_9,w15a,w15b,eq_true c16,w18,w20]
   rintro _ e _ ⟨rfl,u22,k23,rfl,h_24⟩;obtain⟨l37,gl37,ho⟩:=bS ho;have w36:=fun a b c d e=> appendV_w (α:=List Int) (n:=o6_2.length) (m:=1) (ds:=[V.isl (zo8_3.map Enc.enc)]) gl37 (by first|rfl|simp) (by first|rfl|simp) rfl a b c d e;have w36l:=app_len gl37;obtain⟨x38,gx38,ho⟩:=bS ho;have wx38:=chk_w gx38;by_cases c39:x38 < (a0.Dims.length:Int)
   ·rw[if_pos c39]at ho
    obtain⟨x40,gx40,ho⟩:=bS ho;obtain⟨w41a,w41b⟩:=getI_w gx40;replace w41b:x19[0]? =some x40:=w41b;obtain⟨x42,gx42,ho⟩:=bS ho;have w43:ans A 334 [(eC a0),V.int .i64 v4_1,V.isl (x40.map Enc.enc)]=some (V.isl (x42.map Enc.enc)):=s334 a0 v4_1 x40 gx42;obtain⟨l45,gl45,ho⟩:=bS ho;have w44:=fun a b c d e=> appendV_w (α:=List Int) (n:=o7_2.length) (m:=1) (ds:=[V.isl (x42.map Enc.enc)]) gl45 (by first|rfl|simp) (by first|rfl|simp) rfl a b c d e;have w44l:=app_len gl45;obtain⟨x46,gx46,ho⟩:=bS ho;have wx46:=chk_w gx46;cases ho;simp only[simprocAttr,R0,h_24,eq_true c16,takes (α:=Int) zo8_3,w36,wx38,eq_true c39,w41a,w41b,w43,w44,wx46];refine And.intro rfl (Exists.intro _ (Exists.intro _ (Exists.intro _ (And.intro rfl ?_))));simp only[simprocAttr,R0,h_24,eq_true c16,takes (α:=Int) zo8_3,w36,wx38,eq_true c39,w41a,w41b,w43,w44,wx46]
   ·rw[if_neg c39]at ho
    obtain⟨l48,gl48,ho⟩:=bS ho;have w47:=fun a b c d e=> appendV_w (α:=List Int) (n:=o7_2.length) (m:=1) (ds:=[V.isl []]) gl48 (by first|rfl|simp) (by first|rfl|simp) rfl a b c d e;have w47l:=app_len gl48;obtain⟨x49,gx49,ho⟩:=bS ho;have wx49:=chk_w gx49;cases ho;simp only[simprocAttr,R0,h_24,eq_true c16,takes (α:=Int) zo8_3,w36,wx38,eq_false c39,w47,wx49];refine And.intro rfl (Exists.intro _ (Exists.intro _ (Exists.intro _ (And.intro rfl ?_))));simp only[simprocAttr,R0,h_24,eq_true c16,takes (α:=Int) zo8_3,w36,wx38,eq_false c39,w47,wx49]
  ·rw[if_neg c16]at ho
   cases ho;simp only[simprocAttr,R0,b332_2,h_9,w15a,w15b,eq_false c16];intro ht; subst ht;simp only[simprocAttr,RR,RB];refine And.intro rfl (Exists.intro _ (Exists.intro _ (Exists.intro _ (And.intro rfl ?_))));simp only[simprocAttr,R0,h_9,w15a,w15b,eq_false c16]
def I332_1(a0:GComplex)(v4_1:Int)(s:(List (List (List Int)))×(List (List (List Int)))×(List (List (List Int))))(e:Env)(h:Heap):Prop:=
 match s with
 |(o2_1,o3_1,o4_1)=>
  ∃u2 u3 u4 k5:Nat,h=⟨[(0,none),(1,some [V.nils,V.nils,V.nils]),(u2,some (o2_1.map Enc.enc)),(u3,some (o3_1.map Enc.enc)),(u4,some (o4_1.map Enc.enc)),(5,some [V.sl 2 u2 0 o2_1.length 1,V.sl 3 u3 0 o3_1.length 1,V.sl 4 u4 0 o4_1.length 1])],k5⟩∧e.length=109∧e.at 1=V.iptr [V.int .i64 a0.Prime,V.isl (a0.Dims.map Enc.enc),V.isl (a0.Maps.map Enc.enc)]∧e.at 2=V.ptr 1 1 0∧e.at 3=V.ptr 5 5 0∧e.at 4=V.int .i64 v4_1
def P332_1(a0:GComplex)(t:(List (List (List Int)))×(List (List (List Int)))×(List (List (List Int))))(x:Ex)(e:Env)(h:Heap):Prop:=
 match t with
 |(zo2_1,zo3_1,zo4_1)=>
  x= .normal∧∃u2 u3 u4 k5:Nat,h=⟨[(0,none),(1,some [V.nils,V.nils,V.nils]),(u2,some (zo2_1.map Enc.enc)),(u3,some (zo3_1.map Enc.enc)),(u4,some (zo4_1.map Enc.enc)),(5,some [V.sl 2 u2 0 zo2_1.length 1,V.sl 3 u3 0 zo3_1.length 1,V.sl 4 u4 0 zo4_1.length 1])],k5⟩∧e.length=109∧e.at 2=V.ptr 1 1 0∧e.at 3=V.ptr 5 5 0
theorem l332_1(a0:GComplex){lo:Int}{s:(List (List (List Int)))×(List (List (List Int)))×(List (List (List Int)))}{t:(List (List (List Int)))×(List (List (List Int)))×(List (List (List Int)))}(hF:forR lo (a0.Dims.length:Int) (F332_1_B a0) (F332_1_D a0) s=some t){e:Env}{h:Heap}(hI:I332_1 a0 lo s e h):W A c332_1 e h (P332_1 a0 t):=by
 show W A (.block 0 (.loop false b332_1)) e h _;rw[W_block];refine W_forR hF 6 (by rcases s with⟨_,_,_⟩; obtain⟨_,_,_,_,rfl,_⟩:=hI; rfl) (I332_1 a0) hI ?_ ?_
 ·rintro v4_1 ⟨o2_1,o3_1,o4_1⟩ e h ⟨u2,u3,u4,k5,rfl,h_1⟩ hlt hw o ho
  unfold F332_1_B at ho;dsimp only at ho;obtain⟨x7,gx7,ho⟩:=bS ho;have w8:ans A 250 [(eC a0),V.int .i64 v4_1]=some (V.isl (x7.map Enc.enc)):=s250 a0 v4_1 gx7;obtain⟨⟨zo6_2,zo7_2⟩,gt50,ho⟩:=bS ho;dsimp only at ho;simp only[simprocAttr,R0,b332_1,h_1,eq_true hlt,hw,w8];refine W.mono (l332_2 a0 o2_1 o3_1 o4_1 v4_1 x7 u2 u3 u4 gt50 (Exists.intro _ (Exists.intro _ (Exists.intro _ (And.intro rfl ?_))))) ?_
  ·simp only[simprocAttr,R0,h_1,eq_true hlt,hw,w8]
  rintro _ e _ ⟨rfl,u10,u11,k12,rfl,h_13⟩;obtain⟨l52,gl52,ho⟩:=bS ho;have w51:=fun a b c d e=> appendV_w (α:=List (List Int)) (n:=o2_1.length) (m:=1) (ds:=[V.isl (zo6_2.map Enc.enc)]) gl52 (by first|rfl|simp) (by first|rfl|simp) rfl a b c d e;have w51l:=app_len gl52;obtain⟨l54,gl54,ho⟩:=bS ho;have w53:=fun a b c d e=> appendV_w (α:=List (List Int)) (n:=o3_1.length) (m:=1) (ds:=[V.isl (x7.map Enc.enc)]) gl54 (by first|rfl|simp) (by first|rfl|simp) rfl a b c d e;have w53l:=app_len gl54;obtain⟨l56,gl56,ho⟩:=bS ho;have w55:=fun a b c d e=> appendV_w (α:=List (List Int)) (n:=o4_1.length) (m:=1) (ds:=[V.isl (zo7_2.map Enc.enc)]) gl56 (by first|rfl|simp) (by first|rfl|simp) rfl a b c d e;have w55l:=app_len gl56;cases ho;simp only[simprocAttr,R0,h_13,eq_true hlt,hw,takes (α:=List Int) zo6_2,w51,w53,takes (α:=List Int) zo7_2,w55];refine And.intro rfl (Exists.intro _ (Exists.intro _ (Exists.intro _ (Exists.intro _ (And.intro rfl ?_)))));simp only[simprocAttr,R0,h_13,eq_true hlt,hw,takes (α:=List Int) zo6_2,w51,w53,takes (α:=List Int) zo7_2,w55]
 ·rintro v4_1 ⟨o2_1,o3_1,o4_1⟩ e h ⟨u2,u3,u4,k5,rfl,h_1⟩ hge t1 ho
  unfold F332_1_D at ho;dsimp only at ho;cases ho;simp only[simprocAttr,R0,b332_1,h_1,eq_false hge];intro ht; subst ht;refine And.intro rfl (Exists.intro _ (Exists.intro _ (Exists.intro _ (Exists.intro _ (And.intro rfl ?_)))));simp only[simprocAttr,R0,h_1,eq_false hge]
theorem s332(a0:GComplex){r:GContraction}(hF:F332 a0=some r):ans A 332 [(eC a0)]=some (Enc.enc r):=by
 refine ans_of (f:=p332) rfl rfl rfl fun e hl he=>?_;have h0_0:e.at 0=(eC a0):=he 0 _ rfl;have hl_0:e.length=109:=hl;clear he hl;show W A b332 e ⟨[],0⟩ _;unfold F332 at hF;obtain⟨⟨zo2_1,zo3_1,zo4_1⟩,gt57,hF⟩:=bS hF;dsimp only at hF;simp only[simprocAttr,R0,b332,hl_0,h0_0];refine W.mono (l332_1 a0 gt57 (Exists.intro _ (Exists.intro _ (Exists.intro _ (Exists.intro _ (And.intro rfl ?_)))))) ?_
 ·simp only[simprocAttr,R0,hl_0,h0_0]
 rintro _ e _ ⟨rfl,u2,u3,u4,k5,rfl,h_6⟩;cases hF;simp only[simprocAttr,R0,h_6];exact fin_ret (by simp only[simprocAttr,R0,fn_out,p332,Rs.ev,take_len_self,h_6,frzs (α:=List (List Int)) zo2_1,takes (α:=List (List Int)) zo2_1,frzs (α:=List (List Int)) zo3_1,takes (α:=List (List Int)) zo3_1,frzs (α:=List (List Int)) zo4_1,takes (α:=List (List Int)) zo4_1])
def F326(a0:GComplex):Option (T2 GContraction Int):=
 (F39 a0).bind fun x1=>
 if x1=true then
  (F332 a0).bind fun x3=>
  some ⟨x3,0⟩
 else
  some ⟨⟨[],[],[]⟩,1⟩
theorem s326(a0:GComplex){r:T2 GContraction Int}(hF:F326 a0=some r):ans A 326 [(eC a0)]=some (EncR.enc r):=by
 refine ans_of (f:=p326) rfl rfl rfl fun e hl he=>?_;have h0_0:e.at 0=(eC a0):=he 0 _ rfl;have hl_0:e.length=10:=hl;clear he hl;have h_0:=And.intro hl_0 h0_0;show W A b326 e ⟨[],0⟩ _;unfold F326 at hF;obtain⟨x1,gx1,hF⟩:=bS hF;have w2:ans A 39 [(eC a0)]=some (V.bool x1):=s39 a0 gx1;cases x1 with
 |true=>
  rw[if_pos rfl]at hF;obtain⟨x3,gx3,hF⟩:=bS hF;have w4:ans A 332 [(eC a0)]=some ((eK x3)):=s332 a0 gx3;cases hF;simp only[simprocAttr,R0,b326,h_0,w2,w4];exact fin_ret (by simp only[simprocAttr,R0,fn_out,p326,Rs.ev,take_len_self,h_0,w2,w4])
 |false=>
  rw[if_neg Bool.false_ne_true]at hF;cases hF;simp only[simprocAttr,R0,b326,h_0,w2];exact fin_ret (by simp only[simprocAttr,R0,fn_out,p326,Rs.ev,take_len_self,h_0,w2])
def FM327(x:GContraction)(k:Int):Option (GContraction×Int):=(F21 x.Down k).bind fun t=>(F21 x.Up t.2).bind fun u=>(F21 x.Back u.2).bind fun w=> some (⟨t.1,u.1,w.1⟩,w.2)
theorem rec3d_un{α β γ:Type}[Enc α][Deep α][Enc β][Deep β][Enc γ][Deep γ]{h:Heap}{vs:List V}{a:α}{b:β}{c:γ}{K:Ks}(r:repF h vs [⟨a⟩,⟨b⟩,⟨c⟩] K):∃u v w,∃K1 K2 K3:Ks,vs=[u,v,w]∧Deep.rep h u a K1∧Deep.rep h v b K2∧Deep.rep h w c K3∧
  (∀k,K1 k→¬K2 k)∧(∀k,K1 k→¬K3 k)∧(∀k,K2 k→¬K3 k)∧∀k,K k↔K1 k∨K2 k∨K3 k:=by
 obtain⟨u,ws',K1,J1,rfl,h1,r2,h3,h4⟩:=repF_cons_un r;obtain⟨v,ws2,K2,J2,rfl,h5,r3,h6,h7⟩:=repF_cons_un r2;obtain⟨w,rfl,h8⟩:=repF_1un r3;exact⟨u,v,w,K1,K2,J2,rfl,h1,h5,h8,fun k x y=> h3 k x ((h7 k).2 (.inl y)),fun k x y=> h3 k x ((h7 k).2 (.inr y)),h6,fun k=> by rw[h4,h7]⟩
theorem rec3d{α β γ:Type}[Enc α][Deep α][Enc β][Deep β][Enc γ][Deep γ]{h:Heap}{a:α}{b:β}{c:γ}{u v w:V}{K1 K2 K3:Ks}(h1:Deep.rep h u a K1)(h2:Deep.rep h v b K2)(h3:Deep.rep h w c K3)(d1:∀k,K1 k→¬K2 k)(d2:∀k,K1 k→¬K3 k)(d3:∀k,K2 k→¬K3 k):
  repF h [u,v,w] [⟨a⟩,⟨b⟩,⟨c⟩] (fun k=> K1 k∨K2 k∨K3 k):=
 repF_cons h1 (repF_cons h2 (repF_1 h3) d3) fun k x y=> y.elim (d1 k x) (d2 k x)
theorem dm327{x:GContraction}{k:Int}{r:GContraction×Int}(hF:FM327 x k=some r)(h:Heap){v:V}{K:Ks}(hr:Deep.rep h v x K):∃h',res A 327 [v,V.int .i64 k] h=some (V.int .i64 r.2,h')∧Deep.rep h' v r.1 K∧(∀k,k < h.ents.length→¬K k→h'.ents[k]? =h.ents[k]?)∧h.ents.length≤h'.ents.length:=by
 obtain⟨vs,rfl,r0⟩:=hr;obtain⟨dv,av,bv,K1,K2,K3,rfl,g1,g2,g3,d1,d2,d3,hK⟩:=rec3d_un r0;refine res_ex (f:=p327) rfl rfl rfl fun e hl he=>?_;have h0_0:e.at 0=V.agg [dv,av,bv]:=he 0 _ rfl;have h1_0:e.at 1=V.int .i64 k:=he 1 _ rfl;have hl_0:e.length=18:=hl;clear he hl;show W A b327 e h _;unfold FM327 at hF;obtain⟨t,gt,hF⟩:=bS hF;obtain⟨u,gu,hF⟩:=bS hF;obtain⟨w,gw,hF⟩:=bS hF;cases hF;obtain⟨E,c⟩:=h;have pre:∀ (x:Nat×Option (List V)) k,k < E.length→(E++[x])[k]? =E[k]?:=fun x k hk=> List.getElem?_append_left hk;have n1:¬K1 E.length:=fun x=> by have:=Deep.bd g1 x; simp at this
 have n2:¬K2 E.length:=fun x=> by have:=Deep.bd g2 x; simp at this
 have n3:¬K3 E.length:=fun x=> by have:=Deep.bd g3 x; simp at this
 obtain⟨⟨E3,c3⟩,w1,a1,a2,a3⟩:=d21 gt ⟨E++[(c,some [dv,av,bv])],c+1⟩ (Deep.frame g1 fun k hk=> pre _ k (Deep.bd g1 hk));simp only[le1]at a2 a3;have m1:E3[E.length]? =some (c,some [dv,av,bv]):=(a2 _ n1).trans (get_last _ _);have g2':Deep.rep ⟨E3,c3⟩ av x.Up K2:=Deep.frame g2 fun k hk=>(a2 k fun q=> d1 k q hk).trans (pre _ k (Deep.bd g2 hk));obtain⟨⟨E4,c4⟩,w2,b1,b2,b3⟩:=d21 gu ⟨E3,c3⟩ g2';simp only at b2 b3;have m2:E4[E.length]? =some (c,some [dv,av,bv]):=(b2 _ n2).trans m1;have g3':Deep.rep ⟨E4,c4⟩ bv x.Back K3:=Deep.frame g3 fun k hk=>(b2 k fun q=> d3 k q hk).trans ((a2 k fun q=> d2 k q hk).trans (pre _ k (Deep.bd g3 hk)));obtain⟨⟨E5,c5⟩,w3,e1,e2,e3⟩:=d21 gw ⟨E4,c4⟩ g3';simp only at e2 e3;have r1:Deep.rep ⟨E5,c5⟩ dv t.1 K1:=Deep.frame a1 fun k hk=>(e2 k fun q=> d2 k hk q).trans (b2 k fun q=> d1 k hk q);have r2:Deep.rep ⟨E5,c5⟩ av u.1 K2:=Deep.frame b1 fun k hk=> e2 k fun q=> d3 k hk q;simp only[simprocAttr,R1,b327,hl_0,h0_0,h1_0,get_last,callM_plain_eq,w1,m1,w2,m2,w3];refine And.intro (fun _=> trivial) ⟨?_,⟨_,rfl,(rec3d r1 r2 e1 d1 d2 d3).to hK⟩,fun k hk nk=>?_,by first|omega|(simp at a3; omega)⟩
 ·simp only[simprocAttr,R1,fn_out,p327,Rs.ev,mapO,hl_0]
 ·rw[hK]at nk
  exact(e2 k fun q=> nk (.inr (.inr q))).trans ((b2 k fun q=> nk (.inr (.inl q))).trans ((a2 k fun q=> nk (.inl q)).trans (pre _ k hk)))
def F32_1_B(a0:List Int)(v5_1:Int)(v1_1:Int):Option ((Int)⊕((Int)⊕Int)):=
 (getI a0 v5_1).bind fun x4=>
if x4=v1_1 then
 (chk (v1_1+1)).bind fun x7=>
 some (.inl x7)
else
 some (.inr (.inr (-1)))
def F32_1_D(a0:List Int)(v5_1:Int)(v1_1:Int):Option ((Int)⊕Int):=
 some (.inl v1_1)
def F32(a0:List Int)(a1:Int):Option Int:=
 (forR 0 (a0.length:Int) (F32_1_B a0) (F32_1_D a0) a1).bind fun t8=> match t8 with
  | .inl zv1_1=>
   some zv1_1
  | .inr r9=> some r9
def I32_1(a0:List Int)(v5_1:Int)(v1_1:Int)(e:Env)(h:Heap):Prop:=
 ∃k2:Nat,h=⟨[],k2⟩∧e.length=21∧e.at 0=V.isl (a0.map Enc.enc)∧e.at 1=V.int .i64 v1_1∧e.at 5=V.int .i64 v5_1
def P32_1(a0:List Int)(t:(Int)⊕Int)(x:Ex)(e:Env)(h:Heap):Prop:=
 match t with
 | .inl zv1_1=> x= .normal∧∃k2:Nat,h=⟨[],k2⟩∧e.length=21∧e.at 1=V.int .i64 zv1_1
 | .inr r=> x= .ret∧Fin p32 (Enc.enc r) .ret e h
theorem l32_1(a0:List Int){lo:Int}{s:Int}{t:(Int)⊕Int}(hF:forR lo (a0.length:Int) (F32_1_B a0) (F32_1_D a0) s=some t){e:Env}{h:Heap}(hI:I32_1 a0 lo s e h):W A c32_1 e h (P32_1 a0 t):=by
 show W A (.block 0 (.loop false b32_1)) e h _;rw[W_block];refine W_forR hF 0 (by obtain⟨_,rfl,_⟩:=hI; rfl) (I32_1 a0) hI ?_ ?_
 ·rintro v5_1 v1_1 e h ⟨k2,rfl,h_1⟩ hlt hw o ho
  unfold F32_1_B at ho;obtain⟨x4,gx4,ho⟩:=bS ho;obtain⟨w5a,w5b⟩:=getI_w gx4;by_cases c6:x4=v1_1
  ·rw[if_pos c6]at ho
   obtain⟨x7,gx7,ho⟩:=bS ho;have wx7:=chk_w gx7;cases ho;simp only[simprocAttr,R0,b32_1,h_1,eq_true hlt,hw,w5a,w5b,eq_true c6,wx7];refine And.intro rfl (Exists.intro _ (And.intro rfl ?_));simp only[simprocAttr,R0,h_1,eq_true hlt,hw,w5a,w5b,eq_true c6,wx7]
  ·rw[if_neg c6]at ho
   cases ho;simp only[simprocAttr,R0,b32_1,h_1,eq_true hlt,hw,w5a,w5b,eq_false c6];intro ht; subst ht;simp only[simprocAttr,RR,RB];exact And.intro rfl (fin_ret (by simp only[simprocAttr,R0,fn_out,p32,Rs.ev,take_len_self,h_1,eq_true hlt,hw,w5a,w5b,eq_false c6]))
 ·rintro v5_1 v1_1 e h ⟨k2,rfl,h_1⟩ hge t1 ho
  unfold F32_1_D at ho;cases ho;simp only[simprocAttr,R0,b32_1,h_1,eq_false hge];intro ht; subst ht;refine And.intro rfl (Exists.intro _ (And.intro rfl ?_));simp only[simprocAttr,R0,h_1,eq_false hge]
theorem s32(a0:List Int)(a1:Int){r:Int}(hF:F32 a0 a1=some r):ans A 32 [V.isl (a0.map Enc.enc),V.int .i64 a1]=some (Enc.enc r):=by
 refine ans_of (f:=p32) rfl rfl rfl fun e hl he=>?_;have h0_0:e.at 0=V.isl (a0.map Enc.enc):=he 0 _ rfl;have h1_0:e.at 1=V.int .i64 a1:=he 1 _ rfl;have hl_0:e.length=21:=hl;clear he hl;have h_0:=And.intro hl_0 (And.intro h0_0 h1_0);show W A b32 e ⟨[],0⟩ _;unfold F32 at hF;obtain⟨t8,gt8,hF⟩:=bS hF;rcases t8 with zv1_1|r9
 ·dsimp only at hF
  simp only[simprocAttr,R0,b32,h_0];refine W.mono (l32_1 a0 gt8 (Exists.intro _ (And.intro rfl ?_))) ?_
  ·simp only[simprocAttr,R0,h_0]
  rintro _ e _ ⟨rfl,k2,rfl,h_3⟩;cases hF;simp only[simprocAttr,R0,h_3];exact fin_ret (by simp only[simprocAttr,R0,fn_out,p32,Rs.ev,take_len_self,h_3])
 ·dsimp only at hF
  cases hF;simp only[simprocAttr,R0,b32,h_0];refine W.mono (l32_1 a0 gt8 (Exists.intro _ (And.intro rfl ?_))) ?_
  ·simp only[simprocAttr,R0,h_0]
  rintro _ e h ⟨rfl,hq⟩;simp only[simprocAttr,RR,RB];exact hq
def F59_1_B(a0:List (List Int))(v5_1:Int)(v1_1:Int):Option ((Int)⊕((Int)⊕Int)):=
 (getI a0 v5_1).bind fun x4=>
(F32 x4 v1_1).bind fun x6=>
if x6 < 0 then
 some (.inr (.inr (-1)))
else
 some (.inl x6)
def F59_1_D(a0:List (List Int))(v5_1:Int)(v1_1:Int):Option ((Int)⊕Int):=
 some (.inl v1_1)
def F59(a0:List (List Int))(a1:Int):Option Int:=
 (forR 0 (a0.length:Int) (F59_1_B a0) (F59_1_D a0) a1).bind fun t9=> match t9 with
  | .inl zv1_1=>
   some zv1_1
  | .inr r10=> some r10
def I59_1(a0:List (List Int))(v5_1:Int)(v1_1:Int)(e:Env)(h:Heap):Prop:=
 ∃k2:Nat,h=⟨[],k2⟩∧e.length=21∧e.at 0=V.isl (a0.map Enc.enc)∧e.at 1=V.int .i64 v1_1∧e.at 5=V.int .i64 v5_1
def P59_1(a0:List (List Int))(t:(Int)⊕Int)(x:Ex)(e:Env)(h:Heap):Prop:=
 match t with
 | .inl zv1_1=> x= .normal∧∃k2:Nat,h=⟨[],k2⟩∧e.length=21∧e.at 1=V.int .i64 zv1_1
 | .inr r=> x= .ret∧Fin p59 (Enc.enc r) .ret e h
theorem l59_1(a0:List (List Int)){lo:Int}{s:Int}{t:(Int)⊕Int}(hF:forR lo (a0.length:Int) (F59_1_B a0) (F59_1_D a0) s=some t){e:Env}{h:Heap}(hI:I59_1 a0 lo s e h):W A c59_1 e h (P59_1 a0 t):=by
 show W A (.block 0 (.loop false b59_1)) e h _;rw[W_block];refine W_forR hF 0 (by obtain⟨_,rfl,_⟩:=hI; rfl) (I59_1 a0) hI ?_ ?_
 ·rintro v5_1 v1_1 e h ⟨k2,rfl,h_1⟩ hlt hw o ho
  unfold F59_1_B at ho;obtain⟨x4,gx4,ho⟩:=bS ho;obtain⟨w5a,w5b⟩:=getI_w gx4;obtain⟨x6,gx6,ho⟩:=bS ho;have w7:ans A 32 [V.isl (x4.map Enc.enc),V.int .i64 v1_1]=some (V.int .i64 x6):=s32 x4 v1_1 gx6;by_cases c8:x6 < 0
  ·rw[if_pos c8]at ho
   cases ho;simp only[simprocAttr,R0,b59_1,h_1,eq_true hlt,hw,w5a,w5b,w7,eq_true c8];intro ht; subst ht;simp only[simprocAttr,RR,RB];exact And.intro rfl (fin_ret (by simp only[simprocAttr,R0,fn_out,p59,Rs.ev,take_len_self,h_1,eq_true hlt,hw,w5a,w5b,w7,eq_true c8]))
  ·rw[if_neg c8]at ho
   cases ho;simp only[simprocAttr,R0,b59_1,h_1,eq_true hlt,hw,w5a,w5b,w7,eq_false c8];refine And.intro rfl (Exists.intro _ (And.intro rfl ?_));simp only[simprocAttr,R0,h_1,eq_true hlt,hw,w5a,w5b,w7,eq_false c8]
 ·rintro v5_1 v1_1 e h ⟨k2,rfl,h_1⟩ hge t1 ho
  unfold F59_1_D at ho;cases ho;simp only[simprocAttr,R0,b59_1,h_1,eq_false hge];intro ht; subst ht;refine And.intro rfl (Exists.intro _ (And.intro rfl ?_));simp only[simprocAttr,R0,h_1,eq_false hge]
theorem s59(a0:List (List Int))(a1:Int){r:Int}(hF:F59 a0 a1=some r):ans A 59 [V.isl (a0.map Enc.enc),V.int .i64 a1]=some (Enc.enc r):=by
 refine ans_of (f:=p59) rfl rfl rfl fun e hl he=>?_;have h0_0:e.at 0=V.isl (a0.map Enc.enc):=he 0 _ rfl;have h1_0:e.at 1=V.int .i64 a1:=he 1 _ rfl;have hl_0:e.length=21:=hl;clear he hl;have h_0:=And.intro hl_0 (And.intro h0_0 h1_0);show W A b59 e ⟨[],0⟩ _;unfold F59 at hF;obtain⟨t9,gt9,hF⟩:=bS hF;rcases t9 with zv1_1|r10
 ·dsimp only at hF
  simp only[simprocAttr,R0,b59,h_0];refine W.mono (l59_1 a0 gt9 (Exists.intro _ (And.intro rfl ?_))) ?_
  ·simp only[simprocAttr,R0,h_0]
  rintro _ e _ ⟨rfl,k2,rfl,h_3⟩;cases hF;simp only[simprocAttr,R0,h_3];exact fin_ret (by simp only[simprocAttr,R0,fn_out,p59,Rs.ev,take_len_self,h_3])
 ·dsimp only at hF
  cases hF;simp only[simprocAttr,R0,b59,h_0];refine W.mono (l59_1 a0 gt9 (Exists.intro _ (And.intro rfl ?_))) ?_
  ·simp only[simprocAttr,R0,h_0]
  rintro _ e h ⟨rfl,hq⟩;simp only[simprocAttr,RR,RB];exact hq
def F53_1_B(a0:List (List (List Int)))(v5_1:Int)(v1_1:Int):Option ((Int)⊕((Int)⊕Int)):=
 (getI a0 v5_1).bind fun x4=>
(F59 x4 v1_1).bind fun x6=>
if x6 < 0 then
 some (.inr (.inr (-1)))
else
 some (.inl x6)
def F53_1_D(a0:List (List (List Int)))(v5_1:Int)(v1_1:Int):Option ((Int)⊕Int):=
 some (.inl v1_1)
def F53(a0:List (List (List Int)))(a1:Int):Option Int:=
 (forR 0 (a0.length:Int) (F53_1_B a0) (F53_1_D a0) a1).bind fun t9=> match t9 with
  | .inl zv1_1=>
   some zv1_1
  | .inr r10=> some r10
def I53_1(a0:List (List (List Int)))(v5_1:Int)(v1_1:Int)(e:Env)(h:Heap):Prop:=
 ∃k2:Nat,h=⟨[],k2⟩∧e.length=21∧e.at 0=V.isl (a0.map Enc.enc)∧e.at 1=V.int .i64 v1_1∧e.at 5=V.int .i64 v5_1
def P53_1(a0:List (List (List Int)))(t:(Int)⊕Int)(x:Ex)(e:Env)(h:Heap):Prop:=
 match t with
 | .inl zv1_1=> x= .normal∧∃k2:Nat,h=⟨[],k2⟩∧e.length=21∧e.at 1=V.int .i64 zv1_1
 | .inr r=> x= .ret∧Fin p53 (Enc.enc r) .ret e h
theorem l53_1(a0:List (List (List Int))){lo:Int}{s:Int}{t:(Int)⊕Int}(hF:forR lo (a0.length:Int) (F53_1_B a0) (F53_1_D a0) s=some t){e:Env}{h:Heap}(hI:I53_1 a0 lo s e h):W A c53_1 e h (P53_1 a0 t):=by
 show W A (.block 0 (.loop false b53_1)) e h _;rw[W_block];refine W_forR hF 0 (by obtain⟨_,rfl,_⟩:=hI; rfl) (I53_1 a0) hI ?_ ?_
 ·rintro v5_1 v1_1 e h ⟨k2,rfl,h_1⟩ hlt hw o ho
  unfold F53_1_B at ho;obtain⟨x4,gx4,ho⟩:=bS ho;obtain⟨w5a,w5b⟩:=getI_w gx4;obtain⟨x6,gx6,ho⟩:=bS ho;have w7:ans A 59 [V.isl (x4.map Enc.enc),V.int .i64 v1_1]=some (V.int .i64 x6):=s59 x4 v1_1 gx6;by_cases c8:x6 < 0
  ·rw[if_pos c8]at ho
   cases ho;simp only[simprocAttr,R0,b53_1,h_1,eq_true hlt,hw,w5a,w5b,w7,eq_true c8];intro ht; subst ht;simp only[simprocAttr,RR,RB];exact And.intro rfl (fin_ret (by simp only[simprocAttr,R0,fn_out,p53,Rs.ev,take_len_self,h_1,eq_true hlt,hw,w5a,w5b,w7,eq_true c8]))
  ·rw[if_neg c8]at ho
   cases ho;simp only[simprocAttr,R0,b53_1,h_1,eq_true hlt,hw,w5a,w5b,w7,eq_false c8];refine And.intro rfl (Exists.intro _ (And.intro rfl ?_));simp only[simprocAttr,R0,h_1,eq_true hlt,hw,w5a,w5b,w7,eq_false c8]
 ·rintro v5_1 v1_1 e h ⟨k2,rfl,h_1⟩ hge t1 ho
  unfold F53_1_D at ho;cases ho;simp only[simprocAttr,R0,b53_1,h_1,eq_false hge];intro ht; subst ht;refine And.intro rfl (Exists.intro _ (And.intro rfl ?_));simp only[simprocAttr,R0,h_1,eq_false hge]
theorem s53(a0:List (List (List Int)))(a1:Int){r:Int}(hF:F53 a0 a1=some r):ans A 53 [V.isl (a0.map Enc.enc),V.int .i64 a1]=some (Enc.enc r):=by
 refine ans_of (f:=p53) rfl rfl rfl fun e hl he=>?_;have h0_0:e.at 0=V.isl (a0.map Enc.enc):=he 0 _ rfl;have h1_0:e.at 1=V.int .i64 a1:=he 1 _ rfl;have hl_0:e.length=21:=hl;clear he hl;have h_0:=And.intro hl_0 (And.intro h0_0 h1_0);show W A b53 e ⟨[],0⟩ _;unfold F53 at hF;obtain⟨t9,gt9,hF⟩:=bS hF;rcases t9 with zv1_1|r10
 ·dsimp only at hF
  simp only[simprocAttr,R0,b53,h_0];refine W.mono (l53_1 a0 gt9 (Exists.intro _ (And.intro rfl ?_))) ?_
  ·simp only[simprocAttr,R0,h_0]
  rintro _ e _ ⟨rfl,k2,rfl,h_3⟩;cases hF;simp only[simprocAttr,R0,h_3];exact fin_ret (by simp only[simprocAttr,R0,fn_out,p53,Rs.ev,take_len_self,h_3])
 ·dsimp only at hF
  cases hF;simp only[simprocAttr,R0,b53,h_0];refine W.mono (l53_1 a0 gt9 (Exists.intro _ (And.intro rfl ?_))) ?_
  ·simp only[simprocAttr,R0,h_0]
  rintro _ e h ⟨rfl,hq⟩;simp only[simprocAttr,RR,RB];exact hq
def F328(a0:GContraction)(a1:Int):Option Int:=
 (F53 a0.Down a1).bind fun x1=>
 if x1 < 0 then
  some (-1)
 else
  (F53 a0.Up x1).bind fun x4=>
  if x4 < 0 then
   some (-1)
  else
   (F53 a0.Back x4).bind fun x7=>
   if x7 < 0 then
    some (-1)
   else
    some x7
theorem s328(a0:GContraction)(a1:Int){r:Int}(hF:F328 a0 a1=some r):ans A 328 [(eK a0),V.int .i64 a1]=some (Enc.enc r):=by
 refine ans_of (f:=p328) rfl rfl rfl fun e hl he=>?_;have h0_0:e.at 0=(eK a0):=he 0 _ rfl;have h1_0:e.at 1=V.int .i64 a1:=he 1 _ rfl;have hl_0:e.length=24:=hl;clear he hl;have h_0:=And.intro hl_0 (And.intro h0_0 h1_0);show W A b328 e ⟨[],0⟩ _;unfold F328 at hF;obtain⟨x1,gx1,hF⟩:=bS hF;have w2:ans A 53 [V.isl (a0.Down.map Enc.enc),V.int .i64 a1]=some (V.int .i64 x1):=s53 a0.Down a1 gx1;by_cases c3:x1 < 0
 ·rw[if_pos c3]at hF
  cases hF;simp only[simprocAttr,R0,b328,h_0,w2,eq_true c3];exact fin_ret (by simp only[simprocAttr,R0,fn_out,p328,Rs.ev,take_len_self,h_0,w2,eq_true c3])
 ·rw[if_neg c3]at hF
  obtain⟨x4,gx4,hF⟩:=bS hF;have w5:ans A 53 [V.isl (a0.Up.map Enc.enc),V.int .i64 x1]=some (V.int .i64 x4):=s53 a0.Up x1 gx4;by_cases c6:x4 < 0
  ·rw[if_pos c6]at hF
   cases hF;simp only[simprocAttr,R0,b328,h_0,w2,eq_false c3,w5,eq_true c6];exact fin_ret (by simp only[simprocAttr,R0,fn_out,p328,Rs.ev,take_len_self,h_0,w2,eq_false c3,w5,eq_true c6])
  ·rw[if_neg c6]at hF
   obtain⟨x7,gx7,hF⟩:=bS hF;have w8:ans A 53 [V.isl (a0.Back.map Enc.enc),V.int .i64 x4]=some (V.int .i64 x7):=s53 a0.Back x4 gx7;by_cases c9:x7 < 0
   ·rw[if_pos c9]at hF
    cases hF;simp only[simprocAttr,R0,b328,h_0,w2,eq_false c3,w5,eq_false c6,w8,eq_true c9];exact fin_ret (by simp only[simprocAttr,R0,fn_out,p328,Rs.ev,take_len_self,h_0,w2,eq_false c3,w5,eq_false c6,w8,eq_true c9])
   ·rw[if_neg c9]at hF
    cases hF;simp only[simprocAttr,R0,b328,h_0,w2,eq_false c3,w5,eq_false c6,w8,eq_false c9];exact fin_ret (by simp only[simprocAttr,R0,fn_out,p328,Rs.ev,take_len_self,h_0,w2,eq_false c3,w5,eq_false c6,w8,eq_false c9])
def L339(a0:GComplex):Prop:=
 (∃l0,F10 a0 1048576=some l0∧l0 < 0)∨
 (∃ (l0:Int) (s0:GComplex) (w:GContraction) (cd:Int) (m0:GComplex×Int) (mg:GContraction×Int),F10 a0 1048576=some l0∧¬l0 < 0∧F12 a0=some s0∧F326 s0=some ⟨w,cd⟩∧F154 s0=some ⟨w,cd⟩∧F228 w w=some true∧F16 s0 s0=some true∧FM20 s0 1=some m0∧¬m0.2 < 0∧FM327 w 1=some mg∧F328 mg.1 1=some mg.2∧¬mg.2 < 0)
theorem s339(a0:GComplex)(hF:L339 a0):ans A 339 [(eC a0)]=some (V.bool true):=by
 refine ans_of (f:=p339) rfl rfl rfl fun e hl he=>?_;have h0_0:e.at 0=(eC a0):=he 0 _ rfl;have hl_0:e.length=96:=hl;clear he hl;show W A b339 e ⟨[],0⟩ _;rcases hF with⟨l0,g0,c0⟩|⟨l0,s0,w,cd,m0,mg,g0,c0,t0,gs,gi,ge,q0,k0,ck,gm,gh,cg⟩
 ·have z0:=s10 a0 _ g0
  simp only[simprocAttr,R0,b339,hl_0,h0_0,z0,eq_true c0];exact fin_ret (by simp only[simprocAttr,R0,fn_out,p339,Rs.ev,take_len_self,hl_0,z0,eq_true c0])
 ·have z0:=s10 a0 _ g0
  have u0:ans A 12 [(eC a0)]=some ((eC s0)):=s12 a0 t0;have x0:tans A 12 [1,1,1] [(eC a0)]=some ((eC s0)):=x12 a0 t0;have us:ans A 326 [(eC s0)]=some (V.tup [(eK w),V.int .i64 cd]):=s326 s0 gs;have ui:ans A 154 [(eC s0)]=some (V.tup [(eK w),V.int .i64 cd]):=s154 s0 gi;have xi:tans A 154 [1,1,1] [(eC s0)]=some (V.tup [(eK w),V.int .i64 cd]):=x154 s0 gi;have ue:ans A 228 [(eK w),(eK w)]=some (V.bool true):=s228 w w ge;have y0:ans A 16 [(eC s0),(eC s0)]=some (V.bool true):=s16 s0 s0 q0;have bw:bare 16 [1,1,1] (V.tup [(eK w),V.int .i64 cd])=true:=bare_tup (l:=[⟨w⟩,⟨cd⟩]) (fits_pair rfl (by decide));obtain⟨v0,⟨E_1,c_2⟩,K_3,t_5,r_4,b_6,le_7,o_8⟩:=thawD (α:=GComplex) (by decide) s0 ⟨[(0,none),(1,some [V.isl (w.Down.map Enc.enc),V.isl (w.Up.map Enc.enc),V.isl (w.Back.map Enc.enc)])],2⟩;obtain⟨d0_1,d0_2,rfl, -⟩:=sh_GComplex r_4;simp only[le1,List.length_cons,List.length_nil,Nat.zero_add,Nat.reduceAdd]at b_6 le_7 o_8;have t_5':thaw 16 [1,1,1] ((eC s0)) ⟨[(0,none),(1,some [V.isl (w.Down.map Enc.enc),V.isl (w.Up.map Enc.enc),V.isl (w.Back.map Enc.enc)])],2⟩=some (V.agg [V.int .i64 s0.Prime,d0_1,d0_2],⟨E_1,c_2⟩):=t_5;have f_9:E_1[1]? =some (1,some [V.isl (w.Down.map Enc.enc),V.isl (w.Up.map Enc.enc),V.isl (w.Back.map Enc.enc)]):=o_8 1 (by decide);have f_10:(E_1++[(c_2,some [V.int .i64 s0.Prime,d0_1,d0_2])])[1]? =some (1,some [V.isl (w.Down.map Enc.enc),V.isl (w.Up.map Enc.enc),V.isl (w.Back.map Enc.enc)]):=(List.getElem?_append_left (List.getElem?_eq_some_iff.1 f_9).1).trans f_9;have f_11:(E_1++[(c_2,some [V.int .i64 s0.Prime,d0_1,d0_2])])[E_1.length]? =some (c_2,some [V.int .i64 s0.Prime,d0_1,d0_2]):=get_last _ _;have r_12:=Deep.frame (h':=⟨E_1++[(c_2,some [V.int .i64 s0.Prime,d0_1,d0_2])],c_2+1⟩) r_4 fun k q=>(List.getElem?_append_left (Deep.bd r_4 q):(E_1++[(c_2,some [V.int .i64 s0.Prime,d0_1,d0_2])])[k]? =_);obtain⟨z_13_e0,z_13_1,z_13_2⟩:=fz_GComplex r_12;obtain⟨vg,⟨E_14,c_15⟩,K_16,t_18,r_17,b_19,le_20,o_21⟩:=thawP (α:=GContraction) (s:=1) (ss:=[1,1]) (by decide) w cd ⟨E_1++[(c_2,some [V.int .i64 s0.Prime,d0_1,d0_2])],c_2+1⟩;obtain⟨dg_0,dg_1,dg_2,rfl, -⟩:=sh_GContraction r_17;simp only[le1,List.length_cons,List.length_nil,Nat.zero_add,Nat.reduceAdd]at b_19 le_20 o_21;have t_18':thaw 16 [1,1,1] (V.tup [(eK w),V.int .i64 cd]) ⟨E_1++[(c_2,some [V.int .i64 s0.Prime,d0_1,d0_2])],c_2+1⟩=some (V.tup [V.agg [dg_0,dg_1,dg_2],V.int .i64 cd],⟨E_14,c_15⟩):=t_18;have f_22:E_14[1]? =some (1,some [V.isl (w.Down.map Enc.enc),V.isl (w.Up.map Enc.enc),V.isl (w.Back.map Enc.enc)]):=(o_21 1 (by have:=(List.getElem?_eq_some_iff.1 f_10).1;(try simp only[le1]at this); omega)).trans f_10;have f_23:E_14[E_1.length]? =some (c_2,some [V.int .i64 s0.Prime,d0_1,d0_2]):=(o_21 E_1.length (by have:=(List.getElem?_eq_some_iff.1 f_11).1;(try simp only[le1]at this); omega)).trans f_11;have r_24:=Deep.frame (h':=⟨E_14,c_15⟩) r_12 fun k q=> o_21 k (by have:=Deep.bd r_12 q;(try simp only[le1]at this); omega);have f_25:(E_14++[(c_15,some [dg_0,dg_1,dg_2])])[1]? =some (1,some [V.isl (w.Down.map Enc.enc),V.isl (w.Up.map Enc.enc),V.isl (w.Back.map Enc.enc)]):=(List.getElem?_append_left (List.getElem?_eq_some_iff.1 f_22).1).trans f_22;have f_26:(E_14++[(c_15,some [dg_0,dg_1,dg_2])])[E_1.length]? =some (c_2,some [V.int .i64 s0.Prime,d0_1,d0_2]):=(List.getElem?_append_left (List.getElem?_eq_some_iff.1 f_23).1).trans f_23;have f_27:(E_14++[(c_15,some [dg_0,dg_1,dg_2])])[E_14.length]? =some (c_15,some [dg_0,dg_1,dg_2]):=get_last _ _;have r_28:=Deep.frame (h':=⟨E_14++[(c_15,some [dg_0,dg_1,dg_2])],c_15+1⟩) r_24 fun k q=>(List.getElem?_append_left (Deep.bd r_24 q):(E_14++[(c_15,some [dg_0,dg_1,dg_2])])[k]? =_);have r_29:=Deep.frame (h':=⟨E_14++[(c_15,some [dg_0,dg_1,dg_2])],c_15+1⟩) r_17 fun k q=>(List.getElem?_append_left (Deep.bd r_17 q):(E_14++[(c_15,some [dg_0,dg_1,dg_2])])[k]? =_);obtain⟨z_30_0,z_30_1,z_30_2⟩:=fz_GContraction r_29;obtain⟨z_31_e0,z_31_1,z_31_2⟩:=fz_GComplex r_28;obtain⟨⟨E_32,c_33⟩,w_34,r_35,o_37,le_36⟩:=dm20 k0 _ r_28
  try simp only[le1]at o_37 le_36
  have f_38:E_32[1]? =some (1,some [V.isl (w.Down.map Enc.enc),V.isl (w.Up.map Enc.enc),V.isl (w.Back.map Enc.enc)]):=(o_37 1 (by have:=(List.getElem?_eq_some_iff.1 f_25).1;(try simp only[le1]at this); omega) (fun p=> by have h1:=b_6 _ p; omega)).trans f_25;have f_39:E_32[E_1.length]? =some (c_2,some [V.int .i64 s0.Prime,d0_1,d0_2]):=(o_37 E_1.length (by have:=(List.getElem?_eq_some_iff.1 f_26).1;(try simp only[le1]at this); omega) (fun p=> by have h1:=b_6 _ p; omega)).trans f_26;have f_40:E_32[E_14.length]? =some (c_15,some [dg_0,dg_1,dg_2]):=(o_37 E_14.length (by have:=(List.getElem?_eq_some_iff.1 f_27).1;(try simp only[le1]at this); omega) (fun p=> by have h1:=b_6 _ p; omega)).trans f_27;have r_41:=Deep.frame (h':=⟨E_32,c_33⟩) r_29 fun k q=> o_37 k (by have:=Deep.bd r_29 q;(try simp only[le1]at this); omega) (fun p=> by have h1:=b_6 k p; have h2:=b_19 k q; omega);obtain⟨z_42_0,z_42_1,z_42_2⟩:=fz_GContraction r_41;obtain⟨⟨E_43,c_44⟩,w_45,r_46,o_48,le_47⟩:=dm327 gm _ r_41
  try simp only[le1]at o_48 le_47
  have f_49:E_43[1]? =some (1,some [V.isl (w.Down.map Enc.enc),V.isl (w.Up.map Enc.enc),V.isl (w.Back.map Enc.enc)]):=(o_48 1 (by have:=(List.getElem?_eq_some_iff.1 f_38).1;(try simp only[le1]at this); omega) (fun p=> by have h1:=b_19 _ p; omega)).trans f_38;have f_50:E_43[E_1.length]? =some (c_2,some [V.int .i64 s0.Prime,d0_1,d0_2]):=(o_48 E_1.length (by have:=(List.getElem?_eq_some_iff.1 f_39).1;(try simp only[le1]at this); omega) (fun p=> by have h1:=b_19 _ p; omega)).trans f_39;have f_51:E_43[E_14.length]? =some (c_15,some [dg_0,dg_1,dg_2]):=(o_48 E_14.length (by have:=(List.getElem?_eq_some_iff.1 f_40).1;(try simp only[le1]at this); omega) (fun p=> by have h1:=b_19 _ p; omega)).trans f_40;have r_52:=Deep.frame (h':=⟨E_43,c_44⟩) r_35 fun k q=> o_48 k (by have:=Deep.bd r_35 q;(try simp only[le1]at this); omega) (fun p=> by have h1:=b_19 k p; have h2:=b_6 k q; omega);obtain⟨z_53_0,z_53_1,z_53_2⟩:=fz_GContraction r_46;have uh:ans A 328 [V.agg [V.isl (List.map Enc.enc mg.1.Down),V.isl (List.map Enc.enc mg.1.Up),V.isl (List.map Enc.enc mg.1.Back)],V.int .i64 1]=some (V.int .i64 mg.2):=by
   exact s328 mg.1 1 gh
  have f_54:(E_43++[(c_44,some [V.isl (w.Down.map Enc.enc),V.isl (w.Up.map Enc.enc),V.isl (w.Back.map Enc.enc)])])[1]? =some (1,some [V.isl (w.Down.map Enc.enc),V.isl (w.Up.map Enc.enc),V.isl (w.Back.map Enc.enc)]):=(List.getElem?_append_left (List.getElem?_eq_some_iff.1 f_49).1).trans f_49;have f_55:(E_43++[(c_44,some [V.isl (w.Down.map Enc.enc),V.isl (w.Up.map Enc.enc),V.isl (w.Back.map Enc.enc)])])[E_1.length]? =some (c_2,some [V.int .i64 s0.Prime,d0_1,d0_2]):=(List.getElem?_append_left (List.getElem?_eq_some_iff.1 f_50).1).trans f_50;have f_56:(E_43++[(c_44,some [V.isl (w.Down.map Enc.enc),V.isl (w.Up.map Enc.enc),V.isl (w.Back.map Enc.enc)])])[E_14.length]? =some (c_15,some [dg_0,dg_1,dg_2]):=(List.getElem?_append_left (List.getElem?_eq_some_iff.1 f_51).1).trans f_51;have f_57:(E_43++[(c_44,some [V.isl (w.Down.map Enc.enc),V.isl (w.Up.map Enc.enc),V.isl (w.Back.map Enc.enc)])])[E_43.length]? =some (c_44,some [V.isl (w.Down.map Enc.enc),V.isl (w.Up.map Enc.enc),V.isl (w.Back.map Enc.enc)]):=get_last _ _;have r_58:=Deep.frame (h':=⟨E_43++[(c_44,some [V.isl (w.Down.map Enc.enc),V.isl (w.Up.map Enc.enc),V.isl (w.Back.map Enc.enc)])],c_44+1⟩) r_52 fun k q=>(List.getElem?_append_left (Deep.bd r_52 q):(E_43++[(c_44,some [V.isl (w.Down.map Enc.enc),V.isl (w.Up.map Enc.enc),V.isl (w.Back.map Enc.enc)])])[k]? =_);have r_59:=Deep.frame (h':=⟨E_43++[(c_44,some [V.isl (w.Down.map Enc.enc),V.isl (w.Up.map Enc.enc),V.isl (w.Back.map Enc.enc)])],c_44+1⟩) r_46 fun k q=>(List.getElem?_append_left (Deep.bd r_46 q):(E_43++[(c_44,some [V.isl (w.Down.map Enc.enc),V.isl (w.Up.map Enc.enc),V.isl (w.Back.map Enc.enc)])])[k]? =_);obtain⟨z_60_0,z_60_1,z_60_2⟩:=fz_GContraction r_59;simp only[simprocAttr,R0,b339,hl_0,h0_0,callM_tans,callM_plain_eq,get_last,set_last,le1,z0,eq_false c0,u0,x0,us,ui,xi,ue,y0,bw,t_5',f_9,f_10,f_11,z_13_1,z_13_2,t_18',f_22,f_23,f_25,f_26,f_27,z_30_0,z_30_1,z_30_2,z_31_1,z_31_2,w_34,f_38,f_39,f_40,z_42_0,z_42_1,z_42_2,eq_false ck,w_45,f_49,f_50,f_51,z_53_0,z_53_1,z_53_2,uh,eq_false cg,f_54,f_55,f_56,f_57,z_60_0,z_60_1,z_60_2];exact fin_ret (by simp only[simprocAttr,R0,fn_out,p339,Rs.ev,take_len_self,hl_0])
end
end Rv
