/- An abstract machine for translated code, proved to answer as the code does: part 3 -/
import Derived.Test.YtgiabfngopkpmaaGreatRv1
import Derived.KernelRfl
import Derived.WalkKit
import Derived.ProofKit
import Derived.OpenShut
import Derived.ChangeOld
import Derived.Carry
import Derived.WideShapes
import Derived.DataReads
set_option linter.unusedVariables false
set_option linter.unusedSimpArgs false
namespace Rv
open Go (IntKind BinOp UnOp)
theorem condQ_t{A:Prog}{a b:C}{e:Env}{h:Heap}{R:Ex→Env→Heap→Prop}{t:Bool}:condQ A a b e h R (.bool t)=if t=true then W A a e h R else W A b e h R:=rfl
theorem take_map_len{α:Type}(l:List α)(f:α→V):(l.map f).take l.length=l.map f:=wZ (by simp)
theorem xn(n:Nat)(l:List V):jI 1 n l=l:=by simp[jI]
theorem ev_t(e:Env)(n:Nat):X.ev e (.t n)=e.at n:=rfl
theorem ev_c(e:Env)(v:V):X.ev e (.c v)=v:=rfl
theorem intV_i(n:Int):intV (.int .i64 n)=some n:=rfl
section
variable {c:Call} {e:Env} {h:Heap}
end
theorem take_int(f:Nat)(k:IntKind)(n:Int)(h:Heap):take (f+1) [] (.int k n) h=some (.int k n,h):=rfl
theorem take_bool(f:Nat)(b:Bool)(h:Heap):take (f+1) [] (.bool b) h=some (.bool b,h):=rfl
theorem take_nils(f:Nat)(h:Heap):take (f+1) [] .nils h=some (.isl [],h):=rfl
theorem take_agg(f:Nat)(cs:List V)(h:Heap):take (f+1) [] (.agg cs) h=match mapS (take f []) cs h with|some (ds,h2)=> some (.agg ds,h2)|none=> none:=rfl
theorem take_sl1(f key uid n:Nat)(ents:List (Nat×Option (List V)))(clk:Nat):take (f+1) [] (.sl key uid 0 n 1) ⟨ents,clk⟩=match(Heap.mk ents clk).get key uid with
  |some cs=> if 0+n*1≤cs.length∧0 < 1∧hdOk [] 1=true then match mapS (take f []) ((cs.drop 0).take (n*1)) ((Heap.mk ents clk).kill key)with|some (ds,h2)=> some (.isl (jI 1 n ds),h2)|none=> none else none
  |none=> none:=by
 exact take_sl ..
theorem srcV_sl(h:Heap)(sz key uid off len s:Nat):srcV h sz (.sl key uid off len s)=match h.get key uid with|some cs=> if off+len*sz≤cs.length∧s=sz then some (len,(cs.drop off).take (len*sz))else none|none=> none:=rfl
theorem srcV_nils(h:Heap)(sz:Nat):srcV h sz .nils=some (0,[]):=rfl
theorem take_sl2(f key uid n:Nat)(ents:List (Nat×Option (List V)))(clk:Nat):take (f+1) [1] (.sl key uid 0 n 1) ⟨ents,clk⟩=match(Heap.mk ents clk).get key uid with
  |some cs=> if 0+n*1≤cs.length∧0 < 1∧hdOk [1] 1=true then match mapS (take f []) ((cs.drop 0).take (n*1)) ((Heap.mk ents clk).kill key)with|some (ds,h2)=> some (.isl (jI 1 n ds),h2)|none=> none else none
  |none=> none:=take_sl ..
theorem hdOk_1:hdOk [1] 1=true:=rfl
theorem kill_mk(ents:List (Nat×Option (List V)))(clk key:Nat):(Heap.mk ents clk).kill key=⟨ents.set key (0,none),clk⟩:=rfl
theorem hdOk_nil(n:Nat):hdOk [] n=true:=rfl
theorem nz_sl(md:Option Nat)(key uid off len sz:Nat)(h:Heap):nzV md (.sl key uid off len sz) h=match h.get key uid with|some cs=>(match mapS (nz1 md) cs h with|some (ds,h1)=> some (.sl key uid off len sz,h1.put key uid ds)|none=> none)|none=> none:=rfl
theorem nz_ptr(md:Option Nat)(key uid off:Nat)(h:Heap):nzV md (.ptr key uid off) h=match h.get key uid with|some cs=>(match mapS (nz1 md) cs h with|some (ds,h1)=> some (.ptr key uid off,h1.put key uid ds)|none=> none)|none=> none:=rfl
theorem nz_agg(md:Option Nat)(cs:List V)(h:Heap):nzV md (.agg cs) h=match mapS (nz1 md) cs h with|some (ds,h1)=> some (.agg ds,h1)|none=> none:=rfl
theorem nz_nils(md:Option Nat)(h:Heap):nzV md .nils h=nz1 md .nils h:=rfl
theorem nz1_some(s:Nat)(ents:List (Nat×Option (List V)))(clk:Nat):nz1 (some s) .nils ⟨ents,clk⟩=some (.sl ents.length clk 0 0 s,⟨ents++[(clk,some [])],clk+1⟩):=rfl
theorem nz1_none(h:Heap):nz1 none .nils h=some (.isl [],h):=rfl
theorem nz1_int(md:Option Nat)(k:IntKind)(n:Int)(h:Heap):nz1 md (.int k n) h=some (.int k n,h):=rfl
theorem nz1_bool(md:Option Nat)(b:Bool)(h:Heap):nz1 md (.bool b) h=some (.bool b,h):=rfl
theorem nz1_isl(md:Option Nat)(l:List V)(h:Heap):nz1 md (.isl l) h=some (.isl l,h):=rfl
theorem nz1_sl(md:Option Nat)(a b c d e:Nat)(h:Heap):nz1 md (.sl a b c d e) h=some (.sl a b c d e,h):=rfl
theorem chunk3_1(a b c:V):jI 3 1 [a,b,c]=[.agg [a,b,c]]:=rfl
theorem chunk3_2(a b c d e f:V):jI 3 2 [a,b,c,d,e,f]=[.agg [a,b,c],.agg [d,e,f]]:=rfl
theorem chunk3_3(a b c d e f g h i:V):jI 3 3 [a,b,c,d,e,f,g,h,i]=[.agg [a,b,c],.agg [d,e,f],.agg [g,h,i]]:=rfl
theorem chunk3_4(a b c d e f g h i j k l:V):jI 3 4 [a,b,c,d,e,f,g,h,i,j,k,l]=[.agg [a,b,c],.agg [d,e,f],.agg [g,h,i],.agg [j,k,l]]:=rfl
theorem take_sl3(f key uid n:Nat)(ents:List (Nat×Option (List V)))(clk:Nat):take (f+1) [] (.sl key uid 0 n 3) ⟨ents,clk⟩=match(Heap.mk ents clk).get key uid with
  |some cs=> if 0+n*3≤cs.length∧0 < 3∧hdOk [] 3=true then match mapS (take f []) ((cs.drop 0).take (n*3)) ((Heap.mk ents clk).kill key)with|some (ds,h2)=> some (.isl (jI 3 n ds),h2)|none=> none else none
  |none=> none:=take_sl ..
theorem guardQ_undef{A:Prog}{dst:Option Nat}{o:O}{w:Bool}{os:List Op}{e:Env}{h:Heap}{Q:Env→Heap→Prop}:guardQ A dst o w os e h Q V.undef=WO A os (e.put dst V.undef) h Q:=rfl
theorem un_neg(n:Int):unV .neg (.int .i64 n)=some (.int .i64 (Go.IntKind.wrap .i64 (0 - n))):=rfl
theorem encT2_eq{α β:Type}[Enc α][Enc β](a:α)(b:β):EncR.enc (T2.mk a b)=V.tup [Enc.enc a,Enc.enc b]:=rfl
theorem encT3_eq{α β γ:Type}[Enc α][Enc β][Enc γ](a:α)(b:β)(c:γ):EncR.enc (T3.mk a b c)=V.tup [Enc.enc a,Enc.enc b,Enc.enc c]:=rfl
theorem take_ptr(f key uid off:Nat)(ents:List (Nat×Option (List V)))(clk:Nat):take (f+1) [] (.ptr key uid off) ⟨ents,clk⟩=match(Heap.mk ents clk).get key uid with|some cs=>(match mapS (take f []) (cs.drop off) ((Heap.mk ents clk).kill key)with|some (ds,h2)=> some (.iptr ds,h2)|none=> none)|none=> none:=rfl
theorem take_tup1(f:Nat)(v:V)(k:IntKind)(x:Int)(h:Heap):take (f+2) [1] (.tup [v,.int k x]) h=match take (f+1) [1] v h with|some (t,h2)=> some (.tup [t,.int k x],h2)|none=> none:=by
 simp only[take,mapS];split <;> rename_i h1 <;> split at h1 <;> simp_all
theorem take_nils2(f:Nat)(h:Heap):take (f+1) [1] .nils h=some (.isl [],h):=rfl
theorem take_iptr(f:Nat)(cs:List V)(h:Heap):take (f+1) [] (.iptr cs) h=some (.iptr cs,h):=rfl
theorem take_str(f:Nat)(l:List Nat)(h:Heap):take (f+1) [] (.str l) h=some (.str l,h):=rfl
theorem qe(f:Fn)(e:Env)(h:Heap):f.out e h=match mapO (Rs.ev e h) f.results with|some [v]=> some v|some vs=> some (.tup vs)|none=> none:=rfl
theorem RR:type_of%(And.intro @W_seq <|And.intro @W_reg <|And.intro @W_skip <|And.intro @W_exit <|And.intro @W_ret <|And.intro @qi <|And.intro @W_cond <|And.intro @WO_op <|And.intro @WO_nil <|And.intro @WO_guarded <|
 And.intro @stepQ_some <|And.intro @stepQ_none <|And.intro @ev_t <|And.intro @ev_c <|And.intro @put_at <|And.intro @put_none <|And.intro @xk <|And.intro @thenQ_normal <|And.intro @thenQ_exit <|And.intro @thenQ_ret <|
 And.intro @xH <|And.intro @xI <|And.intro @blockQ_ret <|And.intro @condQ_t <|And.intro @guardQ_bool <|And.intro @guardQ_undef <|And.intro @loopQ_exit <|And.intro @loopQ_ret <|
 And.intro @lenV_isl <|And.intro @lenV_nils <|And.intro @lenV_sl <|And.intro @cut_true <|And.intro @cut_false <|And.intro @trunc_mk <|
 And.intro @bin_lss <|And.intro @bin_leq <|And.intro @bin_gtr <|And.intro @bin_geq <|And.intro @bin_neq <|And.intro @bin_eql <|And.intro @bin_add <|And.intro @bin_sub <|And.intro @bin_mul <|And.intro @bin_quo <|And.intro @bin_rem <|
 And.intro @un_not <|And.intro @un_neg <|And.intro @nz_sl <|And.intro @nz_ptr <|And.intro @nz_agg <|And.intro @nz_nils <|And.intro @nz1_some <|And.intro @nz1_none <|And.intro @nz1_int <|And.intro @nz1_bool <|And.intro @nz1_isl <|And.intro @nz1_sl <|And.intro @chunk3_1 <|And.intro @chunk3_2 <|And.intro @chunk3_3 <|And.intro @chunk3_4 <|And.intro @take_sl3 <|And.intro @srcV_enc <|And.intro @ze <|And.intro @bin1_eql <|And.intro @bin1_neq <|And.intro @intV_i <|
 And.intro @get_at <|And.intro @push_mk <|And.intro @put_mk <|And.intro @kill_mk <|And.intro @hdOk_nil <|And.intro @hdOk_1 <|And.intro @srcV_sl <|And.intro @srcV_nils <|
 And.intro @ofCells_one <|And.intro @ofCells_n <|And.intro @cells_int <|And.intro @cells_bool <|And.intro @cells_isl <|And.intro @cells_nils <|And.intro @cells_agg <|And.intro @cells_sl <|And.intro @cells_ptr <|
 And.intro @tupless_int <|And.intro @tupless_bool <|And.intro @tupless_isl <|And.intro @tupless_nils <|And.intro @tupless_agg <|And.intro @tupless_sl <|
 And.intro @xn <|And.intro @take_map_len <|And.intro @callM_ans <|And.intro @enc_int <|And.intro @enc_bool <|And.intro @enc_list <|And.intro @enc_u8 <|And.intro @enc_str <| @FZ_eq):=And.intro @W_seq <|And.intro @W_reg <|And.intro @W_skip <|And.intro @W_exit <|And.intro @W_ret <|And.intro @qi <|And.intro @W_cond <|And.intro @WO_op <|And.intro @WO_nil <|And.intro @WO_guarded <|
 And.intro @stepQ_some <|And.intro @stepQ_none <|And.intro @ev_t <|And.intro @ev_c <|And.intro @put_at <|And.intro @put_none <|And.intro @xk <|And.intro @thenQ_normal <|And.intro @thenQ_exit <|And.intro @thenQ_ret <|
 And.intro @xH <|And.intro @xI <|And.intro @blockQ_ret <|And.intro @condQ_t <|And.intro @guardQ_bool <|And.intro @guardQ_undef <|And.intro @loopQ_exit <|And.intro @loopQ_ret <|
 And.intro @lenV_isl <|And.intro @lenV_nils <|And.intro @lenV_sl <|And.intro @cut_true <|And.intro @cut_false <|And.intro @trunc_mk <|
 And.intro @bin_lss <|And.intro @bin_leq <|And.intro @bin_gtr <|And.intro @bin_geq <|And.intro @bin_neq <|And.intro @bin_eql <|And.intro @bin_add <|And.intro @bin_sub <|And.intro @bin_mul <|And.intro @bin_quo <|And.intro @bin_rem <|
 And.intro @un_not <|And.intro @un_neg <|And.intro @nz_sl <|And.intro @nz_ptr <|And.intro @nz_agg <|And.intro @nz_nils <|And.intro @nz1_some <|And.intro @nz1_none <|And.intro @nz1_int <|And.intro @nz1_bool <|And.intro @nz1_isl <|And.intro @nz1_sl <|And.intro @chunk3_1 <|And.intro @chunk3_2 <|And.intro @chunk3_3 <|And.intro @chunk3_4 <|And.intro @take_sl3 <|And.intro @srcV_enc <|And.intro @ze <|And.intro @bin1_eql <|And.intro @bin1_neq <|And.intro @intV_i <|
 And.intro @get_at <|And.intro @push_mk <|And.intro @put_mk <|And.intro @kill_mk <|And.intro @hdOk_nil <|And.intro @hdOk_1 <|And.intro @srcV_sl <|And.intro @srcV_nils <|
 And.intro @ofCells_one <|And.intro @ofCells_n <|And.intro @cells_int <|And.intro @cells_bool <|And.intro @cells_isl <|And.intro @cells_nils <|And.intro @cells_agg <|And.intro @cells_sl <|And.intro @cells_ptr <|
 And.intro @tupless_int <|And.intro @tupless_bool <|And.intro @tupless_isl <|And.intro @tupless_nils <|And.intro @tupless_agg <|And.intro @tupless_sl <|
 And.intro @xn <|And.intro @take_map_len <|And.intro @callM_ans <|And.intro @enc_int <|And.intro @enc_bool <|And.intro @enc_list <|And.intro @enc_u8 <|And.intro @enc_str <| @FZ_eq
theorem RZ:type_of%(And.intro @frz_int <|And.intro @frz_bool <|And.intro @frz_str <|And.intro @frz_isl <|And.intro @frz_iptr <|And.intro @frz_nils <|And.intro @frz_nilp <|And.intro @frz_nilf <|And.intro @frz_agg <|And.intro @frz_tup <|And.intro @frz_fn <|And.intro @frz_ptr <|And.intro @frz_sl <|
 And.intro @refless_int <|And.intro @refless_bool <|And.intro @refless_str <|And.intro @refless_isl <|And.intro @refless_iptr <|And.intro @refless_nils <|And.intro @refless_agg <|And.intro @refless_fn <|And.intro @refless_ptr <|And.intro @bare_int <|And.intro @bare_bool <|
 And.intro @take_tup1 <|And.intro @take_nils2 <|And.intro @take_int <|And.intro @take_bool <|And.intro @take_nils <|And.intro @take_agg <|And.intro @take_ptr <|And.intro @take_iptr <|And.intro @take_str <|And.intro @take_sl1 <|And.intro @take_sl2 <| @take_isl):=And.intro @frz_int <|And.intro @frz_bool <|And.intro @frz_str <|And.intro @frz_isl <|And.intro @frz_iptr <|And.intro @frz_nils <|And.intro @frz_nilp <|And.intro @frz_nilf <|And.intro @frz_agg <|And.intro @frz_tup <|And.intro @frz_fn <|And.intro @frz_ptr <|And.intro @frz_sl <|
 And.intro @refless_int <|And.intro @refless_bool <|And.intro @refless_str <|And.intro @refless_isl <|And.intro @refless_iptr <|And.intro @refless_nils <|And.intro @refless_agg <|And.intro @refless_fn <|And.intro @refless_ptr <|And.intro @bare_int <|And.intro @bare_bool <|
 And.intro @take_tup1 <|And.intro @take_nils2 <|And.intro @take_int <|And.intro @take_bool <|And.intro @take_nils <|And.intro @take_agg <|And.intro @take_ptr <|And.intro @take_iptr <|And.intro @take_str <|And.intro @take_sl1 <|And.intro @take_sl2 <| @take_isl
theorem RB:type_of%(And.intro @yA.{0,0}<|And.intro @wX.{0}<|And.intro @wU.{0}<|And.intro @vA.{0,0}<|And.intro @uN.{0,0}<|And.intro @List.getElem?_map.{0,0}<|And.intro @vZ.{0,0}<|And.intro @uK.{0,0}<|And.intro @List.getElem?_cons_zero.{0}<|And.intro @List.getElem?_cons_succ.{0}<|
 And.intro @List.set_cons_zero.{0}<|And.intro @List.set_cons_succ.{0}<|And.intro @vJ.{0}<|And.intro @vN.{0}<|And.intro @vW.{0}<|And.intro @List.drop_succ_cons.{0}<|And.intro @List.take_succ_cons.{0}<|And.intro @uG.{0}<|And.intro @List.take_nil.{0}<|And.intro @List.drop_nil.{0}<|
 And.intro @List.all_cons.{0}<|And.intro @List.all_nil.{0}<|And.intro @vH <|And.intro @yK <|And.intro @wG <|And.intro @and_true <|And.intro @true_and <|And.intro @and_self <|And.intro @eq_self.{1}<|And.intro @decide_eq_true_eq <|And.intro @decide_eq_false_iff_not <|
 And.intro @Bool.not_true <|And.intro @Bool.not_false <|And.intro @uO <|And.intro @Bool.and_true <|And.intro @Bool.true_and <|And.intro @Bool.true_or <|And.intro @Bool.or_true <|And.intro @Bool.and_self <|And.intro @ne_eq.{1}<|And.intro @not_true_eq_false <|And.intro @not_false_eq_true <|
 And.intro @decide_true <|And.intro @decide_false <|And.intro @decide_not <|And.intro @Classical.not_not <|And.intro @wE.{0}<|And.intro @Bool.true_eq_false <|And.intro @yR <|And.intro @if_true.{1}<|And.intro @if_false.{1}<|And.intro @yF <|And.intro @encT2_eq <|And.intro @encT3_eq <| @yT):=And.intro @yA.{0,0}<|And.intro @wX.{0}<|And.intro @wU.{0}<|And.intro @vA.{0,0}<|And.intro @uN.{0,0}<|And.intro @List.getElem?_map.{0,0}<|And.intro @vZ.{0,0}<|And.intro @uK.{0,0}<|And.intro @List.getElem?_cons_zero.{0}<|And.intro @List.getElem?_cons_succ.{0}<|
 And.intro @List.set_cons_zero.{0}<|And.intro @List.set_cons_succ.{0}<|And.intro @vJ.{0}<|And.intro @vN.{0}<|And.intro @vW.{0}<|And.intro @List.drop_succ_cons.{0}<|And.intro @List.take_succ_cons.{0}<|And.intro @uG.{0}<|And.intro @List.take_nil.{0}<|And.intro @List.drop_nil.{0}<|
 And.intro @List.all_cons.{0}<|And.intro @List.all_nil.{0}<|And.intro @vH <|And.intro @yK <|And.intro @wG <|And.intro @and_true <|And.intro @true_and <|And.intro @and_self <|And.intro @eq_self.{1}<|And.intro @decide_eq_true_eq <|And.intro @decide_eq_false_iff_not <|
 And.intro @Bool.not_true <|And.intro @Bool.not_false <|And.intro @uO <|And.intro @Bool.and_true <|And.intro @Bool.true_and <|And.intro @Bool.true_or <|And.intro @Bool.or_true <|And.intro @Bool.and_self <|And.intro @ne_eq.{1}<|And.intro @not_true_eq_false <|And.intro @not_false_eq_true <|
 And.intro @decide_true <|And.intro @decide_false <|And.intro @decide_not <|And.intro @Classical.not_not <|And.intro @wE.{0}<|And.intro @Bool.true_eq_false <|And.intro @yR <|And.intro @if_true.{1}<|And.intro @if_false.{1}<|And.intro @yF <|And.intro @encT2_eq <|And.intro @encT3_eq <| @yT
end Rv
namespace Rv
open Go (IntKind)
def arc(k:IntKind)(n:Nat)(l:List Int):List V:=(List.range n).map fun i=> V.int k (l.getD i 0)
structure Ar (k:IntKind) (n:Nat) where
 val:List Int
def arP(l:List Int)(o m:Nat):List Int:=(l.drop o).take m
def arN(n:Nat)(l:List Int):List Int:=if l.length=n then l else(List.range n).map fun i=> l.getD i 0
def arW(n:Nat)(l:List Int)(o:Nat)(x:Int):List Int:=(arN n l).set o x
def arU(n:Nat)(l:List Int)(o m:Nat)(y:List Int):List Int:=((arN n l).take o++(arN m y++(arN n l).drop (o+m))).take n
def ixI(n:Nat)(i:Int):Option Nat:=if 0≤i∧i < n then some i.toNat else none
def arQ(n:Nat)(a b:List Int):Bool:=decide (∀i,i < n→a.getD i 0=b.getD i 0)
section
variable {k:IntKind} {n m o:Nat} {l y:List Int} {x:Int}
theorem qj:(arc k n l).length=n:=by simp[arc]
theorem arc_at{i:Nat}:(arc k n l)[i]? =if i < n then some (V.int k (l.getD i 0))else none:=by
 unfold arc;rw[List.getElem?_map];by_cases h:i < n
 ·rw[List.getElem?_range h,if_pos h]; rfl
 ·rw[List.getElem?_eq_none (by simp; omega),if_neg h]; rfl
theorem arc_get?{i:Nat}(h:i < n):(arc k n l)[i]? =some (V.int k (l.getD i 0)):=by rw[arc_at,if_pos h]
theorem arc_mem{v:V}(h:v∈arc k n l):∃i,v=V.int k i:=by
 obtain⟨i,_,rfl⟩:=vI.1 h; exact⟨_,rfl⟩
theorem arc_ext{a:List V}(h1:a.length=n)(h2:∀i,i < n→a[i]? =some (V.int k (l.getD i 0))):a=arc k n l:=by
 apply List.ext_getElem?;intro i;by_cases hi:i < n
 ·rw[h2 i hi,arc_get? hi]
 ·rw[List.getElem?_eq_none (by omega),List.getElem?_eq_none (by rw[qj]; omega)]
def zA(k:IntKind)(n:Nat):List V:=List.replicate n (V.int k 0)
theorem zA_arc:zA k n=arc k n []:=arc_ext (by simp[zA]) fun i hi=> by simp[zA,hi]
theorem arc_take:(arc k n l).take n=arc k n l:=wZ (by rw[qj]; exact wG _)
theorem arP_get{i:Nat}(h:i < m):(arP l o m).getD i 0=l.getD (o+i) 0:=by
 simp only[arP,List.getD_eq_getElem?_getD,List.getElem?_take,List.getElem?_drop];rw[if_pos h]
theorem arc_part(h:o+m≤n):((arc k n l).drop o).take m=arc k m (arP l o m):=by
 apply arc_ext
 ·simp only[wV,wQ,qj]; omega
 ·intro i hi
  rw[List.getElem?_take,if_pos hi,List.getElem?_drop,arc_get? (by omega),arP_get hi]
theorem arc_one(h:o < n):qf none ((arc k n l).drop o)=some (.int k (l.getD o 0)):=by
 rw[yB (by rw[qj]; exact h)];have:=arc_get? (k:=k) (l:=l) h;rw[List.getElem?_eq_getElem (by rw[qj]; exact h)]at this;exact this
theorem jY:(arN n l).length=n:=by
 unfold arN; split
 ·assumption
 ·simp
theorem arN_get?{i:Nat}(h:i < n):(arN n l)[i]? =some (l.getD i 0):=by
 unfold arN;split
 ·rename_i hl
  rw[List.getD_eq_getElem?_getD,List.getElem?_eq_getElem (by omega)]; rfl
 ·rw[List.getElem?_map,List.getElem?_range h]; rfl
theorem arW_get{i:Nat}(h:i < n):(arW n l o x).getD i 0=if i=o then x else l.getD i 0:=by
 simp only[arW,List.getD_eq_getElem?_getD,List.getElem?_set,jY];by_cases hi:o=i
 ·subst hi; rw[if_pos rfl,if_pos h,if_pos rfl]; rfl
 ·rw[if_neg hi,if_neg (yW hi),arN_get? h,List.getD_eq_getElem?_getD]; rfl
theorem arW_len:(arW n l o x).length=n:=by simp[arW,jY]
theorem arU_len:(arU n l o m y).length=n:=by
 simp only[arU,wV,wJ,wQ,jY]; omega
theorem arU_get{i:Nat}(h:i < n):(arU n l o m y).getD i 0=if o≤i∧i < o+m then y.getD (i - o) 0 else l.getD i 0:=by
 rw[List.getD_eq_getElem?_getD];unfold arU;rw[List.getElem?_take,if_pos h];by_cases h1:i < o
 ·rw[List.getElem?_append_left (by simp only[wV,jY]; omega),List.getElem?_take,if_pos h1,arN_get? h,if_neg (by omega)]; rfl
 ·by_cases h2:i < o+m
  ·rw[List.getElem?_append_right (by simp only[wV,jY]; omega),List.getElem?_append_left (by simp only[wV,jY]; omega),arN_get? (by simp only[wV,jY]; omega),if_pos ⟨by omega,h2⟩]
   simp only[wV,jY];rw[show i - min o n=i - o by omega]; rfl
  ·rw[List.getElem?_append_right (by simp only[wV,jY]; omega),List.getElem?_append_right (by simp only[wV,jY]; omega),List.getElem?_drop,if_neg (by omega)]
   simp only[wV,jY];rw[show o+m+(i - min o n - m)=i by omega,arN_get? h]; rfl
theorem arc_set(h:o < n):(arc k n l).take o++[V.int k x]++(arc k n l).drop (o+1)=arc k n (arW n l o x):=by
 apply arc_ext
 ·simp only[wJ,wV,wQ,qj,wX,wU]; omega
 ·intro i hi
  rw[arW_get hi];by_cases h1:i < o
  ·rw[List.getElem?_append_left (by simp only[wJ,wV,qj,wX,wU]; omega),List.getElem?_append_left (by simp only[wV,qj]; omega),List.getElem?_take,if_pos h1,arc_get? hi,if_neg (by omega)]
  ·by_cases h2:i=o
   ·subst h2
    rw[List.getElem?_append_left (by simp only[wJ,wV,qj,wX,wU]; omega),List.getElem?_append_right (by simp only[wV,qj]; omega),if_pos rfl];simp only[wV,qj];rw[show i - min i n=0 by omega]; rfl
   ·rw[List.getElem?_append_right (by simp only[wJ,wV,qj,wX,wU]; omega),List.getElem?_drop,if_neg h2]
    simp only[wJ,wV,qj,wX,wU];rw[show o+1+(i - (min o n+(0+1)))=i by omega,arc_get? hi]
theorem arc_sets(h:o+m≤n):(arc k n l).take o++arc k m y++(arc k n l).drop (o+m)=arc k n (arU n l o m y):=by
 apply arc_ext
 ·simp only[wJ,wV,wQ,qj]; omega
 ·intro i hi
  rw[arU_get hi];by_cases h1:i < o
  ·rw[List.getElem?_append_left (by simp only[wJ,wV,qj]; omega),List.getElem?_append_left (by simp only[wV,qj]; omega),List.getElem?_take,if_pos h1,arc_get? hi,if_neg (by omega)]
  ·by_cases h2:i < o+m
   ·rw[List.getElem?_append_left (by simp only[wJ,wV,qj]; omega),List.getElem?_append_right (by simp only[wV,qj]; omega),if_pos ⟨by omega,h2⟩]
    simp only[wV,qj];rw[arc_get? (by omega),show i - min o n=i - o by omega]
   ·rw[List.getElem?_append_right (by simp only[wJ,wV,qj]; omega),List.getElem?_drop,if_neg (by omega)]
    simp only[wJ,wV,qj];rw[show o+m+(i - (min o n+m))=i by omega,arc_get? hi]
theorem qU{i:Int}{j:Nat}(h:ixI n i=some j):0≤i∧i < n∧i.toNat=j∧j < n:=by
 unfold ixI at h;split at h
 ·rename_i hc; cases h; exact⟨hc.1,hc.2,rfl,by omega⟩
 ·cases h
theorem arc_frz(h:Heap)(f:Nat):mapO (frz h (f+1)) (arc k n l)=some (arc k n l):=mapO_id fun v hv=> by
 obtain⟨i,rfl⟩:=arc_mem hv; rfl
theorem arc_tk(h:Heap)(f:Nat):mapS (take (f+1) []) (arc k n l) h=some (arc k n l,h):=mapS_id fun v hv s=> by
 obtain⟨i,rfl⟩:=arc_mem hv; rfl
theorem arc_rl(f:Nat):(arc k n l).all (qB (f+1))=true:=vK.2 fun v hv=> by
 obtain⟨i,rfl⟩:=arc_mem hv; rfl
theorem arc_bare(f:Nat)(ss:List Nat):(arc k n l).all (bare (f+1) ss)=true:=vK.2 fun v hv=> by
 obtain⟨i,rfl⟩:=arc_mem hv; rfl
theorem mid_part{cs a b:List V}(e:cs=a++(arc k n l++b)){p i:Nat}(ha:a.length=o)(hp:p=o+i)(h:i+m≤n):List.take m (List.drop p cs)=arc k m (arP l i m):=by
 subst e; subst hp; subst ha;rw[←wH,List.drop_left,List.drop_append_of_le_length (by rw[qj]; omega),List.take_append_of_le_length (by simp only[wQ,qj]; omega)];exact arc_part h
theorem mid_one{cs a b:List V}(e:cs=a++(arc k n l++b)){p i:Nat}(ha:a.length=o)(hp:p=o+i)(h:i < n):qf none (List.drop p cs)=some (.int k (l.getD i 0)):=by
 subst e; subst hp; subst ha;rw[←wH,List.drop_left,List.drop_append_of_le_length (by rw[qj]; omega)];have:=arc_one (k:=k) (l:=l) h;cases hq:List.drop i (arc k n l)with
 |nil=> rw[hq]at this; cases this
 |cons v vs=> rw[hq]at this; exact this
theorem mid_full{cs a b:List V}(e:cs=a++(arc k n l++b)){p:Nat}(ha:a.length=o)(hp:p=o):List.take n (List.drop p cs)=arc k n l:=by
 subst e; subst hp; subst ha;rw[List.drop_left,List.take_append_of_le_length (by rw[qj]; exact wG _),arc_take]
theorem app_cut(A M B:List V){p q:Nat}(hp:p≤M.length)(hq:q≤M.length)(y:List V):List.take (A.length+p) (A++(M++B))++y++List.drop (A.length+q) (A++(M++B))=A++((M.take p++y++M.drop q)++B):=by
 rw[List.take_append,wZ (by omega),show A.length+p - A.length=p by omega,List.take_append_of_le_length hp,←wH,List.drop_left,List.drop_append_of_le_length hq];simp only[wY]
theorem mid_setf{cs a b:List V}(e:cs=a++(arc k n l++b)){p q:Nat}(ha:a.length=o)(hp:p=o)(hq:q=p+n):List.take p cs++arc k n y++List.drop q cs=a++(arc k n y++b):=by
 subst e; subst hq; subst hp; subst ha;have:=app_cut a (arc k n l) b (p:=0) (q:=n) (by omega) (by rw[qj]; omega) (arc k n y);rw[yT]at this;rw[this,uG,vN,wI (by rw[qj]; exact wG _),wB]
def Nums(cs:List V):Prop:=∀v∈cs,∃k i,v=V.int k i
theorem Nums.nil:Nums []:=fun v h=> by cases h
theorem Nums.cons{cs:List V}(h:Nums cs):Nums (V.int k x::cs):=fun v hv=> by
 rcases vG.1 hv with rfl|hv
 ·exact⟨_,_,rfl⟩
 ·exact h v hv
theorem Nums.arc{cs:List V}(h:Nums cs):Nums (arc k n l++cs):=fun v hv=> by
 rcases vD.1 hv with hv|hv
 ·obtain⟨i,rfl⟩:=arc_mem hv; exact⟨_,_,rfl⟩
 ·exact h v hv
theorem Nums.frz{cs:List V}(hc:Nums cs)(h:Heap)(f:Nat):mapO (frz h (f+1)) cs=some cs:=mapO_id fun v hv=> by
 obtain⟨k,i,rfl⟩:=hc v hv; rfl
theorem Nums.tk{cs:List V}(hc:Nums cs)(h:Heap)(f:Nat):mapS (take (f+1) []) cs h=some (cs,h):=mapS_id fun v hv s=> by
 obtain⟨k,i,rfl⟩:=hc v hv; rfl
theorem Nums.rl{cs:List V}(hc:Nums cs)(f:Nat):cs.all (qB (f+1))=true:=vK.2 fun v hv=> by
 obtain⟨k,i,rfl⟩:=hc v hv; rfl
theorem Nums.bare{cs:List V}(hc:Nums cs)(f:Nat)(ss:List Nat):cs.all (bare (f+1) ss)=true:=vK.2 fun v hv=> by
 obtain⟨k,i,rfl⟩:=hc v hv; rfl
theorem arc_part'{p i:Nat}(hp:p=i)(h:i+m≤n):List.take m (List.drop p (arc k n l))=arc k m (arP l i m):=by subst hp; exact arc_part h
theorem zo{p i:Nat}(hp:p=i)(h:i < n):qf none (List.drop p (arc k n l))=some (.int k (l.getD i 0)):=by subst hp; exact arc_one h
end
instance encAr{k:IntKind}{n:Nat}:Enc (Ar k n):=⟨fun a=> .agg (arc k n a.val),fun a h f=> by
 show(match mapO (frz h (f+3)) (arc k n a.val)with|some ds=> some (V.agg ds)|none=> none)=_;rw[arc_frz h (f+2)],fun a f=> arc_rl (f+2),fun a f h=> by
 show(match mapS (take (f+3) []) (arc k n a.val) h with|some (ds,h2)=> some (V.agg ds,h2)|none=> none)=_;rw[arc_tk h (f+2)]⟩
theorem enc_ar{k:IntKind}{n:Nat}(a:Ar k n):Enc.enc a=V.agg (arc k n a.val):=rfl
def okA(k:IntKind)(n:Nat)(a:List Int):Prop:=∀i,i < n→(Go.Lit.int k (a.getD i 0)).wf=true
instance (k:IntKind) (n:Nat) (a:List Int):Decidable (okA k n a):=by unfold okA; infer_instance
def arE(k:IntKind)(n:Nat)(a b:List Int):Option Bool:=if okA k n a∧okA k n b then some (arQ n a b)else none
theorem lay_arc{k:IntKind}{n d:Nat}{a:List Int}(h:okA k n a):layV (d+2) (.arr n n 1 (.int k)) (arc k n a)=some (arc k n a):=by
 show(if(arc k n a).length=n then mapFlat (fun i=> layV (d+1) (.int k) (((arc k n a).drop (i*1)).take 1)) (List.range n)else none)=_;rw[if_pos qj];have e:mapO (fun i=> layV (d+1) (.int k) (((arc k n a).drop (i*1)).take 1)) (List.range n)=some ((List.range n).map fun i=>[V.int k (a.getD i 0)]):=by
  have key:∀is:List Nat,(∀i∈is,i < n)→mapO (fun i=> layV (d+1) (.int k) (((arc k n a).drop (i*1)).take 1)) is=some (is.map fun i=>[V.int k (a.getD i 0)]):=by
   intro is;induction is with
   |nil=> intro _; rfl
   |cons i is ih=>
    intro hi;have h0:i < n:=hi i (wK ..);have e1:layV (d+1) (.int k) (((arc k n a).drop (i*1)).take 1)=some [V.int k (a.getD i 0)]:=by
     rw[yK,yB (by rw[qj]; exact h0)];have:=arc_get? (k:=k) (l:=a) h0;rw[List.getElem?_eq_getElem (by rw[qj]; exact h0)]at this;rw[wA this,List.take_succ_cons,uG];show(if k=k∧(Go.Lit.int k (a.getD i 0)).wf=true then some [V.int k (a.getD i 0)]else none)=_;rw[if_pos ⟨rfl,h i h0⟩]
    simp only[mapO,e1,ih (fun j hj=> hi j (wR _ hj)),vA]
  exact key _ fun i hi=> uH.1 hi
 unfold mapFlat;rw[e];simp only[arc]
 congr 1
 induction List.range n with
 |nil=> rfl
 |cons i is ih=> simp only[vA,uF,ih,List.singleton_append]
theorem leavesEq_arc{k:IntKind}{a b:List Int}{n:Nat}:jg (arc k n a) (arc k n b)=arQ n a b:=by
 have key:∀ (is:List Nat),jg (is.map fun i=> V.int k (a.getD i 0)) (is.map fun i=> V.int k (b.getD i 0))=decide (∀i∈is,a.getD i 0=b.getD i 0):=by
  intro is;induction is with
  |nil=> simp[jg]
  |cons i is ih=>
   simp only[vA,jg,leafEq,ih];by_cases h:a.getD i 0=b.getD i 0
   ·rw[h]
    simp only[decide_true,beq_self_eq_true,Bool.and_self,Bool.true_and]
    congr 1
    simp only[vG,forall_eq_or_imp,eq_iff_iff];exact⟨fun q=>⟨h,q⟩,fun q=> q.2⟩
   ·have e:(a.getD i 0==b.getD i 0)=false:=beq_eq_false_iff_ne.2 h
    rw[e,Bool.and_false,Bool.false_and]
    symm
    rw[decide_eq_false_iff_not];exact fun q=> h (q i (wK ..))
 unfold arc arQ;rw[key (List.range n)]
 congr 1
 simp[uH]
theorem arE_w{k:IntKind}{n:Nat}{a b:List Int}{r:Bool}(h:arE k n a b=some r):okA k n a∧okA k n b∧arQ n a b=r:=by
 unfold arE at h;split at h
 ·rename_i hc; cases h; exact⟨hc.1,hc.2,rfl⟩
 ·cases h
theorem zE{k:IntKind}{n:Nat}{a b:List Int}{r:Bool}(h:arE k n a b=some r):eqSV true 12 (.arr n n 1 (.int k)) (.agg (arc k n a)) (.agg (arc k n b))=some (.bool (!r)):=by
 obtain⟨h1,h2,rfl⟩:=arE_w h;simp only[eqSV,lay_arc (d:=10) h1,lay_arc (d:=10) h2,leavesEq_arc];cases arQ n a b <;> rfl
end Rv
namespace Rv
open Enc (enc)
abbrev Ks:=Nat→Prop
class Deep (α:Type) [Enc α] where
 rep:Heap→V→α→Ks→Prop
 ds:List Nat
 dep:Nat
 frame:∀ {h h':Heap} {v:V} {a:α} {K:Ks},rep h v a K→(∀k,K k→h'.ents[k]? =h.ents[k]?)→rep h' v a K
 bd:∀ {h:Heap} {v:V} {a:α} {K:Ks} {k:Nat},rep h v a K→K k→k < h.ents.length
 fz:∀ {h:Heap} {v:V} {a:α} {K:Ks},rep h v a K→∀f,frz h (f+dep) v=some (enc a)
 br:∀ (a:α) (f:Nat) (r:List Nat),bare (f+dep) (ds++r) (enc a)=true
 tkr:∀ {h:Heap} {v:V} {a:α} {K:Ks},rep h v a K→∀f (r:List Nat),∃h',take (f+dep) (ds++r) v h=some (enc a,h')∧h'.ents.length=h.ents.length∧∀k,¬K k→h'.ents[k]? =h.ents[k]?
 thr:∀ (a:α) (h:Heap) (f:Nat) (r:List Nat),∃v h',thaw (f+dep) (ds++r) (enc a) h=some (v,h')∧rep h' v a (fun k=> h.ents.length≤k∧k < h'.ents.length)∧h.ents.length≤h'.ents.length∧∀k,k < h.ents.length→h'.ents[k]? =h.ents[k]?
instance deepInt:Deep Int where
 rep h v a K:=v=enc a∧∀k,¬K k
 ds:=[]
 dep:=4
 frame h _:=h
 bd h hk:=(h.2 _ hk).elim
 fz:=by rintro h v a K ⟨rfl,_⟩ f; exact Enc.fz a h f
 br a f r:=by cases r <;> rfl
 tkr:=by rintro h v a K ⟨rfl,_⟩ f r; exact⟨h,by cases r <;> rfl,rfl,fun _ _=> rfl⟩
 thr a h f r:=⟨enc a,h,by cases r <;> rfl,⟨rfl,fun k hk=> by omega⟩,wG _,fun _ _=> rfl⟩
theorem Deep.tk{α:Type}[Enc α][Deep α]{h:Heap}{v:V}{a:α}{K:Ks}(hr:Deep.rep h v a K)(f:Nat):∃h',take (f+Deep.dep α) (Deep.ds α) v h=some (enc a,h')∧h'.ents.length=h.ents.length∧∀k,¬K k→h'.ents[k]? =h.ents[k]?:=by
 have:=Deep.tkr hr f []
 rwa[wB]at this
theorem Deep.th{α:Type}[Enc α][Deep α](a:α)(h:Heap)(f:Nat):∃v h',thaw (f+Deep.dep α) (Deep.ds α) (enc a) h=some (v,h')∧Deep.rep h' v a (fun k=> h.ents.length≤k∧k < h'.ents.length)∧h.ents.length≤h'.ents.length∧∀k,k < h.ents.length→h'.ents[k]? =h.ents[k]?:=by
 have:=Deep.thr a h f []
 rwa[wB]at this
section
variable {α:Type} [Enc α] [Deep α]
def reps(h:Heap):List V→List α→Ks→Prop
 | [],[],K=>∀k,¬K k
 |v::vs,a::l,K=>∃K1 K2:Ks,Deep.rep h v a K1∧reps h vs l K2∧(∀k,K1 k→¬K2 k)∧∀k,K k↔K1 k∨K2 k
 |_,_,_=> False
theorem reps.len{h:Heap}:∀ {vs:List V} {l:List α} {K:Ks},reps h vs l K→vs.length=l.length
 | [],[],_,_=> rfl
 |v::vs,a::l,K,⟨_,_,_,h2,_⟩=> by simp[h2.len]
theorem reps.frame{h h':Heap}:∀ {vs:List V} {l:List α} {K:Ks},reps h vs l K→(∀k,K k→h'.ents[k]? =h.ents[k]?)→reps h' vs l K
 | [],[],_,r,_=> r
 |v::vs,a::l,K,⟨K1,K2,h1,h2,h3,h4⟩,hf=>⟨K1,K2,Deep.frame h1 fun k hk=> hf k ((h4 k).2 (.inl hk)),h2.frame fun k hk=> hf k ((h4 k).2 (.inr hk)),h3,h4⟩
theorem reps.bd{h:Heap}{k:Nat}:∀ {vs:List V} {l:List α} {K:Ks},reps h vs l K→K k→k < h.ents.length
 | [],[],_,r,hk=>(r k hk).elim
 |v::vs,a::l,K,⟨K1,K2,h1,h2,h3,h4⟩,hk=> by
  rcases(h4 k).1 hk with hk|hk
  ·exact Deep.bd h1 hk
  ·exact h2.bd hk
theorem reps.fz{h:Heap}(f:Nat):∀ {vs:List V} {l:List α} {K:Ks},reps h vs l K→mapO (frz h (f+Deep.dep α)) vs=some (l.map enc)
 | [],[],_,_=> rfl
 |v::vs,a::l,K,⟨K1,K2,h1,h2,h3,h4⟩=> by simp only[mapO,Deep.fz h1 f,h2.fz f,vA]
theorem reps.br(f:Nat)(r:List Nat):∀l:List α,(l.map enc).all (bare (f+Deep.dep α) (Deep.ds α++r))=true
 | []=> rfl
 |a::l=> by simp only[vA,List.all_cons,Deep.br a f r,reps.br f r l,Bool.and_self]
theorem reps.tk(f:Nat)(r:List Nat):∀ {vs:List V} {l:List α} {K:Ks} {h:Heap},reps h vs l K→∃h',mapS (take (f+Deep.dep α) (Deep.ds α++r)) vs h=some (l.map enc,h')∧h'.ents.length=h.ents.length∧∀k,¬K k→h'.ents[k]? =h.ents[k]?
 | [],[],_,h,_=>⟨h,rfl,rfl,fun _ _=> rfl⟩
 |v::vs,a::l,K,h,⟨K1,K2,h1,h2,h3,h4⟩=> by
  obtain⟨g,a1,a2,a3⟩:=Deep.tkr h1 f r;have r2:reps g vs l K2:=h2.frame fun k hk=> a3 k fun hk1=> h3 k hk1 hk;obtain⟨g',b1,b2,b3⟩:=r2.tk f r;refine⟨g',by simp only[mapS,a1,b1,vA],by omega,fun k hk=>?_⟩;rw[b3 k fun x=> hk ((h4 k).2 (.inr x)),a3 k fun x=> hk ((h4 k).2 (.inl x))]
theorem reps.th(f:Nat)(r:List Nat):∀ (l:List α) (h:Heap),∃vs h',mapS (thaw (f+Deep.dep α) (Deep.ds α++r)) (l.map enc) h=some (vs,h')∧reps h' vs l (fun k=> h.ents.length≤k∧k < h'.ents.length)∧h.ents.length≤h'.ents.length∧∀k,k < h.ents.length→h'.ents[k]? =h.ents[k]?
 | [],h=>⟨[],h,rfl,fun k hk=> by omega,wG _,fun _ _=> rfl⟩
 |a::l,h=> by
  obtain⟨v,g,a1,a2,a3,a4⟩:=Deep.thr a h f r;obtain⟨vs,g',b1,b2,b3,b4⟩:=reps.th f r l g;refine⟨v::vs,g',by simp only[vA,mapS,a1,b1],⟨_,_,Deep.frame a2 fun k hk=> b4 k hk.2,b2,fun k p q=> by omega,fun k=> by omega⟩,by omega,fun k hk=>?_⟩;rw[b4 k (by omega),a4 k hk]
theorem reps.snoc{h:Heap}{v:V}{a:α}{K1:Ks}(h1:Deep.rep h v a K1):∀ {vs:List V} {l:List α} {K K':Ks},reps h vs l K→(∀k,K k→¬K1 k)→(∀k,K' k↔K k∨K1 k)→reps h (vs++[v]) (l++[a]) K'
 | [],[],K,K',r,hd,he=>⟨K1,fun _=> False,h1,fun _ x=> x,fun _ _ x=> x,fun k=> by rw[he]; have:=r k; simp[this]⟩
 |u::vs,b::l,K,K',⟨A,B,g1,g2,g3,g4⟩,hd,he=> by
  refine⟨A,fun k=> B k∨K1 k,g1,reps.snoc h1 g2 (fun k hk=> hd k ((g4 k).2 (.inr hk))) (fun k=> yP),fun k hk hb=>?_,fun k=> by rw[he,g4,or_assoc]⟩;rcases hb with hb|hb
  ·exact g3 k hk hb
  ·exact hd k ((g4 k).2 (.inl hk)) hb
theorem reps.focus{h:Heap}:∀ {vs:List V} {l:List α} {K:Ks} {i:Nat} (_:reps h vs l K) (hi:i < l.length),∃ (x:V) (K1 K2:Ks),vs[i]? =some x∧Deep.rep h x l[i] K1∧(∀k,K1 k→¬K2 k)∧(∀k,K k↔K1 k∨K2 k)∧
  ∀ (h':Heap) (x':V) (a':α) (K1' K':Ks),Deep.rep h' x' a' K1'→(∀k,K2 k→h'.ents[k]? =h.ents[k]?)→(∀k,K1' k→¬K2 k)→(∀k,K' k↔K1' k∨K2 k)→reps h' (vs.set i x') (l.set i a') K'
 | [],[],K,i,_,hi=> absurd hi (Nat.not_lt_zero _)
 |v::vs,a::l,K,0,⟨A,B,g1,g2,g3,g4⟩,hi=>⟨v,A,B,rfl,g1,g3,g4,fun h' x' a' K1' K' q1 q2 q3 q4=>⟨K1',B,q1,g2.frame q2,q3,q4⟩⟩
 |v::vs,a::l,K,i+1,⟨A,B,g1,g2,g3,g4⟩,hi=> by
  obtain⟨x,K1,K2,f1,f2,f3,f4,f5⟩:=reps.focus g2 (show i < l.length by simpa using hi);refine⟨x,K1,fun k=> A k∨K2 k,f1,f2,fun k hk hb=>?_,fun k=>?_,fun h' x' a' K1' K' q1 q2 q3 q4=>?_⟩
  ·rcases hb with hb|hb
   ·exact g3 k hb ((f4 k).2 (.inl hk))
   ·exact f3 k hk hb
  ·rw[g4,f4]
   constructor
   ·rintro(p|p|p)
    ·exact .inr (.inl p)
    ·exact .inl p
    ·exact .inr (.inr p)
   ·rintro(p|p|p)
    ·exact .inr (.inl p)
    ·exact .inl p
    ·exact .inr (.inr p)
  ·refine⟨A,fun k=> K1' k∨K2 k,Deep.frame g1 fun k hk=> q2 k (.inl hk),f5 h' x' a' K1' _ q1 (fun k hk=> q2 k (.inr hk)) (fun k p q=> q3 k p (.inr q)) (fun k=> yP),fun k hk hb=>?_,fun k=>?_⟩
   ·rcases hb with hb|hb
    ·exact q3 k hb (.inl hk)
    ·exact g3 k hk ((f4 k).2 (.inr hb))
   ·rw[q4]
    constructor
    ·rintro(p|p|p)
     ·exact .inr (.inl p)
     ·exact .inl p
     ·exact .inr (.inr p)
    ·rintro(p|p|p)
     ·exact .inr (.inl p)
     ·exact .inl p
     ·exact .inr (.inr p)
theorem get_of{h:Heap}{key uid:Nat}{vs:List V}(he:h.ents[key]? =some (uid,some vs)):h.get key uid=some vs:=by simp[Heap.get,he]
theorem kill_ne(h:Heap){key k:Nat}(hk:k≠key):(h.kill key).ents[k]? =h.ents[k]?:=by
 simp[Heap.kill,List.getElem?_set,yW hk]
theorem push_lt{h:Heap}{cs:List V}{k:Nat}(hk:k < h.ents.length):(h.push cs).ents[k]? =h.ents[k]?:=by
 simp[Heap.push,List.getElem?_append_left hk]
theorem push_eq(h:Heap)(cs:List V):(h.push cs).ents[h.ents.length]? =some (h.clk,some cs):=by simp[Heap.push]
def lrep(h:Heap)(v:V)(l:List α)(K:Ks):Prop:=
 (v= .nils∧l=[]∧∀k,¬K k)∨∃key uid vs K',v= .sl key uid 0 l.length 1∧h.ents[key]? =some (uid,some vs)∧reps h vs l K'∧¬K' key∧∀k,K k↔k=key∨K' k
instance deepList[One α]:Deep (List α) where
 rep:=lrep
 ds:=1::Deep.ds α
 dep:=Deep.dep α+1
 frame:=by
  rintro h h' v a K (⟨rfl,rfl,h1⟩|⟨key,uid,vs,K',h1,h2,h3,h4,h5⟩) hf
  ·exact .inl ⟨rfl,rfl,h1⟩
  ·exact .inr ⟨key,uid,vs,K',h1,by rw[hf key ((h5 key).2 (.inl rfl))]; exact h2,h3.frame fun k hk=> hf k ((h5 k).2 (.inr hk)),h4,h5⟩
 bd:=by
  rintro h v a K k (⟨rfl,rfl,h1⟩|⟨key,uid,vs,K',h1,h2,h3,h4,h5⟩) hk
  ·exact(h1 k hk).elim
  ·rcases(h5 k).1 hk with rfl|hk
   ·exact(List.getElem?_eq_some_iff.1 h2).1
   ·exact h3.bd hk
 fz:=by
  rintro h v a K (⟨rfl,rfl,h1⟩|⟨key,uid,vs,K',rfl,h2,h3,h4,h5⟩) f
  ·rfl
  ·have hl:=h3.len
   rw[←vE];simp only[frz,get_of h2,yK,vH,vW];rw[if_pos ⟨by omega,by omega⟩,←hl,vQ,h3.fz f];simp only[xn]; rfl
 br:=by
  intro a f r;have e:(Enc.enc a:V)= .isl (a.map enc):=rfl;rw[e,←vE,vJ];simp only[bare,flat_enc,reps.br]
 tkr:=by
  rintro h v a K (⟨rfl,rfl,h1⟩|⟨key,uid,vs,K',rfl,h2,h3,h4,h5⟩) f r
  ·exact⟨h,rfl,rfl,fun _ _=> rfl⟩
  ·have hl:=h3.len
   have hr:reps (h.kill key) vs a K':=h3.frame fun k hk=> kill_ne h fun e=> h4 (e▸hk);obtain⟨g,b1,b2,b3⟩:=hr.tk f r;refine⟨g,?_,by rw[b2]; simp[Heap.kill],fun k hk=>?_⟩
   ·rw[←vE,vJ]
    simp only[take,get_of h2,yK,vH,vW,List.tail_cons];rw[if_pos ⟨by omega,by omega,by simp[hdOk]⟩,←hl,vQ,b1];simp only[xn]; rfl
   ·rw[b3 k fun x=> hk ((h5 k).2 (.inr x)),kill_ne h fun e=> hk ((h5 k).2 (.inl e))]
 thr:=by
  intro a h f r;obtain⟨vs,g,b1,b2,b3,b4⟩:=reps.th f r a h;have hl:=b2.len;refine⟨.sl g.ents.length g.clk 0 a.length 1,g.push vs,?_,.inr ⟨g.ents.length,g.clk,vs,_,rfl,push_eq g vs,b2.frame fun k hk=> push_lt hk.2,fun x=> by omega,fun k=>?_⟩,by simp[Heap.push]; omega,fun k hk=>?_⟩
  ·rw[←vE,vJ]
   have e:(Enc.enc a:V)= .isl (a.map enc):=rfl;rw[e];simp only[thaw,flat_enc,b1,yA]
  ·simp[Heap.push]; omega
  ·rw[push_lt (by omega),b4 k hk]
theorem reps_int{h:Heap}:∀ {vs:List V} {l:List Int} {K:Ks},reps h vs l K→vs=l.map enc∧∀k,¬K k
 | [],[],_,r=>⟨rfl,r⟩
 |v::vs,a::l,K,⟨A,B,g1,g2,g3,g4⟩=> by
  obtain⟨rfl,g1⟩:=g1;obtain⟨rfl,q⟩:=reps_int g2;exact⟨rfl,fun k hk=>((g4 k).1 hk).elim (g1 k) (q k)⟩
theorem int_reps(h:Heap):∀ (l:List Int),reps h (l.map enc) l (fun _=> False)
 | []=> fun _ x=> x
 |a::l=> show reps h (enc a::l.map enc) (a::l) _ from ⟨fun _=> False,fun _=> False,show enc a=enc a∧_ from ⟨rfl,fun _ x=> x⟩,int_reps h l,fun _ x=> x.elim,fun k=> by simp⟩
theorem row_int{h:Heap}{v:V}{l:List Int}{K:Ks}(r:Deep.rep h v l K):(v= .nils∧l=[]∧∀k,¬K k)∨∃key uid,v= .sl key uid 0 l.length 1∧h.ents[key]? =some (uid,some (l.map enc))∧∀k,K k↔k=key:=by
 rcases r with r|⟨key,uid,vs,K',h1,h2,h3,h4,h5⟩
 ·exact .inl r
 ·obtain⟨rfl,q⟩:=reps_int h3
  exact .inr ⟨key,uid,h1,h2,fun k=> by rw[h5]; simp[q k]⟩
theorem xl{h:Heap}{l:List Int}{K:Ks}{key uid:Nat}(he:h.ents[key]? =some (uid,some (l.map enc)))(hK:∀k,K k↔k=key):Deep.rep h (.sl key uid 0 l.length 1) l K:=
 .inr ⟨key,uid,_,_,rfl,he,int_reps h l,fun x=> x,fun k=> by rw[hK]; simp⟩
theorem zz{E:List (Nat×Option (List V))}{c key u n b:Nat}{vs:List V}{x:V}(he:E[key]? =some (u,some vs))(hl:vs.length=n)(hb:(n+1)*b≤1099511627776)(h1:n+1≤1099511627776):
  zO 1 b (.sl key u 0 n 1) 1 [x] ⟨E,c⟩=some (.sl key c 0 (n+1) 1,⟨E.set key (c,some (vs++[x])),c+1⟩):=by
 subst hl;unfold zO;simp only[Heap.get,he,vH,yK,vW,vQ,Heap.renew];simp[hb,h1]
theorem res_dp{A:Prog}{g:Nat}{args:List V}{f:Fn}{h:Heap}{S:V→Heap→Prop}(hf:A g=some f)(hl:args.length=f.nargs)(hb:f.body.isClone=false)
  (w:∀e:Env,e.length=f.ntmps - f.nargs+args.length→(∀ (i:Nat) v,args[i]? =some v→e.at i=v)→W A f.body e h (fun x e h'=>(∀i,x≠ .exit i)∧∃v,f.out e h'=some v∧S v h')):∃v h',res A g args h=some (v,h')∧S v h':=by
 have hw:=w (args++List.replicate (f.ntmps - f.nargs) V.undef) (by simp; omega) fun i v hv=> by
  have hlt:=(List.getElem?_eq_some_iff.1 hv).1;simp only[Env.at,List.getD_eq_getElem?_getD,List.getElem?_append_left hlt,hv,Option.getD_some]
 obtain⟨k,x,e1,h1,h2,h3,v,h4,h5⟩:=hw;exact⟨v,h1,Ev.res (.intro hb hf hl ⟨k,x,e1,h1,h2,h3,h4,rfl⟩),h5⟩
theorem deep_round{α:Type}[Enc α][Deep α]{h h1 h2:Heap}{vs:List V}{l:List α}{K K1:Ks}{v:V}{a:α}(g2:reps h vs l K)(r:Deep.rep h1 v a K1)(hK:∀k,K1 k→h.ents.length≤k)
  (old:∀k,k < h.ents.length→h1.ents[k]? =h.ents[k]?) (new:∀k,k < h1.ents.length→K k∨K1 k→h2.ents[k]? =h1.ents[k]?) (hl:h.ents.length≤h1.ents.length):reps h2 (vs++[v]) (l++[a]) (fun k=> K k∨K1 k):=by
 have r1:Deep.rep h2 v a K1:=Deep.frame r fun k q=> new k (Deep.bd r q) (.inr q);have r2:reps h2 vs l K:=g2.frame fun k q=> by
  have hb:=g2.bd q;rw[new k (by omega) (.inl q),old k hb]
 exact reps.snoc r1 r2 (fun k p q=> by have:=g2.bd p; have:=hK k q; omega) (fun k=> yP)
theorem zg{E:List (Nat×Option (List V))}{y z:Nat×Option (List V)}{key k:Nat}(hk:k≠key)(hl:k < E.length):((E++[y]).set key z)[k]? =E[k]?:=by
 rw[List.getElem?_set_ne (yW hk),List.getElem?_append_left hl]
theorem qI{E:List (Nat×Option (List V))}{z:Nat×Option (List V)}{key:Nat}(hl:key < E.length):(E.set key z)[key]? =some z:=by
 rw[List.getElem?_set_self hl]
theorem ans_of_deep{α:Type}[Enc α][Deep α]{A:Prog}{g:Nat}{args:List V}{r:α}(hd:Deep.dep α≤16)(h:∃v h',res A g args Heap.empty=some (v,h')∧∃K,Deep.rep h' v r K):ans A g args=some (Enc.enc r):=by
 obtain⟨v,h',h1,K,h2⟩:=h;unfold ans;rw[h1];have:=Deep.fz h2 (16 - Deep.dep α);rw[show 16 - Deep.dep α+Deep.dep α=FZ from by unfold FZ; omega]at this;exact this
theorem tans_of_deep{α:Type}[Enc α][Deep α]{A:Prog}{g:Nat}{args:List V}{r:α}(hd:Deep.dep α≤16)(h:∃v h',res A g args Heap.empty=some (v,h')∧∃K,Deep.rep h' v r K):tans A g (Deep.ds α) args=some (Enc.enc r):=by
 obtain⟨v,h',h1,K,h2⟩:=h;obtain⟨h2',q,_⟩:=Deep.tk h2 (16 - Deep.dep α);rw[show 16 - Deep.dep α+Deep.dep α=FZ from by unfold FZ; omega]at q;unfold tans;rw[h1];simp only[q]
theorem thaw_deep{α:Type}[Enc α][Deep α](hd:Deep.dep α≤16)(a:α)(h:Heap):∃v h',thaw 16 (Deep.ds α) (Enc.enc a) h=some (v,h')∧Deep.rep h' v a (fun k=> h.ents.length≤k∧k < h'.ents.length)∧h.ents.length≤h'.ents.length∧∀k,k < h.ents.length→h'.ents[k]? =h.ents[k]?:=by
 have:=Deep.th a h (16 - Deep.dep α)
 rwa[show 16 - Deep.dep α+Deep.dep α=16 from by omega]at this
theorem rep_one{α:Type}[Enc α][Deep α][One α]{h:Heap}{v:V}{l:List α}{K:Ks}(r:Deep.rep h v l K):v.cells=[v]∧v.tupless=true:=by
 rcases r with⟨rfl,_⟩|⟨key,uid,vs,K',rfl,_⟩<;> exact⟨rfl,rfl⟩
theorem rep_at{α:Type}[Enc α][Deep α][One α]{h:Heap}{key uid:Nat}{vs:List V}{l:List α}{K:Ks}(g1:h.ents[key]? =some (uid,some vs))(g2:reps h vs l K)(g3:¬K key):Deep.rep h (.sl key uid 0 l.length 1) l (fun k=> k=key∨K k):=
 .inr ⟨key,uid,vs,K,rfl,g1,g2,g3,fun k=> yP⟩
theorem qS{E:List (Nat×Option (List V))}{z:Nat×Option (List V)}{key k:Nat}(hk:k≠key):(E.set key z)[k]? =E[k]?:=by
 rw[List.getElem?_set_ne (yW hk)]
theorem rep_focus{α:Type}[Enc α][Deep α][One α]{h:Heap}{v:V}{l:List α}{K:Ks}{i:Nat}{a:α}(r:Deep.rep h v l K)(hi:l[i]? =some a):∃key uid vs x,∃K1:Ks,v= .sl key uid 0 l.length 1∧h.ents[key]? =some (uid,some vs)∧vs[i]? =some x∧vs.length=l.length∧Deep.rep h x a K1∧(∀k,K1 k→K k)∧
  ∀ (h':Heap) (a':α),Deep.rep h' x a' K1→(∀k,K k→¬K1 k→h'.ents[k]? =h.ents[k]?)→Deep.rep h' v (l.set i a') K:=by
 obtain⟨hlt,rfl⟩:=List.getElem?_eq_some_iff.1 hi;rcases r with⟨rfl,rfl,_⟩|⟨key,uid,vs,K',rfl,h2,h3,h4,h5⟩
 ·exact absurd hlt (by simp)
 ·obtain⟨x,K1,K2,f1,f2,f3,f4,f5⟩:=h3.focus hlt
  refine⟨key,uid,vs,x,K1,rfl,h2,f1,h3.len,f2,fun k hk=>(h5 k).2 (.inr ((f4 k).2 (.inl hk))),fun h' a' q1 q2=>?_⟩;have hx:vs.set i x=vs:=set_self f1;have hr:=f5 h' x a' K1 K' q1 (fun k hk=> q2 k ((h5 k).2 (.inr ((f4 k).2 (.inr hk)))) (fun p=> f3 k p hk)) f3 f4;rw[hx]at hr;have e:(V.sl key uid 0 l.length 1)= .sl key uid 0 (l.set i a').length 1:=by rw[yN]
  rw[e];refine .inr ⟨key,uid,vs,K',rfl,?_,hr,h4,h5⟩;rw[q2 key ((h5 key).2 (.inl rfl)) (fun p=> h4 ((f4 key).2 (.inl p)))];exact h2
theorem rep_len{α:Type}[Enc α][Deep α][One α]{h:Heap}{v:V}{l:List α}{K:Ks}(r:Deep.rep h v l K):lenV v=some l.length:=by
 rcases r with⟨rfl,rfl,_⟩|⟨key,uid,vs,K',rfl,_⟩<;> rfl
theorem qE{vs:List V}{i:Nat}{x:V}(h:vs[i]? =some x):qf none (vs.drop i)=some x:=by
 obtain⟨hlt,rfl⟩:=List.getElem?_eq_some_iff.1 h;rw[yB hlt]; rfl
theorem setI_eq{α:Type}{l l2:List α}{i:Int}{y:α}(h:setI l i y=some l2):l2=l.set i.toNat y:=by
 unfold setI at h; split at h
 ·cases h; rfl
 ·cases h
theorem take_ints(f:Nat)(ss:List Nat)(h:Heap):∀l:List Int,mapS (take (f+1) ss) (l.map enc) h=some (l.map enc,h)
 | []=> rfl
 |a::l=> by
  have q:take (f+1) ss (enc a) h=some (enc a,h):=by cases ss <;> rfl
  simp only[vA,mapS,q,take_ints f ss h l]
end
end Rv
namespace Rv
open Enc (enc)
structure DV where
 {α:Type}
 [e:Enc α]
 [d:Deep α]
 a:α
def DV.enc(x:DV):V:= @Enc.enc x.α x.e x.a
def DV.rep(x:DV)(h:Heap)(v:V)(K:Ks):Prop:= @Deep.rep x.α x.e x.d h v x.a K
def DV.ds(x:DV):List Nat:= @Deep.ds x.α x.e x.d
def DV.dep(x:DV):Nat:= @Deep.dep x.α x.e x.d
def repF(h:Heap):List V→List DV→Ks→Prop
 | [],[],K=>∀k,¬K k
 |v::vs,a::l,K=>∃K1 K2:Ks,a.rep h v K1∧repF h vs l K2∧(∀k,K1 k→¬K2 k)∧∀k,K k↔K1 k∨K2 k
 |_,_,_=> False
theorem DV.frame{x:DV}{h h':Heap}{v:V}{K:Ks}(r:x.rep h v K)(hf:∀k,K k→h'.ents[k]? =h.ents[k]?):x.rep h' v K:= @Deep.frame x.α x.e x.d _ _ _ _ _ r hf
theorem DV.bd{x:DV}{h:Heap}{v:V}{K:Ks}{k:Nat}(r:x.rep h v K)(hk:K k):k < h.ents.length:= @Deep.bd x.α x.e x.d _ _ _ _ _ r hk
theorem repF.len{h:Heap}:∀ {vs:List V} {l:List DV} {K:Ks},repF h vs l K→vs.length=l.length
 | [],[],_,_=> rfl
 |v::vs,a::l,K,⟨_,_,_,h2,_⟩=> by simp[h2.len]
theorem repF.frame{h h':Heap}:∀ {vs:List V} {l:List DV} {K:Ks},repF h vs l K→(∀k,K k→h'.ents[k]? =h.ents[k]?)→repF h' vs l K
 | [],[],_,r,_=> r
 |v::vs,a::l,K,⟨K1,K2,h1,h2,h3,h4⟩,hf=>⟨K1,K2,DV.frame (x:=a) h1 fun k hk=> hf k ((h4 k).2 (.inl hk)),h2.frame fun k hk=> hf k ((h4 k).2 (.inr hk)),h3,h4⟩
theorem repF.bd{h:Heap}{k:Nat}:∀ {vs:List V} {l:List DV} {K:Ks},repF h vs l K→K k→k < h.ents.length
 | [],[],_,r,hk=>(r k hk).elim
 |v::vs,a::l,K,⟨K1,K2,h1,h2,h3,h4⟩,hk=> by
  rcases(h4 k).1 hk with hk|hk
  ·exact DV.bd (x:=a) h1 hk
  ·exact h2.bd hk
def Fits(ss:List Nat)(B:Nat)(l:List DV):Prop:=∀d∈l,(∃r,ss=d.ds++r)∧d.dep≤B
theorem Fits.tail{ss:List Nat}{B:Nat}{a:DV}{l:List DV}(h:Fits ss B (a::l)):Fits ss B l:=fun d hd=> h d (wR _ hd)
theorem Fits.more{ss:List Nat}{B:Nat}{l:List DV}(h:Fits ss B l)(r:List Nat):Fits (ss++r) B l:=fun d hd=>⟨by obtain⟨q,hq⟩:=(h d hd).1; exact⟨q++r,by rw[hq,wY]⟩,(h d hd).2⟩
theorem repF.fz{h:Heap}{ss:List Nat}{B:Nat}(f:Nat):∀ {vs:List V} {l:List DV} {K:Ks},Fits ss B l→repF h vs l K→mapO (frz h (f+B)) vs=some (l.map DV.enc)
 | [],[],_,_,_=> rfl
 |v::vs,a::l,K,hb,⟨K1,K2,h1,h2,h3,h4⟩=> by
  have hB:=(hb a wK).2;have q:frz h (f+B) v=some a.enc:=by
   have:= @Deep.fz a.α a.e a.d _ _ _ _ h1 (f+B - a.dep);rw[show f+B - a.dep+ @Deep.dep a.α a.e a.d=f+B from by have:a.dep= @Deep.dep a.α a.e a.d:=rfl; omega]at this;exact this
  simp only[mapO,q,h2.fz f hb.tail,vA]
theorem repF.br{ss:List Nat}{B:Nat}(f:Nat):∀ {l:List DV},Fits ss B l→(l.map DV.enc).all (bare (f+B) ss)=true
 | [],_=> rfl
 |a::l,hb=> by
  obtain⟨⟨r,hr⟩,hB⟩:=hb a wK;have q:bare (f+B) ss a.enc=true:=by
   have:= @Deep.br a.α a.e a.d a.a (f+B - a.dep) r;rw[show f+B - a.dep+ @Deep.dep a.α a.e a.d=f+B from by have:a.dep= @Deep.dep a.α a.e a.d:=rfl; omega]at this;rw[hr]; exact this
  simp only[vA,List.all_cons,q,repF.br f hb.tail,Bool.and_self]
theorem repF.tk{ss:List Nat}{B:Nat}(f:Nat):∀ {vs:List V} {l:List DV} {K:Ks} {h:Heap},Fits ss B l→repF h vs l K→∃h',mapS (take (f+B) ss) vs h=some (l.map DV.enc,h')∧h'.ents.length=h.ents.length∧∀k,¬K k→h'.ents[k]? =h.ents[k]?
 | [],[],_,h,_,_=>⟨h,rfl,rfl,fun _ _=> rfl⟩
 |v::vs,a::l,K,h,hb,⟨K1,K2,h1,h2,h3,h4⟩=> by
  obtain⟨⟨r,hr⟩,hB⟩:=hb a wK;obtain⟨g,a1,a2,a3⟩:= @Deep.tkr a.α a.e a.d _ _ _ _ h1 (f+B - a.dep) r;rw[show f+B - a.dep+ @Deep.dep a.α a.e a.d=f+B from by have:a.dep= @Deep.dep a.α a.e a.d:=rfl; omega]at a1;have a1':take (f+B) ss v h=some (a.enc,g):=by rw[hr]; exact a1
  have r2:repF g vs l K2:=h2.frame fun k hk=> a3 k fun hk1=> h3 k hk1 hk;obtain⟨g',b1,b2,b3⟩:=r2.tk f hb.tail;refine⟨g',by simp only[mapS,a1',b1,vA],by omega,fun k hk=>?_⟩;rw[b3 k fun x=> hk ((h4 k).2 (.inr x)),a3 k fun x=> hk ((h4 k).2 (.inl x))]
theorem repF.th{ss:List Nat}{B:Nat}(f:Nat):∀ (l:List DV) (h:Heap),Fits ss B l→∃vs h',mapS (thaw (f+B) ss) (l.map DV.enc) h=some (vs,h')∧repF h' vs l (fun k=> h.ents.length≤k∧k < h'.ents.length)∧h.ents.length≤h'.ents.length∧∀k,k < h.ents.length→h'.ents[k]? =h.ents[k]?
 | [],h,_=>⟨[],h,rfl,fun k hk=> by omega,wG _,fun _ _=> rfl⟩
 |a::l,h,hb=> by
  obtain⟨⟨r,hr⟩,hB⟩:=hb a wK;obtain⟨v,g,a1,a2,a3,a4⟩:= @Deep.thr a.α a.e a.d a.a h (f+B - a.dep) r;rw[show f+B - a.dep+ @Deep.dep a.α a.e a.d=f+B from by have:a.dep= @Deep.dep a.α a.e a.d:=rfl; omega]at a1;have a1':thaw (f+B) ss a.enc h=some (v,g):=by rw[hr]; exact a1
  obtain⟨vs,g',b1,b2,b3,b4⟩:=repF.th f l g hb.tail;have a2':a.rep g v (fun k=> h.ents.length≤k∧k < g.ents.length):=a2;refine⟨v::vs,g',by simp only[vA,mapS,a1',b1],⟨_,_,DV.frame (x:=a) a2' fun k hk=> b4 k hk.2,b2,fun k p q=> by omega,fun k=> by omega⟩,by omega,fun k hk=>?_⟩;rw[b4 k (by omega),a4 k hk]
abbrev deepRec{α:Type}[Enc α](fs:α→List DV)(he:∀x,(enc x:V)= .agg ((fs x).map DV.enc))(s:Nat)(ss:List Nat)(B:Nat)(hB:∀x,Fits (s::ss) B (fs x)):Deep α where
 rep h v a K:=∃vs,v= .agg vs∧repF h vs (fs a) K
 ds:=s::ss
 dep:=B+1
 frame:=by
  rintro h h' v a K ⟨vs,rfl,r⟩ hf;exact⟨vs,rfl,r.frame hf⟩
 bd:=by
  rintro h v a K k ⟨vs,rfl,r⟩ hk;exact r.bd hk
 fz:=by
  rintro h v a K ⟨vs,rfl,r⟩ f;rw[←vE];simp only[frz,r.fz f (hB a),he]
 br:=by
  intro a f r;rw[←vE,he];simp only[bare];exact repF.br f ((hB a).more r)
 tkr:=by
  rintro h v a K ⟨vs,rfl,q⟩ f r;obtain⟨h',g1,g2,g3⟩:=q.tk f ((hB a).more r);refine⟨h',?_,g2,g3⟩;rw[←vE,vJ];simp only[take];rw[←vJ,g1,he]
 thr:=by
  intro a h f r;obtain⟨vs,h',g1,g2,g3,g4⟩:=repF.th f (fs a) h ((hB a).more r);refine⟨.agg vs,h',?_,⟨vs,rfl,g2⟩,g3,g4⟩;rw[←vE,he,vJ];simp only[thaw];rw[←vJ,g1]
theorem thaw_tup{s:Nat}{ss:List Nat}{l:List DV}(hl:Fits (s::ss) 15 l)(h:Heap):∃vs h',thaw 16 (s::ss) (.tup (l.map DV.enc)) h=some (.tup vs,h')∧repF h' vs l (fun k=> h.ents.length≤k∧k < h'.ents.length)∧h.ents.length≤h'.ents.length∧∀k,k < h.ents.length→h'.ents[k]? =h.ents[k]?:=by
 obtain⟨vs,h',g1,g2,g3,g4⟩:=repF.th 0 l h hl;rw[vH]at g1;refine⟨vs,h',?_,g2,g3,g4⟩;show thaw (15+1) _ _ _=_;simp only[thaw,g1]
theorem bare_tup{s:Nat}{ss:List Nat}{l:List DV}(hl:Fits (s::ss) 15 l):bare 16 (s::ss) (.tup (l.map DV.enc))=true:=by
 show bare (15+1) _ _=_;simp only[bare];have:=repF.br 0 hl
 rwa[vH]at this
section
variable {α:Type} (E:List α) (x y z w:α)
theorem ge2a:(E++[x]++[y])[E.length]? =some x:=by simp
theorem ge2b:(E++[x]++[y])[E.length+1]? =some y:=by simp
theorem ge3a:(E++[x]++[y]++[z])[E.length]? =some x:=by simp
theorem ge3b:(E++[x]++[y]++[z])[E.length+1]? =some y:=by simp
theorem ge3c:(E++[x]++[y]++[z])[E.length+2]? =some z:=by simp
theorem se2a:(E++[x]++[y]).set E.length w=E++[w]++[y]:=by simp
theorem se2b:(E++[x]++[y]).set (E.length+1) w=E++[x]++[w]:=by
 rw[wY,uA _ _ (by omega)]; simp
theorem se3a:(E++[x]++[y]++[z]).set E.length w=E++[w]++[y]++[z]:=by simp
theorem se3b:(E++[x]++[y]++[z]).set (E.length+1) w=E++[x]++[w]++[z]:=by
 rw[wY,wY,uA _ _ (by omega)]; simp
theorem se3c:(E++[x]++[y]++[z]).set (E.length+2) w=E++[x]++[y]++[w]:=by
 rw[wY,wY,uA _ _ (by omega)]; simp
theorem le1:(E++[x]).length=E.length+1:=by simp
end
theorem frz_row{E:List (Nat×Option (List V))}{c key uid:Nat}{l:List Int}(h:E[key]? =some (uid,some (l.map enc))):frz ⟨E,c⟩ 16 (.sl key uid 0 l.length 1)=some (.isl (l.map enc)):=
 Deep.fz (α:=List Int) (K:=fun k=> k=key) (xl h fun k=> yP) 11
theorem repF.to{h:Heap}{vs:List V}{l:List DV}{K K':Ks}(r:repF h vs l K)(he:∀k,K' k↔K k):repF h vs l K':=by
 have:K'=K:=by funext k; exact propext (he k)
 rw[this]; exact r
theorem repF_int_un{h:Heap}{vs:List V}{p:Int}{l:List DV}{K:Ks}(r:repF h vs (⟨p⟩::l) K):∃ws,vs=V.int .i64 p::ws∧repF h ws l K:=by
 cases vs with
 |nil=> exact r.elim
 |cons v ws=>
  obtain⟨K1,K2,h1,h2,h3,h4⟩:=r;have h1':Deep.rep h v p K1:=h1;obtain⟨rfl,h1'⟩:=h1';exact⟨ws,rfl,h2.to fun k=> by rw[h4]; simp[h1' k]⟩
theorem repF_cons_un{α:Type}[Enc α][Deep α]{h:Heap}{vs:List V}{a:α}{l:List DV}{K:Ks}(r:repF h vs (⟨a⟩::l) K):∃v ws,∃K1 K2:Ks,vs=v::ws∧Deep.rep h v a K1∧repF h ws l K2∧(∀k,K1 k→¬K2 k)∧∀k,K k↔K1 k∨K2 k:=by
 cases vs with
 |nil=> exact r.elim
 |cons v ws=>
  obtain⟨K1,K2,h1,h2,h3,h4⟩:=r;exact⟨v,ws,K1,K2,rfl,h1,h2,h3,h4⟩
theorem repF_nil_un{h:Heap}{vs:List V}{K:Ks}(r:repF h vs [] K):vs=[]∧∀k,¬K k:=by
 cases vs with
 |nil=> exact⟨rfl,r⟩
 |cons v ws=> exact r.elim
theorem pair_un{α:Type}[Enc α][Deep α]{h:Heap}{vs:List V}{a:α}{c:Int}{K:Ks}(r:repF h vs [⟨a⟩,⟨c⟩] K):∃v,vs=[v,V.int .i64 c]∧Deep.rep h v a K:=by
 obtain⟨v,ws,K1,K2,rfl,h1,h2,h3,h4⟩:=repF_cons_un r;obtain⟨ws',rfl,h5⟩:=repF_int_un h2;obtain⟨rfl,h6⟩:=repF_nil_un h5;have:K=K1:=by funext k; exact propext (by rw[h4]; simp[h6 k])
 rw[this]; exact⟨v,rfl,h1⟩
theorem fits_pair{α:Type}[Enc α][Deep α]{a:α}{c:Int}{ss:List Nat}(h1:ss=Deep.ds α)(h2:Deep.dep α≤15):Fits ss 15 [⟨a⟩,⟨c⟩]:=by
 intro d hd;simp only[vG,List.not_mem_nil,or_false]at hd;rcases hd with rfl|rfl
 ·exact⟨⟨[],by rw[wB]; exact h1⟩,h2⟩
 ·exact⟨⟨_,rfl⟩,vS rfl⟩
theorem thawD{α:Type}[Enc α][Deep α](hd:Deep.dep α≤16)(a:α)(h:Heap):∃v h',∃K:Ks,thaw 16 (Deep.ds α) (Enc.enc a) h=some (v,h')∧Deep.rep h' v a K∧(∀k,K k→h.ents.length≤k∧k < h'.ents.length)∧h.ents.length≤h'.ents.length∧∀k,k < h.ents.length→h'.ents[k]? =h.ents[k]?:=by
 obtain⟨v,h',h1,h2,h3⟩:=thaw_deep hd a h;exact⟨v,h',_,h1,h2,fun k q=> q,h3⟩
theorem thawP{α:Type}[Enc α][Deep α]{s:Nat}{ss:List Nat}(hd:s::ss=Deep.ds α∧Deep.dep α≤15)(a:α)(c:Int)(h:Heap):∃v h',∃K:Ks,thaw 16 (s::ss) (.tup [Enc.enc a,V.int .i64 c]) h=some (.tup [v,V.int .i64 c],h')∧Deep.rep h' v a K∧(∀k,K k→h.ents.length≤k∧k < h'.ents.length)∧h.ents.length≤h'.ents.length∧∀k,k < h.ents.length→h'.ents[k]? =h.ents[k]?:=by
 obtain⟨vs,h',h1,h2,h3⟩:=thaw_tup (fits_pair (a:=a) (c:=c) hd.1 hd.2) h;obtain⟨v,rfl,h4⟩:=pair_un h2;exact⟨v,h',_,h1,h4,fun k q=> q,h3⟩
end Rv
namespace Rv
open Enc (enc)
structure zZ (E:List (Nat×Option (List V))) (vs:List V) (l:List (List Int)) (B:Nat→Prop):Prop where
 len:vs.length=l.length
 row:∀ (i:Nat) v r,vs[i]? =some v→l[i]? =some r→∃k u,v= .sl k u 0 r.length 1∧E[k]? =some (u,some (r.map enc))∧B k
 inj:∀ (i j k u n k' u' n':Nat),vs[i]? =some (.sl k u 0 n 1)→vs[j]? =some (.sl k' u' 0 n' 1)→k=k'→i=j
variable {E:List (Nat×Option (List V))} {vs:List V} {l:List (List Int)} {B:Nat→Prop}
theorem zZ.nil{B:Nat→Prop}:zZ E [] [] B:=⟨rfl,fun i v r h=> by simp at h,fun i j k u n k' u' n' h=> by simp at h⟩
theorem zZ.frame{E':List (Nat×Option (List V))}(m:zZ E vs l B)(hf:∀k,k < E.length→B k→E'[k]? =E[k]?):zZ E' vs l B:=
 ⟨m.len,fun i v r h1 h2=> by
  obtain⟨k,u,e,g,b⟩:=m.row i v r h1 h2;exact⟨k,u,e,by rw[hf k (List.getElem?_eq_some_iff.1 g).1 b]; exact g,b⟩,m.inj⟩
theorem zZ.mono{B':Nat→Prop}(m:zZ E vs l B)(h:∀k,k < E.length→B k→B' k):zZ E vs l B':=
 ⟨m.len,fun i v r h1 h2=> by
  obtain⟨k,u,e,g,b⟩:=m.row i v r h1 h2;exact⟨k,u,e,g,h k (List.getElem?_eq_some_iff.1 g).1 b⟩,m.inj⟩
theorem zZ.get(m:zZ E vs l B){i:Nat}{r:List Int}(h:l[i]? =some r):∃k u,vs[i]? =some (.sl k u 0 r.length 1)∧E[k]? =some (u,some (r.map enc))∧B k:=by
 have hi:i < vs.length:=by rw[m.len]; exact(List.getElem?_eq_some_iff.1 h).1
 obtain⟨k,u,e,g,b⟩:=m.row i _ r (List.getElem?_eq_getElem hi) h;exact⟨k,u,by rw[List.getElem?_eq_getElem hi,e],g,b⟩
theorem zZ.write(m:zZ E vs l B){i k u:Nat}{r r':List Int}(h:l[i]? =some r)(hv:vs[i]? =some (.sl k u 0 r.length 1))(hl:r'.length=r.length):zZ (E.set k (u,some (r'.map enc))) vs (l.set i r') B:=by
 have hi:=(List.getElem?_eq_some_iff.1 h).1;refine⟨by rw[yN]; exact m.len,fun j v s h1 h2=>?_,m.inj⟩;by_cases e:j=i
 ·subst e
  rw[List.getElem?_set_self hi]at h2;cases h2;rw[hv]at h1; cases h1;obtain⟨k2,u2,e2,g,b⟩:=m.row j _ r hv h;cases e2;exact⟨k,u,by rw[hl],List.getElem?_set_self (List.getElem?_eq_some_iff.1 g).1,b⟩
 ·rw[List.getElem?_set_ne (yW e)]at h2
  obtain⟨k2,u2,e2,g,b⟩:=m.row j v s h1 h2;subst e2;have hk:k2≠k:=fun q=> e (m.inj j i _ _ _ _ _ _ h1 hv q);exact⟨k2,u2,rfl,by rw[List.getElem?_set_ne (yW hk)]; exact g,b⟩
def swapI(i j n:Nat):Nat:=if n=j then i else if n=i then j else n
theorem swapI_inj{i j m n:Nat}(h:swapI i j m=swapI i j n):m=n:=by
 unfold swapI at h;split at h <;> split at h <;>(try split at h)<;>(try split at h)<;> omega
theorem swap_get{α:Type}{xs:List α}{i j:Nat}{a b:α}(hi:xs[i]? =some a)(hj:xs[j]? =some b)(n:Nat):((xs.set i b).set j a)[n]? =xs[swapI i j n]?:=by
 have h1:=(List.getElem?_eq_some_iff.1 hi).1;have h2:=(List.getElem?_eq_some_iff.1 hj).1;unfold swapI;by_cases e:n=j
 ·subst e; rw[if_pos rfl,List.getElem?_set_self (by simp; omega),hi]
 ·rw[if_neg e,List.getElem?_set_ne (yW e)]
  by_cases e2:n=i
  ·subst e2; rw[if_pos rfl,List.getElem?_set_self h1,hj]
  ·rw[if_neg e2,List.getElem?_set_ne (yW e2)]
theorem zZ.swap(m:zZ E vs l B){i j:Nat}{a b:V}{r s:List Int}(hi:vs[i]? =some a)(hj:vs[j]? =some b)(gi:l[i]? =some r)(gj:l[j]? =some s):zZ E ((vs.set i b).set j a) ((l.set i s).set j r) B:=by
 refine⟨by simp[m.len],fun n v q h1 h2=>?_,fun n n' k u w k' u' w' h1 h2 e=>?_⟩
 ·rw[swap_get hi hj]at h1
  rw[swap_get gi gj]at h2;exact m.row _ v q h1 h2
 ·rw[swap_get hi hj]at h1 h2
  exact swapI_inj (m.inj _ _ _ _ _ _ _ _ h1 h2 e)
theorem zZ.snoc(m:zZ E vs l B){k u:Nat}{r:List Int}(h:E[k]? =some (u,some (r.map enc)))(hB:B k)(hn:∀ (i k' u' n:Nat),vs[i]? =some (.sl k' u' 0 n 1)→k'≠k):zZ E (vs++[.sl k u 0 r.length 1]) (l++[r]) B:=by
 have hl:=m.len;refine⟨by simp[hl],fun i v s h1 h2=>?_,fun i j a b c a' b' c' h1 h2 e=>?_⟩
 ·rcases vC i vs.length with hi|hi
  ·rw[List.getElem?_append_left hi]at h1
   rw[List.getElem?_append_left (by omega)]at h2;exact m.row i v s h1 h2
  ·rw[List.getElem?_append_right hi]at h1
   rw[List.getElem?_append_right (by omega)]at h2;have:i=vs.length:=by
    have:=(List.getElem?_eq_some_iff.1 h1).1;simp at this; omega
   subst this;rw[←hl,Nat.sub_self]at h2;rw[Nat.sub_self]at h1;cases h1; cases h2;exact⟨k,u,rfl,h,hB⟩
 ·have key:∀n x y z,(vs++[V.sl k u 0 r.length 1])[n]? =some (.sl x y 0 z 1)→(n < vs.length∧vs[n]? =some (.sl x y 0 z 1))∨(n=vs.length∧x=k):=fun n x y z hx=> by
   rcases vC n vs.length with hi|hi
   ·rw[List.getElem?_append_left hi]at hx; exact .inl ⟨hi,hx⟩
   ·rw[List.getElem?_append_right hi]at hx
    have:n=vs.length:=by
     have:=(List.getElem?_eq_some_iff.1 hx).1;simp at this; omega
    subst this;simp at hx;exact .inr ⟨rfl,hx.1.symm⟩
  rcases key i _ _ _ h1 with⟨_,p⟩|⟨p,q⟩<;> rcases key j _ _ _ h2 with⟨_,p'⟩|⟨p',q'⟩
  ·exact m.inj i j _ _ _ _ _ _ p p' e
  ·exact absurd (e.trans q') (hn i _ _ _ p)
  ·exact absurd (e.symm.trans q) (hn j _ _ _ p')
  ·omega
theorem mapO_frz(c f:Nat):∀ (ws:List V) (q:List (List Int)),ws.length=q.length→(∀ (i:Nat) v r,ws[i]? =some v→q[i]? =some r→frz ⟨E,c⟩ f v=some (.isl (r.map enc)))→mapO (frz ⟨E,c⟩ f) ws=some (q.map enc)
 | [],[],_,_=> rfl
 |v::ws,r::q,hl,h=> by
  have h0:=h 0 v r rfl rfl;have ht:=mapO_frz c f ws q (by simpa using hl) fun i v r a b=> h (i+1) v r (by simpa using a) (by simpa using b);simp only[mapO,h0,ht,vA];rfl
theorem zZ.fz1(m:zZ E vs l B)(c:Nat){i:Nat}{v:V}{r:List Int}(h1:vs[i]? =some v)(h2:l[i]? =some r):frz ⟨E,c⟩ 15 v=some (.isl (r.map enc)):=by
 obtain⟨k,u,rfl,g,_⟩:=m.row i v r h1 h2;exact Deep.fz (α:=List Int) (K:=fun x=> x=k) (xl g fun x=> yP) 10
theorem zZ.fz(m:zZ E vs l B)(c:Nat){key uid off n:Nat}(hk:E[key]? =some (uid,some vs))(ho:off+n≤l.length):frz ⟨E,c⟩ 16 (.sl key uid off n 1)=some (.isl (((l.drop off).take n).map enc)):=by
 have hl:=m.len;have hm:mapO (frz ⟨E,c⟩ 15) ((vs.drop off).take n)=some (((l.drop off).take n).map enc):=by
  refine mapO_frz c 15 _ _ (by simp[hl]) fun i v r a b=>?_;rw[List.getElem?_take]at a b;split at a
  ·rename_i hi
   rw[if_pos hi]at b;rw[List.getElem?_drop]at a b;exact m.fz1 c a b
  ·cases a
 simp only[frz,get_of (h:=⟨E,c⟩) hk,yK];rw[if_pos ⟨by omega,by omega⟩,hm];simp only[xn]
theorem tsd{vs:List V}{i:Nat}{x:V}(h:i < vs.length):vs.take i++[x]++vs.drop (i+1)=vs.set i x:=by
 rw[List.set_eq_take_append_cons_drop,if_pos h]; simp
theorem slice_lo{key uid n:Nat}{d:Int}(h0:0≤d)(h1:d≤n):sliceV 1 (.sl key uid 0 n 1) (some (.int .i64 d)) none=some (.sl key uid d.toNat (n - d.toNat) 1):=by
 have h2:d.toNat≤n:=by omega
 simp[sliceV,lenV,jH,intV,h0,h1]
theorem slice_hi{key uid n:Nat}{d:Int}(h0:0≤d)(h1:d≤n):sliceV 1 (.sl key uid 0 n 1) none (some (.int .i64 d))=some (.sl key uid 0 d.toNat 1):=by
 have h2:d.toNat≤n:=by omega
 simp[sliceV,lenV,jH,intV,h0,h1]
def RRep(E:List (Nat×Option (List V)))(B:Nat→Prop)(v:V)(r:List Int):Prop:=∃k u,v= .sl k u 0 r.length 1∧E[k]? =some (u,some (r.map enc))∧B k
theorem RRep.frame{E':List (Nat×Option (List V))}{v:V}{r:List Int}{B':Nat→Prop}(h:RRep E B v r)(hf:∀k,k < E.length→B k→E'[k]? =E[k]?∧B' k):RRep E' B' v r:=by
 obtain⟨k,u,h1,h2,h3⟩:=h;obtain⟨q1,q2⟩:=hf k (List.getElem?_eq_some_iff.1 h2).1 h3;exact⟨k,u,h1,q1.trans h2,q2⟩
theorem RRep.fz{v:V}{r:List Int}(h:RRep E B v r)(c f:Nat):frz ⟨E,c⟩ (f+6) v=some (.isl (r.map enc)):=by
 obtain⟨k,u,rfl,g,_⟩:=h;exact Deep.fz (α:=List Int) (K:=fun x=> x=k) (xl g fun x=> yP) (f+1)
structure Rws (E:List (Nat×Option (List V))) (B:Nat→Prop) (vs:List V) (l:List (List Int)):Prop where
 len:vs.length=l.length
 row:∀ (i:Nat) v r,vs[i]? =some v→l[i]? =some r→RRep E B v r
theorem Rws.nil{B:Nat→Prop}:Rws E B [] []:=⟨rfl,fun i v r h=> by simp at h⟩
theorem Rws.frame{E':List (Nat×Option (List V))}{B':Nat→Prop}(m:Rws E B vs l)(hf:∀k,k < E.length→B k→E'[k]? =E[k]?∧B' k):Rws E' B' vs l:=⟨m.len,fun i v r h1 h2=>(m.row i v r h1 h2).frame hf⟩
theorem Rws.get(m:Rws E B vs l){i:Nat}{r:List Int}(h:l[i]? =some r):∃v,vs[i]? =some v∧RRep E B v r:=by
 have hi:i < vs.length:=by rw[m.len]; exact(List.getElem?_eq_some_iff.1 h).1
 exact⟨vs[i],List.getElem?_eq_getElem hi,m.row i _ r (List.getElem?_eq_getElem hi) h⟩
theorem Rws.snoc(m:Rws E B vs l){v:V}{r:List Int}(h:RRep E B v r):Rws E B (vs++[v]) (l++[r]):=by
 have hl:=m.len;refine⟨by simp[hl],fun i w s h1 h2=>?_⟩;rcases vC i vs.length with hi|hi
 ·rw[List.getElem?_append_left hi]at h1
  rw[List.getElem?_append_left (by omega)]at h2;exact m.row i w s h1 h2
 ·rw[List.getElem?_append_right hi]at h1
  rw[List.getElem?_append_right (by omega)]at h2;have:i=vs.length:=by
   have:=(List.getElem?_eq_some_iff.1 h1).1;simp at this; omega
  subst this;rw[Nat.sub_self]at h1;rw[←hl,Nat.sub_self]at h2;cases h1; cases h2;exact h
theorem Rws.fz(m:Rws E B vs l)(c:Nat){key uid:Nat}(hk:E[key]? =some (uid,some vs)):frz ⟨E,c⟩ 16 (.sl key uid 0 l.length 1)=some (.isl (l.map enc)):=by
 have hl:=m.len;have hm:mapO (frz ⟨E,c⟩ 15) vs=some (l.map enc):=mapO_frz c 15 _ _ hl fun i v r a b=>(m.row i v r a b).fz c 9;simp only[frz,get_of (h:=⟨E,c⟩) hk,yK,vH,vW];rw[if_pos ⟨by omega,by omega⟩,←hl,vQ,hm];simp only[xn]
theorem mat_tk(f:Nat):∀ (ws:List V) (q:List (List Int)) (h:Heap),ws.length=q.length→(∀ (i:Nat) v r,ws[i]? =some v→q[i]? =some r→∃k u,v= .sl k u 0 r.length 1∧h.ents[k]? =some (u,some (r.map enc)))→
  (∀ (i j k u n k' u' n':Nat),ws[i]? =some (.sl k u 0 n 1)→ws[j]? =some (.sl k' u' 0 n' 1)→k=k'→i=j)→∃h',mapS (take (f+2) []) ws h=some (q.map enc,h')
 | [],[],h,_,_,_=>⟨h,rfl⟩
 |v::ws,r::q,h,hl,hr,hi=> by
  obtain⟨k,u,rfl,g⟩:=hr 0 v r rfl rfl;have e:(List.map (enc:Int→V) r).take r.length=r.map enc:=wZ (by simp);have ht:take (f+2) [] (.sl k u 0 r.length 1) h=some (enc r,h.kill k):=by
   simp only[take,get_of g,yK,vH,vW,List.tail_nil];rw[if_pos ⟨by simp,by omega,by simp[hdOk]⟩,e,take_ints f []];simp only[xn];rfl
  obtain⟨h',h2⟩:=mat_tk f ws q (h.kill k) (by simpa using hl) (fun i v' r' a b=> by
   obtain⟨k',u',e',g'⟩:=hr (i+1) v' r' (by simpa using a) (by simpa using b);refine⟨k',u',e',?_⟩;rw[kill_ne h fun q=>?_]
   ·exact g'
   ·subst e'; subst q
    have:=hi (i+1) 0 _ _ _ _ _ _ (by simpa using a) rfl rfl;omega) (fun i j k1 u1 n1 k2 u2 n2 a b c=> by
   have:=hi (i+1) (j+1) _ _ _ _ _ _ (by simpa using a) (by simpa using b) c;omega)
  exact⟨h',by simp only[mapS,ht,h2,vA]⟩
theorem zZ.tk(m:zZ E vs l B)(c:Nat){key uid n:Nat}(hk:E[key]? =some (uid,some vs))(hB:¬B key)(hn:n≤l.length):∃h',take 16 [1] (.sl key uid 0 n 1) ⟨E,c⟩=some (.isl ((l.take n).map enc),h'):=by
 have hl:=m.len;obtain⟨h',h2⟩:=mat_tk 13 (vs.take n) (l.take n) ((⟨E,c⟩:Heap).kill key) (by simp[hl]) (fun i v r a b=> by
  rw[List.getElem?_take]at a b;split at a
  ·rename_i hi
   rw[if_pos hi]at b;obtain⟨k,u,e,g,hb⟩:=m.row i v r a b;exact⟨k,u,e,by rw[kill_ne _ fun q=> by subst q; exact hB hb]; exact g⟩
  ·cases a) (fun i j k u n1 k' u' n2 a b e=> by
  rw[List.getElem?_take]at a b;split at a
  ·split at b
   ·exact m.inj i j _ _ _ _ _ _ a b e
   ·cases b
  ·cases a)
 refine⟨h',?_⟩;simp only[take,get_of (h:=⟨E,c⟩) hk,yK,vH,vW,List.tail_cons];rw[if_pos ⟨by omega,by omega,by simp[hdOk]⟩,h2];simp only[xn]
end Rv
namespace Rv
open Go (IntKind BinOp UnOp Program Value Operand Oper Code TypeId Func World Addr Obj Act Calls DataW Lit Field Reach)
open Go.ChangeShapes Go.WideShapes Go.RowKit
theorem frz_to_bool{h:Heap}{f:Nat}{r:V}{b:Bool}(hf:frz h f r=some (.bool b)):r= .bool b:=by
 cases f with
 |zero=> simp[frz]at hf
 |succ f=>
  cases r with
  |bool c=> simp[frz]at hf; rw[hf]
  |_=> exfalso; simp only[frz]at hf;(repeat' split at hf)<;> simp at hf
theorem ran_of_ans{A:Prog}{g:Nat}{as:List V}{b:Bool}(h:ans A g as=some (Enc.enc b)):∃k,((A.run k g as Heap.empty).map (·.1))=some (.bool b):=by
 unfold ans at h;split at h
 ·rename_i r h1 hr
  obtain⟨k,hk⟩:=res_run hr;have:=frz_to_bool (show frz h1 FZ r=some (.bool b) from h);subst this;exact⟨k,by rw[hk]; rfl⟩
 ·cases h
def cellsOf(w:World):Imm:=fun b o=> w.cell? ⟨b,o,none⟩
def Opens(P:Program)(tbl:Nat→Option Nat)(w:World)(t:TypeId)(n:Nat)(α:Type)[Enc α](L:α→Prop):Prop:=
 P.cellsOf t=n∧∀ (H:Type) (enc:TypeId×Value→H) (base:Nat) (spare:Nat→Bool) (held:Bool) (fuel:Nat) (cs:List Value) (d:DataW H×List Go.MemPlace),
  DataW.trod enc P w base spare held fuel t cs=some d→∃x:α,L x∧cs.length=n∧(∀v∈cs,v.oneCell'=true)∧RIs tbl (cellsOf w) (Enc.enc x).cells cs
variable {P:Program} {tbl:Nat→Option Nat} {w:World}
theorem opens_int{t:TypeId}(ht:P.underlying t=some (.int .i64))(hc:P.cellsOf t=1):Opens P tbl w t 1 Int (fun n=> -9223372036854775808≤n∧n≤9223372036854775807):=by
 refine⟨hc,fun H enc base spare held fuel cs d h=>?_⟩;obtain⟨n,rfl,rfl,hw⟩:=DataW.trod_int ht h;exact⟨n,Go.bounds_i64 hw,rfl,by simp[Value.oneCell'],.cons (.int _ _) .nil⟩
theorem opened_struct{t:TypeId}{n:Nat}{α:Type}[Enc α]{L:α→Prop}{fs:Array Field}{H:Type}{enc:TypeId×Value→H}{base b0:Nat}{spare:Nat→Bool}{held:Bool}{r:Reach}{v:Value}{d:DataW H}{ps:List Go.MemPlace}
  (hu:P.underlying t=some (.struct fs)) (hv:Value.okWide P w r b0 t v) (ho:Opens P tbl w t n α L) (ha:∀x:α,Enc.enc x= .agg (Enc.enc x).cells) (h:DataW.Trod enc P w base spare held t v d ps):∃x:α,L x∧RI tbl (cellsOf w) (Enc.enc x) v:=by
 simp only[Value.okWide,hu]at hv;obtain⟨cs,rfl,_,_⟩:=hv;obtain⟨fuel,h⟩:=h;obtain⟨x,h1,h2,h3,h4⟩:=ho.2 _ _ _ _ _ _ _ _ h;refine⟨x,h1,?_⟩;rw[ha x];have e:(Value.agg cs).cells.toList=cs.toList:=rfl;rw[e]at h2 h3 h4;have:=RI.agg (tbl:=tbl) (I:=cellsOf w) (Enc.enc x).cells cs.toList h4.len h3 h4.at_;simpa using this
end Rv
namespace Rv
open Go (IntKind BinOp UnOp Program Value Operand Oper Code TypeId Func World Addr Obj Act Calls DataW Lit Field Reach)
open Go.ChangeShapes Go.WideShapes Go.RowKit
theorem trod_array{P:Program}{w:World}{H:Type}{enc:TypeId×Value→H}{base:Nat}{spare:Nat→Bool}{held:Bool}{fuel n:Nat}{t e:TypeId}{cs:List Value}{x:DataW H×List Go.MemPlace}(ht:P.underlying t=some (.array n e))(h:DataW.trod enc P w base spare held fuel t cs=some x):
  ∃ (xs:List (DataW H×List Go.MemPlace)) (m:Nat),fuel=m+1∧cs.length=P.cellsOf t∧xs.length=n∧∀i,i < n→DataW.trod enc P w base spare held m e ((cs.drop (i*P.cellsOf e)).take (P.cellsOf e))=xs[i]?:=by
 cases fuel with
 |zero=> simp[DataW.trod]at h
 |succ m=>
  unfold DataW.trod at h;rw[ht]at h;split at h <;> simp_all;obtain⟨hl,xs,hp,hd⟩:=h;exact⟨xs,by simpa using Go.mapM_some_length hp,fun i hi=> Go.mapM_some_get hp i i (by simp[hi])⟩
def OpensN(P:Program)(tbl:Nat→Option Nat)(w:World)(t:TypeId)(n:Nat)(k:IntKind):Prop:=
 P.cellsOf t=n∧∀ (H:Type) (enc:TypeId×Value→H) (base:Nat) (spare:Nat→Bool) (held:Bool) (fuel:Nat) (cs:List Value) (d:DataW H×List Go.MemPlace),
  DataW.trod enc P w base spare held fuel t cs=some d→∃l:List Int,l.length=n∧(∀x∈l,(Lit.int k x).wf=true)∧cs.length=n∧(∀v∈cs,v.oneCell'=true)∧RIs tbl (cellsOf w) (l.map (V.int k)) cs
def LongA(k:IntKind)(n:Nat)(a:Ar k n):Prop:=a.val.length=n∧∀x∈a.val,(Lit.int k x).wf=true
variable {P:Program} {tbl:Nat→Option Nat} {w:World}
theorem opensN_int{t:TypeId}{k:IntKind}(ht:P.underlying t=some (.int k))(hc:P.cellsOf t=1):OpensN P tbl w t 1 k:=by
 refine⟨hc,fun H enc base spare held fuel cs d h=>?_⟩;obtain⟨n,rfl,rfl,hw⟩:=DataW.trod_int ht h;exact⟨[n],rfl,by simpa using hw,rfl,by simp[Value.oneCell'],.cons (.int _ _) .nil⟩
theorem opensN_array{t e:TypeId}{n m:Nat}{k:IntKind}(ht:P.underlying t=some (.array n e))(hc:P.cellsOf t=n*m)(he:OpensN P tbl w e m k):OpensN P tbl w t (n*m) k:=by
 refine⟨hc,fun H enc base spare held fuel cs d h=>?_⟩;obtain⟨xs,f,_,hl,hx,hf⟩:=trod_array ht h;obtain⟨hce,hel⟩:=he;rw[hc]at hl;have key:∀j,j≤n→∃l:List Int,l.length=j*m∧(∀x∈l,(Lit.int k x).wf=true)∧(∀v∈cs.take (j*m),v.oneCell'=true)∧RIs tbl (cellsOf w) (l.map (V.int k)) (cs.take (j*m)):=by
  intro j;induction j with
  |zero=> intro _; exact⟨[],by simp,by simp,by simp,by simpa using .nil⟩
  |succ j ih=>
   intro hj;obtain⟨l,h1,h2,h3,h4⟩:=ih (by omega);have hk:=hf j (by omega);rw[List.getElem?_eq_getElem (show j < xs.length by omega),hce]at hk;obtain⟨l',q1,q2,q3,q4,q5⟩:=hel _ _ _ _ _ _ _ _ hk;have e:cs.take ((j+1)*m)=cs.take (j*m)++(cs.drop (j*m)).take m:=by rw[uI,List.take_add]
   refine⟨l++l',by rw[wJ,h1,q1,uI],?_,?_,?_⟩
   ·intro x hx; rcases vD.1 hx with hx|hx
    ·exact h2 x hx
    ·exact q2 x hx
   ·rw[e]; intro x hx; rcases vD.1 hx with hx|hx
    ·exact h3 x hx
    ·exact q4 x hx
   ·rw[e,vT]; exact h4.append q5
 obtain⟨l,h1,h2,h3,h4⟩:=key n (wG _);rw[wZ (by omega)]at h3 h4;exact⟨l,h1,h2,hl,h3,h4⟩
theorem arc_full{k:IntKind}{n:Nat}{l:List Int}(h:l.length=n):arc k n l=l.map (V.int k):=by
 symm
 apply arc_ext (by simp[h]);intro i hi;rw[List.getElem?_map,List.getElem?_eq_getElem (by omega),List.getD_eq_getElem?_getD,List.getElem?_eq_getElem (by omega)]; rfl
theorem opens_arr{t:TypeId}{n:Nat}{k:IntKind}(h:OpensN P tbl w t n k):Opens P tbl w t n (Ar k n) (LongA k n):=by
 refine⟨h.1,fun H enc base spare held fuel cs d hd=>?_⟩;obtain⟨l,h1,h2,h3,h4,h5⟩:=h.2 _ _ _ _ _ _ _ _ hd;refine⟨⟨l⟩,⟨h1,h2⟩,h3,h4,?_⟩;rw[show(Enc.enc (⟨l⟩:Ar k n)).cells=arc k n l from rfl,arc_full h1];exact h5
theorem opens_struct6{t:TypeId}{f0 f1 f2 f3 f4 f5:Field}{n0 n1 n2 n3 n4 n5:Nat}{α α0 α1 α2 α3 α4 α5:Type}[Enc α][Enc α0][Enc α1][Enc α2][Enc α3][Enc α4][Enc α5]{L0:α0→Prop}{L1:α1→Prop}{L2:α2→Prop}{L3:α3→Prop}{L4:α4→Prop}{L5:α5→Prop}(mk:α0→α1→α2→α3→α4→α5→α)(L:α→Prop)(ht:P.underlying t=some (.struct #[f0,f1,f2,f3,f4,f5])){N:Nat}(hN:N=n0+n1+n2+n3+n4+n5)(hc:P.cellsOf t=N)
  (o0:f0.offset=0) (o1:f1.offset=n0) (o2:f2.offset=n0+n1) (o3:f3.offset=n0+n1+n2) (o4:f4.offset=n0+n1+n2+n3) (o5:f5.offset=n0+n1+n2+n3+n4) (h0:Opens P tbl w f0.type n0 α0 L0) (h1:Opens P tbl w f1.type n1 α1 L1) (h2:Opens P tbl w f2.type n2 α2 L2) (h3:Opens P tbl w f3.type n3 α3 L3) (h4:Opens P tbl w f4.type n4 α4 L4) (h5:Opens P tbl w f5.type n5 α5 L5)
  (he:∀x0 x1 x2 x3 x4 x5,(Enc.enc (mk x0 x1 x2 x3 x4 x5)).cells=(Enc.enc x0).cells++((Enc.enc x1).cells++((Enc.enc x2).cells++((Enc.enc x3).cells++((Enc.enc x4).cells++(Enc.enc x5).cells))))) (hL:∀x0 x1 x2 x3 x4 x5,L0 x0→L1 x1→L2 x2→L3 x3→L4 x4→L5 x5→L (mk x0 x1 x2 x3 x4 x5)):Opens P tbl w t N α L:=by
 refine⟨hc,fun H enc base spare held fuel cs d h=>?_⟩;obtain⟨xs,n,_,rfl,hl,hlen,hf⟩:=DataW.trod_struct ht h;have hx:xs.length=6:=hlen;have e0:=hf 0 f0 rfl;have e1:=hf 1 f1 rfl;have e2:=hf 2 f2 rfl;have e3:=hf 3 f3 rfl;have e4:=hf 4 f4 rfl;have e5:=hf 5 f5 rfl;rw[List.getElem?_eq_getElem (by omega)]at e0 e1 e2 e3 e4 e5;rw[o0,h0.1]at e0;rw[o1,h1.1]at e1;rw[o2,h2.1]at e2;rw[o3,h3.1]at e3;rw[o4,h4.1]at e4;rw[o5,h5.1]at e5;obtain⟨x0,a1,a2,a3,a4⟩:=h0.2 _ _ _ _ _ _ _ _ e0;obtain⟨x1,b1,b2,b3,b4⟩:=h1.2 _ _ _ _ _ _ _ _ e1;obtain⟨x2,c1,c2,c3,c4⟩:=h2.2 _ _ _ _ _ _ _ _ e2;obtain⟨x3,d1,d2,d3,d4⟩:=h3.2 _ _ _ _ _ _ _ _ e3;obtain⟨x4,g1,g2,g3,g4⟩:=h4.2 _ _ _ _ _ _ _ _ e4;obtain⟨x5,q1,q2,q3,q4⟩:=h5.2 _ _ _ _ _ _ _ _ e5;rw[hc]at hl;have e:cs=(cs.drop 0).take n0++((cs.drop n0).take n1++((cs.drop (n0+n1)).take n2++((cs.drop (n0+n1+n2)).take n3++((cs.drop (n0+n1+n2+n3)).take n4++(cs.drop (n0+n1+n2+n3+n4)).take n5)))):=by
  rw[vW,wZ (l:=cs.drop (n0+n1+n2+n3+n4)) (by simp; omega),←wH (i:=n4),uP,←wH (i:=n3),uP,←wH (i:=n2),uP,←wH,uP,uP]
 refine⟨mk x0 x1 x2 x3 x4 x5,hL _ _ _ _ _ _ a1 b1 c1 d1 g1 q1,hl,?_,?_⟩
 ·intro v hv
  rw[e]at hv;rcases vD.1 hv with hv|hv
  ·exact a3 v hv
  rcases vD.1 hv with hv|hv
  ·exact b3 v hv
  rcases vD.1 hv with hv|hv
  ·exact c3 v hv
  rcases vD.1 hv with hv|hv
  ·exact d3 v hv
  rcases vD.1 hv with hv|hv
  ·exact g3 v hv
  ·exact q3 v hv
 ·rw[he,e]; exact a4.append (b4.append (c4.append (d4.append (g4.append q4))))
end Rv
namespace Rv
end Rv
