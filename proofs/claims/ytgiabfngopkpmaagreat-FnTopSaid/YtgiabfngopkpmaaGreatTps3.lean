/- What the abstract code answers: typed functions, part 4. -/
import Derived.Test.YtgiabfngopkpmaaGreatTps2
set_option maxHeartbeats 8000000
namespace Rv
open Enc (enc)
set_option linter.unusedVariables false
set_option linter.unusedSimpArgs false
set_option maxRecDepth 100000
noncomputable section
def cpL(r w:List Int):List Int:=w.take r.length++r.drop w.length
def F155_1_B(c:qj)(i:Int)(s:List Int):Option (List Int⊕List Int):=(getI c.Up i).bind fun rows=>(app 8 s [(rows.length:Int)]).bind fun r=> some (.inl r)
def F155_1_D(i:Int)(s:List Int):Option (List Int):=some s
def F155_4_B(x:qh)(c:qj)(y:qh)(n k:Int)(s:List Int×List Int×Int):Option ((List Int×List Int×Int)⊕List Int):=(F173 x.Prime s.1 s.2.1 s.2.2).bind fun s1=>(chk (n - 1)).bind fun n1=>(F174 c x y n1 s.2.1).bind fun z=>(chk (x.Prime - s.2.2)).bind fun b=> some (.inl (s1,z,b))
def F155_4_D(k:Int)(s:List Int×List Int×Int):Option (List Int):=some s.1
def F155_3_B(x:qh)(c:qj)(y:qh)(k n:Int)(rows:List (List Int))(i:Int)(s:List (List (List Int))):Option (List (List (List Int))⊕List (List (List Int))):=(getI rows i).bind fun v=>(F91 y n v).bind fun z=>(chk (n - 1)).bind fun n1=>(F102 x n1).bind fun d=>(mkL 8 d (0:Int)).bind fun s0=>(forR 0 k (F155_4_B x c y n) F155_4_D (s0,z,1)).bind fun sum=>(getI s n1).bind fun t=>(getI t i).bind fun row=>(F175 c x n1 sum).bind fun w=>(setI t i (cpL row w)).bind fun t'=>(setI s n1 t').bind fun s'=> some (.inl s')
def F155_3_D(i:Int)(s:List (List (List Int))):Option (List (List (List Int))):=some s
def F155_2_B(x:qh)(c:qj)(y:qh)(k n:Int)(s:List (List (List Int))):Option (List (List (List Int))⊕List (List (List Int))):=(getI c.Up n).bind fun rows=>(forR 0 (rows.length:Int) (F155_3_B x c y k n rows) F155_3_D s).bind fun s'=> some (.inl s')
def F155_2_D(n:Int)(s:List (List (List Int))):Option (List (List (List Int))):=some s
def F155(x:qh)(c:qj)(f:List (List (List Int))):Option (T2 qh Int):=(F172 x c f).bind fun t=> if t.c=0 then(forR 0 (c.Up.length:Int) (F155_1_B c) F155_1_D []).bind fun d=>(F74 x.Prime d).bind fun o=>(F86 x).bind fun tp=>(forR 1 (tp+1) (F155_2_B x c t.b t.a) F155_2_D o.Maps).bind fun m=> some ⟨⟨o.Prime,o.Dims,m⟩,0⟩else some ⟨⟨0,[],[]⟩,t.c⟩
def S155(p:Int)(dv m:V)(N c1:Nat)(K:Ks)(y:qh)(R:List (Nat×Option (List V))→Prop)(s:List (List (List Int)))(E:List (Nat×Option (List V))):Prop:=
 Deep.rep ⟨E,0⟩ m s K∧R E∧E[N]? =some (c1,some [V.int .i64 p,dv,m])∧E[3]? =some (3,some [V.int .i64 y.Prime,V.isl (y.Dims.map enc),V.isl (y.Maps.map enc)])
theorem copyV155(row w:List Int):(if(min w.length row.length)=0 then List.map enc row else List.take (min w.length row.length) (w.map enc)++List.drop (min w.length row.length) (row.map enc))=List.map (enc (α:=Int)) (cpL row w):=by
 unfold cpL;rw[yA,List.map_take,List.map_drop];split
 ·rename_i h
  rcases Nat.le_total w.length row.length with h1|h1
  ·rw[yP h1]at h
   have:w=[]:=vF h;subst this; simp
  ·rw[Nat.min_eq_right h1]at h
   have:row=[]:=vF h;subst this; simp
 ·rcases Nat.le_total w.length row.length with h1|h1
  ·rw[yP h1,vC (by simp),vC (by simpa using h1)]
  ·rw[Nat.min_eq_right h1,List.drop_of_length_le (by simp),List.drop_of_length_le (by simpa using h1)]
theorem map_enc_inj155:∀ {a b:List Int},List.map enc a=List.map enc b→a=b
 | [],[],_=> rfl
 | [],_::_,h=> by simp at h
 |_::_,[],h=> by simp at h
 |x::a,y::b,h=> by
  simp only[wY,List.cons.injEq]at h;obtain⟨h1,h2⟩:=h;have:x=y:=by simpa[enc]using h1
  rw[this,map_enc_inj155 h2]
theorem srcV_w155(h:Heap)(w:List Int):srcV h 1 (V.isl (w.map enc))=some (w.length,List.map enc w):=by
 have:flat (w.map enc)=List.map enc w:=by
  unfold flat;induction w with
  |nil=> rfl
  |cons a l ih=> simp only[wY,vR,ih]; rfl
 simp[srcV,this]
theorem sp155{p:Int}{dv m:V}{N c1:Nat}{K:Ks}{R:List (Nat×Option (List V))→Prop}{y:qh}(hR:∀E E',R E→(∀k,k < E.length→¬K k→E'[k]? =E[k]?)→R E'){s:List (List (List Int))}{E:List (Nat×Option (List V))}{x:Nat×Option (List V)}(h:S155 p dv m N c1 K y R s E):S155 p dv m N c1 K y R s (E++[x]):=by
 obtain⟨h1,h2,h3,h4⟩:=h;exact⟨Deep.frame h1 fun k q=> List.getElem?_append_left (Deep.bd h1 q),hR E _ h2 fun k q _=> List.getElem?_append_left q,(List.getElem?_append_left (List.getElem?_eq_some_iff.1 h3).1).trans h3,(List.getElem?_append_left (List.getElem?_eq_some_iff.1 h4).1).trans h4⟩
theorem l155_4(x:qh)(c:qj)(y:qh){n k:Int}{p:Int}{dv m:V}{N c1:Nat}{K:Ks}{R:List (Nat×Option (List V))→Prop}(hR:∀E E',R E→(∀k,k < E.length→¬K k→E'[k]? =E[k]?)→R E'){sm z r:List Int}{b:Int}(hF:forR 0 k (F155_4_B x c y n) F155_4_D (sm,z,b)=some r){s:List (List (List Int))}{rows:List (List Int)}{i:Int}{e:Env}{h:Heap}(hS:S155 p dv m N c1 K y R s h.ents)
  (hl_0:e.length=116) (h3_0:e.at 3=V.iptr [V.int .i64 x.Prime,V.isl (x.Dims.map enc),V.isl (x.Maps.map enc)]) (h4_0:e.at 4=V.iptr [V.isl (c.Down.map enc),V.isl (c.Up.map enc),V.isl (c.Back.map enc)]) (h6_0:e.at 6=V.ptr 2 2 0) (h8_0:e.at 8=V.int .i64 k) (h9_0:e.at 9=V.ptr 3 3 0) (h12_0:e.at 12=V.int .i64 x.Prime) (h15_0:e.at 15=V.ptr N c1 0) (h16_0:e.at 16=V.int .i64 n) (h63_0:e.at 63=V.isl (rows.map enc)) (h64_0:e.at 64=V.int .i64 (rows.length:Int)) (h65_0:e.at 65=V.int .i64 i) (h17_0:e.at 17=V.int .i64 i) (h19_0:e.at 19=V.isl (z.map enc)) (h20_0:e.at 20=V.isl (sm.map enc)) (h21_0:e.at 21=V.int .i64 b) (h79_0:e.at 79=V.int .i64 k) (h80_0:e.at 80=V.int .i64 0):
  W A (.block 6 (.loop true b155_4)) e h (fun x' e h=> x'= .normal∧S155 p dv m N c1 K y R s h.ents∧e.length=116∧e.at 3=V.iptr [V.int .i64 x.Prime,V.isl (x.Dims.map enc),V.isl (x.Maps.map enc)]∧e.at 4=V.iptr [V.isl (c.Down.map enc),V.isl (c.Up.map enc),V.isl (c.Back.map enc)]∧e.at 6=V.ptr 2 2 0∧e.at 8=V.int .i64 k∧e.at 9=V.ptr 3 3 0∧e.at 12=V.int .i64 x.Prime∧e.at 15=V.ptr N c1 0∧e.at 16=V.int .i64 n∧e.at 63=V.isl (rows.map enc)∧e.at 64=V.int .i64 (rows.length:Int)∧e.at 65=V.int .i64 i∧e.at 17=V.int .i64 i∧e.at 20=V.isl (r.map enc)):=by
 rw[ql];refine qq hF _ rfl (fun j q e h=> S155 p dv m N c1 K y R s h.ents∧e.length=116∧e.at 3=V.iptr [V.int .i64 x.Prime,V.isl (x.Dims.map enc),V.isl (x.Maps.map enc)]∧e.at 4=V.iptr [V.isl (c.Down.map enc),V.isl (c.Up.map enc),V.isl (c.Back.map enc)]∧e.at 6=V.ptr 2 2 0∧e.at 8=V.int .i64 k∧e.at 9=V.ptr 3 3 0∧e.at 12=V.int .i64 x.Prime∧e.at 15=V.ptr N c1 0∧e.at 16=V.int .i64 n∧e.at 63=V.isl (rows.map enc)∧e.at 64=V.int .i64 (rows.length:Int)∧e.at 65=V.int .i64 i∧e.at 17=V.int .i64 i∧e.at 19=V.isl (List.map enc q.2.1)∧e.at 20=V.isl (List.map enc q.1)∧e.at 21=V.int .i64 q.2.2∧e.at 79=V.int .i64 k∧e.at 80=V.int .i64 j) ⟨hS,hl_0,h3_0,h4_0,h6_0,h8_0,h9_0,h12_0,h15_0,h16_0,h63_0,h64_0,h65_0,h17_0,h19_0,h20_0,h21_0,h79_0,h80_0⟩ ?_ ?_
 ·clear hS hl_0 h3_0 h4_0 h6_0 h8_0 h9_0 h12_0 h15_0 h16_0 h63_0 h64_0 h65_0 h17_0 h19_0 h20_0 h21_0 h79_0 h80_0
  rintro j ⟨sm,z,b⟩ e ⟨E,q⟩ ⟨hS,hl_1,h3_1,h4_1,h6_1,h8_1,h9_1,h12_1,h15_1,h16_1,h63_1,h64_1,h65_1,h17_1,h19_1,h20_1,h21_1,h79_1,h80_1⟩ hlt hw o ho;unfold F155_4_B at ho;dsimp only at ho h19_1 h20_1 h21_1;obtain⟨s1,g1,ho⟩:=bS ho;have w1:ans A 173 [V.int .i64 x.Prime,V.isl (sm.map enc),V.isl (z.map enc),V.int .i64 b]=some (V.isl (s1.map enc)):=s173 x.Prime sm z b g1;obtain⟨n1,g2,ho⟩:=bS ho;have w2:=qx g2;obtain⟨z1,g3,ho⟩:=bS ho;have w3:ans A 174 [(eK c),(eC x),(eC y),V.int .i64 n1,V.isl (z.map enc)]=some (V.isl (z1.map enc)):=s174 c x y n1 z g3;obtain⟨b1,g4,ho⟩:=bS ho;have w4:=qx g4;have hE:=wB ho; subst hE;have h3:=hS.2.2.2;simp only at h3;simp only[simprocAttr, -Int.reduceNatCast',R0,b155_4,hl_1,h3_1,h4_1,h6_1,h8_1,h9_1,h12_1,h15_1,h16_1,h63_1,h64_1,h65_1,h17_1,h19_1,h20_1,h21_1,h79_1,h80_1,eq_true hlt,hw,w1,w2,h3,w3,w4];refine ai rfl (ai hS ?_);simp only[simprocAttr, -Int.reduceNatCast',R0,hl_1,h3_1,h4_1,h6_1,h8_1,h9_1,h12_1,h15_1,h16_1,h63_1,h64_1,h65_1,h17_1,h19_1,h20_1,h21_1,h79_1,h80_1,hw]
 ·clear hS hl_0 h3_0 h4_0 h6_0 h8_0 h9_0 h12_0 h15_0 h16_0 h63_0 h64_0 h65_0 h17_0 h19_0 h20_0 h21_0 h79_0 h80_0
  rintro j ⟨sm,z,b⟩ e ⟨E,q⟩ ⟨hS,hl_1,h3_1,h4_1,h6_1,h8_1,h9_1,h12_1,h15_1,h16_1,h63_1,h64_1,h65_1,h17_1,h19_1,h20_1,h21_1,h79_1,h80_1⟩ hge t1 ho;unfold F155_4_D at ho;dsimp only at ho h20_1;have hE:=wB ho; subst hE;simp only[simprocAttr, -Int.reduceNatCast',R0,b155_4,hl_1,h3_1,h4_1,h6_1,h8_1,h9_1,h12_1,h15_1,h16_1,h63_1,h64_1,h65_1,h17_1,h19_1,h20_1,h21_1,h79_1,h80_1,eq_false hge];intro ht; subst ht;exact⟨hS,rfl⟩
theorem l155_3(x:qh)(c:qj)(y:qh){n k:Int}{rows:List (List Int)}{p:Int}{dv m:V}{N c1:Nat}{K:Ks}{R:List (Nat×Option (List V))→Prop}(hR:∀E E',R E→(∀k,k < E.length→¬K k→E'[k]? =E[k]?)→R E')(hN:¬K N)(hK3:¬K 3){s s':List (List (List Int))}(hF:forR 0 (rows.length:Int) (F155_3_B x c y k n rows) F155_3_D s=some s'){e:Env}{h:Heap}(hS:S155 p dv m N c1 K y R s h.ents)
  (hl_0:e.length=116) (h3_0:e.at 3=V.iptr [V.int .i64 x.Prime,V.isl (x.Dims.map enc),V.isl (x.Maps.map enc)]) (h4_0:e.at 4=V.iptr [V.isl (c.Down.map enc),V.isl (c.Up.map enc),V.isl (c.Back.map enc)]) (h6_0:e.at 6=V.ptr 2 2 0) (h8_0:e.at 8=V.int .i64 k) (h9_0:e.at 9=V.ptr 3 3 0) (h12_0:e.at 12=V.int .i64 x.Prime) (h15_0:e.at 15=V.ptr N c1 0) (h16_0:e.at 16=V.int .i64 n) (h63_0:e.at 63=V.isl (rows.map enc)) (h64_0:e.at 64=V.int .i64 (rows.length:Int)) (h65_0:e.at 65=V.int .i64 0):
  W A (.block 4 (.loop true b155_3)) e h (fun x' e h=> x'= .normal∧S155 p dv m N c1 K y R s' h.ents∧e.length=116∧e.at 3=V.iptr [V.int .i64 x.Prime,V.isl (x.Dims.map enc),V.isl (x.Maps.map enc)]∧e.at 4=V.iptr [V.isl (c.Down.map enc),V.isl (c.Up.map enc),V.isl (c.Back.map enc)]∧e.at 6=V.ptr 2 2 0∧e.at 8=V.int .i64 k∧e.at 9=V.ptr 3 3 0∧e.at 12=V.int .i64 x.Prime∧e.at 15=V.ptr N c1 0∧e.at 16=V.int .i64 n):=by
 rw[ql];refine qq hF _ rfl (fun i s e h=> S155 p dv m N c1 K y R s h.ents∧e.length=116∧e.at 3=V.iptr [V.int .i64 x.Prime,V.isl (x.Dims.map enc),V.isl (x.Maps.map enc)]∧e.at 4=V.iptr [V.isl (c.Down.map enc),V.isl (c.Up.map enc),V.isl (c.Back.map enc)]∧e.at 6=V.ptr 2 2 0∧e.at 8=V.int .i64 k∧e.at 9=V.ptr 3 3 0∧e.at 12=V.int .i64 x.Prime∧e.at 15=V.ptr N c1 0∧e.at 16=V.int .i64 n∧e.at 63=V.isl (rows.map enc)∧e.at 64=V.int .i64 (rows.length:Int)∧e.at 65=V.int .i64 i) ⟨hS,hl_0,h3_0,h4_0,h6_0,h8_0,h9_0,h12_0,h15_0,h16_0,h63_0,h64_0,h65_0⟩ ?_ ?_
 ·clear hS hl_0 h3_0 h4_0 h6_0 h8_0 h9_0 h12_0 h15_0 h16_0 h63_0 h64_0 h65_0
  rintro i s e ⟨E,q⟩ ⟨hS,h_1⟩ hlt hw o ho;unfold F155_3_B at ho;obtain⟨v,g1,ho⟩:=bS ho;obtain⟨w1a,w1b⟩:=qm g1;have w1c:=qM g1;obtain⟨z,g2,ho⟩:=bS ho;have w2:ans A 91 [(eC y),V.int .i64 n,V.isl (v.map enc)]=some (V.isl (z.map enc)):=s91 y n v g2;obtain⟨n1,g3,ho⟩:=bS ho;have w3:=qx g3;obtain⟨d,g4,ho⟩:=bS ho;have w4:ans A 102 [(eC x),V.int .i64 n1]=some (V.int .i64 d):=s102 x n1 g4;obtain⟨s0,g5,ho⟩:=bS ho;obtain⟨m1,m2,m3,m4,m5⟩:=mkL_w g5;replace m5:(List.replicate (Int.toNat d) [V.int .i64 0]).flatten=List.map enc s0:=m5;have zf:take 16 [] (V.sl E.length q 0 d.toNat 1) ⟨E++[(q,some (s0.map enc))],q+1⟩=some (V.isl (s0.map enc),⟨E++[(0,none)],q+1⟩):=by
   rw[←m4,take_sl1];simp[Heap.get,Heap.kill,hdOk,zS];rw[jA,take_ints 14]
  obtain⟨sum,g6,ho⟩:=bS ho;obtain⟨t,g7,ho⟩:=bS ho;obtain⟨w7a,w7b⟩:=qm g7;have w7c:=qM g7;obtain⟨row,g8,ho⟩:=bS ho;obtain⟨w8a,w8b⟩:=qm g8;have w8c:=qM g8;obtain⟨w,g9,ho⟩:=bS ho;have w9:ans A 175 [(eK c),(eC x),V.int .i64 n1,V.isl (sum.map enc)]=some (V.isl (w.map enc)):=s175 c x n1 sum g9;obtain⟨t',g10,ho⟩:=bS ho;have st:=jI g10;obtain⟨s2,g11,ho⟩:=bS ho;have sm:=jI g11;cases ho;have h3:=hS.2.2.2;simp only at h3;simp only[simprocAttr, -Int.reduceNatCast',R0,b155_3,h_1,eq_true hlt,hw,w1a,w1b,eq_true w1c,h3,w2,w3,w4,m1,m2,m3,m5,zf];have sp:S155 p dv m N c1 K y R s (E++[(0,none)]):=sp155 hR hS;refine W.mono (l155_4 x c y hR g6 (s:=s) (rows:=rows) (i:=i) (h:=⟨E++[(0,none)],q+1⟩) sp ?_ ?_ ?_ ?_ ?_ ?_ ?_ ?_ ?_ ?_ ?_ ?_ ?_ ?_ ?_ ?_ ?_ ?_) ?_
  rotate_right
  ·rintro _ e ⟨E2,q2⟩ ⟨rfl,hS2,h_2⟩
   have r0:Deep.rep ⟨E2,q2⟩ m s K:=Deep.frame hS2.1 fun _ _=> rfl;obtain⟨u1,u2,u3,u4⟩:=hS2;simp only at u2 u3 u4;obtain⟨key,uid,vs,x1,K1,hm,a1,a2,a3,a4,a5,a6⟩:=rep_focus r0 w7b;obtain⟨key2,uid2,vs2,x2,K2,hx1,b1,b2,b3,b4,b5,b6⟩:=rep_focus a4 w8b;have o1:=qz a2;have o2:=qz b2;simp only at a1 b1;have hln:=rep_len b4;have b5':∀k,K2 k→K k:=fun k q=> a5 k (b5 k q);subst hm;subst hx1;by_cases hj:min w.length row.length=0
   ·have hrow:cpL row w=row:=map_enc_inj155 (by rw[←copyV155 row w,if_pos hj])
    have e1:t'=t:=by rw[st,hrow]; exact jC w8b
    have e2:s2=s:=by rw[sm,e1]; exact jC w7b
    simp only[simprocAttr, -Int.reduceNatCast',R0,h_2,hw,u3,u4,w3,w7a,eq_true w7c,a1,o1,w8a,eq_true w8c,b1,o2,w9,hln,srcV_w155,eq_true hj];refine ai rfl (ai ?_ ?_)
    ·rw[e2]; exact⟨Deep.frame r0 fun _ _=> rfl,u2,u3,u4⟩
    ·simp only[simprocAttr, -Int.reduceNatCast',R0,h_2,hw]
   ·rcases row_int b4 with⟨_,rfl,_⟩|⟨key3,uid3,hx2,d1,d2⟩
    ·exact absurd (by simp) hj
    subst hx2;simp only at d1;have hle:min w.length row.length≤row.length:=Nat.min_le_right _ _;have cp:=copyV155 row w;rw[if_neg hj]at cp;have k3:key3 < E2.length:=(List.getElem?_eq_some_iff.1 d1).1;have dK:K key3:=b5' _ (d2 _ |>.2 rfl);simp only[simprocAttr, -Int.reduceNatCast',R0,h_2,hw,u3,u4,w3,w7a,eq_true w7c,a1,o1,w8a,eq_true w8c,b1,o2,w9,hln,srcV_w155,eq_false hj,d1,eq_true hle,cp];have hcl:(cpL row w).length=row.length:=by unfold cpL; simp; omega
    have r3:Deep.rep ⟨E2.set key3 (uid3,some (List.map enc (cpL row w))),q2⟩ (V.sl key3 uid3 0 row.length 1) (cpL row w) K2:=by
     rw[←hcl]; exact zh (qt k3) d2
    have r1:=b6 _ _ r3 (fun k hk nk=> qC (fun e=> nk ((d2 k).2 e)));rw[←st]at r1;have r2:=a6 _ _ r1 (fun k hk nk=> qC (fun e=> nk (b5 k ((d2 k).2 e))));rw[←sm]at r2;refine ai rfl (ai ⟨Deep.frame r2 fun _ _=> rfl,hR _ _ u2 fun k a b=> qC (fun e=> b (e▸dK)),(qC (k:=N) (key:=key3) fun e=> hN (by rw[e]; exact dK)).trans u3,(qC (k:=3) (key:=key3) fun e=> hK3 (by rw[e]; exact dK)).trans u4⟩ ?_);simp only[simprocAttr, -Int.reduceNatCast',R0,h_2,hw]
  all_goals simp only[simprocAttr, -Int.reduceNatCast',R0,h_1]
 ·clear hS hl_0 h3_0 h4_0 h6_0 h8_0 h9_0 h12_0 h15_0 h16_0 h63_0 h64_0 h65_0
  rintro i s e ⟨E,q⟩ ⟨hS,h_1⟩ hge t1 ho;unfold F155_3_D at ho;cases ho;simp only[simprocAttr, -Int.reduceNatCast',R0,b155_3,h_1,eq_false hge];intro ht; subst ht;exact hS
theorem l155_2(x:qh)(c:qj)(y:qh){k tp:Int}{p:Int}{dv m:V}{N c1:Nat}{K:Ks}{R:List (Nat×Option (List V))→Prop}(hR:∀E E',R E→(∀k,k < E.length→¬K k→E'[k]? =E[k]?)→R E')(hN:¬K N)(hK3:¬K 3)(wtp:ans A 86 [(eC x)]=some (V.int .i64 tp)){s s':List (List (List Int))}(hF:forR 1 (tp+1) (F155_2_B x c y k) F155_2_D s=some s'){e:Env}{h:Heap}(hS:S155 p dv m N c1 K y R s h.ents)
  (hl_0:e.length=116) (h3_0:e.at 3=V.iptr [V.int .i64 x.Prime,V.isl (x.Dims.map enc),V.isl (x.Maps.map enc)]) (h4_0:e.at 4=V.iptr [V.isl (c.Down.map enc),V.isl (c.Up.map enc),V.isl (c.Back.map enc)]) (h6_0:e.at 6=V.ptr 2 2 0) (h8_0:e.at 8=V.int .i64 k) (h9_0:e.at 9=V.ptr 3 3 0) (h12_0:e.at 12=V.int .i64 x.Prime) (h15_0:e.at 15=V.ptr N c1 0) (h16_0:e.at 16=V.int .i64 1):
  W A (.block 2 (.loop true b155_2)) e h (fun x' e h=> x'= .normal∧S155 p dv m N c1 K y R s' h.ents∧e.length=116∧e.at 3=V.iptr [V.int .i64 x.Prime,V.isl (x.Dims.map enc),V.isl (x.Maps.map enc)]∧e.at 4=V.iptr [V.isl (c.Down.map enc),V.isl (c.Up.map enc),V.isl (c.Back.map enc)]∧e.at 6=V.ptr 2 2 0∧e.at 8=V.int .i64 k∧e.at 9=V.ptr 3 3 0∧e.at 12=V.int .i64 x.Prime∧e.at 15=V.ptr N c1 0):=by
 rw[ql];refine qq hF _ rfl (fun n s e h=> S155 p dv m N c1 K y R s h.ents∧e.length=116∧e.at 3=V.iptr [V.int .i64 x.Prime,V.isl (x.Dims.map enc),V.isl (x.Maps.map enc)]∧e.at 4=V.iptr [V.isl (c.Down.map enc),V.isl (c.Up.map enc),V.isl (c.Back.map enc)]∧e.at 6=V.ptr 2 2 0∧e.at 8=V.int .i64 k∧e.at 9=V.ptr 3 3 0∧e.at 12=V.int .i64 x.Prime∧e.at 15=V.ptr N c1 0∧e.at 16=V.int .i64 n) ⟨hS,hl_0,h3_0,h4_0,h6_0,h8_0,h9_0,h12_0,h15_0,h16_0⟩ ?_ ?_
 ·clear hS hl_0 h3_0 h4_0 h6_0 h8_0 h9_0 h12_0 h15_0 h16_0
  rintro n s e ⟨E,q⟩ ⟨hS,h_1⟩ hlt hw o ho;unfold F155_2_B at ho;have hle:n≤tp:=by omega
  obtain⟨rows,g1,ho⟩:=bS ho;obtain⟨w1a,w1b⟩:=qm g1;have w1c:=qM g1;obtain⟨s2,g2,ho⟩:=bS ho;cases ho;simp only[simprocAttr,R0,b155_2,eq_true hle, *];refine W.mono (l155_3 x c y hR hN hK3 g2 (h:=⟨E,q⟩) hS ?_ ?_ ?_ ?_ ?_ ?_ ?_ ?_ ?_ ?_ ?_ ?_) ?_
  rotate_right
  ·rintro _ e ⟨E2,q2⟩ ⟨rfl,hS2,h_2⟩
   simp only[simprocAttr,R0, *];refine ai rfl (ai hS2 ?_);simp only[simprocAttr,R0, *]
  all_goals simp only[simprocAttr,R0, *]
 ·clear hS hl_0 h3_0 h4_0 h6_0 h8_0 h9_0 h12_0 h15_0 h16_0
  rintro n s e ⟨E,q⟩ ⟨hS,h_1⟩ hge t1 ho;unfold F155_2_D at ho;have hle:¬n≤tp:=by omega
  cases ho;simp only[simprocAttr,R0,b155_2,eq_false hle, *];intro ht; subst ht;exact hS
theorem d155(x:qh)(c:qj)(f:List (List (List Int))){r:T2 qh Int}(hF:F155 x c f=some r):∃v h',res A 155 [(eC x),(eK c),V.isl (f.map enc)] Heap.empty=some (v,h')∧∃vs K,v=V.tup vs∧repF h' vs [⟨r.a⟩,⟨r.b⟩] K:=by
 refine je (f:=p155) rfl rfl rfl fun e hl he=>?_;have h0_0:e.at 0=(eC x):=he 0 _ rfl;have h1_0:e.at 1=(eK c):=he 1 _ rfl;have h2_0:e.at 2=V.isl (f.map enc):=he 2 _ rfl;have hl_0:e.length=116:=hl;clear he hl;show W A b155 e ⟨[],0⟩ _;unfold F155 at hF;obtain⟨t,gt,hF⟩:=bS hF;have wt:ans A 172 [(eC x),(eK c),V.isl (f.map enc)]=some (V.tup [V.int .i64 t.a,(eC t.b),V.int .i64 t.c]):=s172 x c f gt;by_cases c3:t.c=0
 ·rw[if_pos c3]at hF
  obtain⟨d,gd,hF⟩:=bS hF;obtain⟨o,go,hF⟩:=bS hF;obtain⟨tp,gtp,hF⟩:=bS hF;obtain⟨m',gm,hF⟩:=bS hF;have hE:=wB hF; subst hE;have wtp:ans A 86 [(eC x)]=some (V.int .i64 tp):=s86 x gtp;simp only[simprocAttr, -Int.reduceNatCast',R0,b155,hl_0,h0_0,h1_0,h2_0,wt,eq_true c3];refine W.mono (Q:=fun x' e h=> x'= .normal∧e.length=116∧e.at 3=V.iptr [V.int .i64 x.Prime,V.isl (x.Dims.map enc),V.isl (x.Maps.map enc)]∧e.at 4=V.iptr [V.isl (c.Down.map enc),V.isl (c.Up.map enc),V.isl (c.Back.map enc)]∧e.at 6=V.ptr 2 2 0∧e.at 8=V.int .i64 t.a∧e.at 9=V.ptr 3 3 0∧e.at 12=V.int .i64 x.Prime∧h.ents[2]? =some (2,some [V.int .i64 0,V.nils,V.nils])∧h.ents[3]? =some (3,some [V.int .i64 t.b.Prime,V.isl (t.b.Dims.map enc),V.isl (t.b.Maps.map enc)])∧∃u,h.ents[4]? =some (u,some (d.map enc))∧e.at 11=V.sl 4 u 0 d.length 1) ?_ ?_
  ·show W A (.block 0 (.loop true b155_1)) _ _ _
   rw[ql];refine qq gd _ rfl (fun i s e h=> e.length=116∧e.at 3=V.iptr [V.int .i64 x.Prime,V.isl (x.Dims.map enc),V.isl (x.Maps.map enc)]∧e.at 4=V.iptr [V.isl (c.Down.map enc),V.isl (c.Up.map enc),V.isl (c.Back.map enc)]∧e.at 6=V.ptr 2 2 0∧e.at 8=V.int .i64 t.a∧e.at 9=V.ptr 3 3 0∧e.at 12=V.int .i64 x.Prime∧e.at 38=V.isl (c.Up.map enc)∧e.at 39=V.int .i64 (c.Up.length:Int)∧e.at 40=V.int .i64 i∧h.ents[2]? =some (2,some [V.int .i64 0,V.nils,V.nils])∧h.ents[3]? =some (3,some [V.int .i64 t.b.Prime,V.isl (t.b.Dims.map enc),V.isl (t.b.Maps.map enc)])∧∃u,h.ents[4]? =some (u,some (s.map enc))∧e.at 11=V.sl 4 u 0 s.length 1) ?_ ?_ ?_
   ·simp only[simprocAttr, -Int.reduceNatCast',R0,hl_0,h0_0,h1_0,h2_0]
    exact⟨4,rfl,rfl⟩
   ·clear hl_0 h0_0 h1_0 h2_0
    rintro i s e ⟨E,q⟩ ⟨hl_1,h3_1,h4_1,h6_1,h8_1,h9_1,h12_1,h38_1,h39_1,h40_1,g2,g3,u,g4,h11_1⟩ hlt hw s' ho;simp only at g2 g3 g4;unfold F155_1_B at ho;obtain⟨rows,g5,ho⟩:=bS ho;obtain⟨w5a,w5b⟩:=qm g5;obtain⟨l2,gl2,ho⟩:=bS ho;have ws:ans A 89 [V.isl (rows.map enc)]=some (V.int .i64 (rows.length:Int)):=s89 rows rfl;have hE:=wB ho; subst hE;have h4l:4 < E.length:=(List.getElem?_eq_some_iff.1 g4).1;have g4':(E++[(q,some [V.int .i64 (rows.length:Int)])])[4]? =some (u,some (s.map enc)):=(List.getElem?_append_left h4l).trans g4;have wap:=qE (α:=Int) (n:=s.length) (m:=1) (ds:=[V.int .i64 (rows.length:Int)]) gl2 rfl rfl rfl (E++[(q,some [V.int .i64 (rows.length:Int)])]) 4 u (q+1) g4';simp only[simprocAttr, -Int.reduceNatCast',R0,b155_1,hl_1,h3_1,h4_1,h6_1,h8_1,h9_1,h12_1,h38_1,h39_1,h40_1,h11_1,eq_true hlt,hw,w5a,w5b,ws,qy,wap];refine ai rfl ?_;simp only[simprocAttr, -Int.reduceNatCast',R0,hl_1,h3_1,h4_1,h6_1,h8_1,h9_1,h12_1,h38_1,h39_1,h40_1,h11_1,hw];exact⟨(qC (by decide)).trans ((List.getElem?_append_left (by omega)).trans g2),(qC (by decide)).trans ((List.getElem?_append_left (by omega)).trans g3),_,qt (by simp; omega),rfl⟩
   ·clear hl_0 h0_0 h1_0 h2_0
    rintro i s e ⟨E,q⟩ ⟨hl_1,h3_1,h4_1,h6_1,h8_1,h9_1,h12_1,h38_1,h39_1,h40_1,g2,g3,u,g4,h11_1⟩ hge t1 ho;unfold F155_1_D at ho;have hE:=wB ho; subst hE;simp only[simprocAttr, -Int.reduceNatCast',R0,b155_1,hl_1,h3_1,h4_1,h6_1,h8_1,h9_1,h12_1,h38_1,h39_1,h40_1,h11_1,eq_false hge];intro ht; subst ht;exact⟨g2,g3,u,g4,rfl⟩
  clear hl_0 h0_0 h1_0 h2_0;rintro _ e ⟨E0,c0⟩ ⟨rfl,hl_0,h3_0,h4_0,h6_0,h8_0,h9_0,h12_0,g2,g3,u,g4,h11_0⟩;simp only at g2 g3 g4;have h4l:4 < E0.length:=(List.getElem?_eq_some_iff.1 g4).1;obtain⟨_,⟨E1,c1⟩,w1,e1,e2,m,K,rfl,t1,t2,t3,t4⟩:=d74 x.Prime d go E0 c0 g4;simp only at t3 t4;have a2:=(t3 2 (by omega)).trans g2;have a3:=(t3 3 (by omega)).trans g3;have a4:=(t3 4 h4l).trans g4;have hKN:¬K E1.length:=fun q=> by have:=Deep.bd t1 q; simp at this
  have hK3:¬K 3:=fun q=> by have:=t2 _ q; omega
  have hR:∀E E',(fun E:List (Nat×Option (List V))=> E[2]? =some (2,some [V.int .i64 0,V.nils,V.nils])∧E[4]? =some (u,some (d.map enc))) E→(∀k,k < E.length→¬K k→E'[k]? =E[k]?)→(fun E:List (Nat×Option (List V))=> E[2]? =some (2,some [V.int .i64 0,V.nils,V.nils])∧E[4]? =some (u,some (d.map enc))) E':=fun E E' h hk=>
   ⟨(hk 2 (List.getElem?_eq_some_iff.1 h.1).1 (fun q=> by have:=t2 _ q; omega)).trans h.1,(hk 4 (List.getElem?_eq_some_iff.1 h.2).1 (fun q=> by have:=t2 _ q; omega)).trans h.2⟩
  have S0:S155 o.Prime (V.sl 4 u 0 d.length 1) m E1.length c1 K t.b (fun E:List (Nat×Option (List V))=> E[2]? =some (2,some [V.int .i64 0,V.nils,V.nils])∧E[4]? =some (u,some (d.map enc))) o.Maps (E1++[(c1,some [V.int .i64 o.Prime,V.sl 4 u 0 d.length 1,m])]):=
   ⟨Deep.frame t1 fun k q=> List.getElem?_append_left (Deep.bd t1 q),⟨(List.getElem?_append_left (by omega)).trans a2,(List.getElem?_append_left (by omega)).trans a4⟩,qy _ _,(List.getElem?_append_left (by omega)).trans a3⟩
  simp only[simprocAttr, -Int.reduceNatCast',R0,hl_0,h3_0,h4_0,h6_0,h8_0,h9_0,h12_0,h11_0,qn,w1,qy,jm];refine W.mono (l155_2 x c t.b hR hKN hK3 wtp gm (h:=⟨E1++[(c1,some [V.int .i64 o.Prime,V.sl 4 u 0 d.length 1,m])],c1+1⟩) S0 ?_ ?_ ?_ ?_ ?_ ?_ ?_ ?_ ?_) ?_
  rotate_right
  ·rintro _ e ⟨E4,c4⟩ ⟨rfl,⟨S3,⟨S6,S7⟩,S5,S8⟩,hl_2,h3_2,h4_2,h6_2,h8_2,h9_2,h12_2,h15_2⟩
   simp only at S5 S6 S7 S8;have hE0:2 < E4.length:=(List.getElem?_eq_some_iff.1 S6).1;simp only[simprocAttr, -Int.reduceNatCast',R0,hl_2,h3_2,h4_2,h6_2,h8_2,h9_2,h12_2,h15_2,S5,S6];have hq:(E4.set 2 (2,some [V.int .i64 o.Prime,V.sl 4 u 0 d.length 1,m]))[4]? =some (u,some (d.map enc)):=(qC (by decide)).trans S7;have r1:Deep.rep ⟨E4.set 2 (2,some [V.int .i64 o.Prime,V.sl 4 u 0 d.length 1,m]),c4⟩ (V.sl 4 u 0 d.length 1) o.Dims (fun k=> k=4):=by rw[e2]; exact zh hq fun k=> vU
   have r2:Deep.rep ⟨E4.set 2 (2,some [V.int .i64 o.Prime,V.sl 4 u 0 d.length 1,m]),c4⟩ m m' K:=Deep.frame S3 fun k q=> qC (by have:=t2 _ q; omega);have rr:Deep.rep ⟨E4.set 2 (2,some [V.int .i64 o.Prime,V.sl 4 u 0 d.length 1,m]),c4⟩ (V.agg [V.int .i64 o.Prime,V.sl 4 u 0 d.length 1,m]) (⟨o.Prime,o.Dims,m'⟩:qh) (fun k=> k=4∨K k):=⟨_,rfl,rec3 r1 r2 (fun k p q=> by have:=t2 _ q; omega)⟩;refine ai (fun _=> trivial) ⟨V.tup [V.agg [V.int .i64 o.Prime,V.sl 4 u 0 d.length 1,m],V.int .i64 0],by simp only[simprocAttr, -Int.reduceNatCast',R0,qd,p155,Rs.ev,hl_2,h3_2,h4_2,h6_2,h8_2,h9_2,h12_2,h15_2,qt hE0],_,_,rfl,pair_rep rr _⟩
  all_goals simp only[simprocAttr, -Int.reduceNatCast',R0,hl_0,h3_0,h4_0,h6_0,h8_0,h9_0,h12_0,h11_0]
 ·rw[if_neg c3]at hF
  have hE:=wB hF; subst hE;have zr:∀h,Deep.rep h (V.agg [V.int .i64 0,V.nils,V.nils]) (⟨0,[],[]⟩:qh) _:=fun h=>⟨_,rfl,rec3 (jn h) (jn h) fun _ x _=> x⟩;simp only[simprocAttr, -Int.reduceNatCast',R0,b155,hl_0,h0_0,h1_0,h2_0,wt,eq_false c3];refine ai (fun _=> trivial) ⟨V.tup [V.agg [V.int .i64 0,V.nils,V.nils],V.int .i64 t.c],?_,_,_,rfl,pair_rep (α:=qh) (zr _) _⟩;simp only[simprocAttr, -Int.reduceNatCast',R0,qd,p155,Rs.ev,hl_0]
theorem x155(x:qh)(c:qj)(f:List (List (List Int))){r:T2 qh Int}(hF:F155 x c f=some r):tans A 155 [1,1,1] [(eC x),(eK c),V.isl (f.map enc)]=some (V.tup [enc r.a,V.int .i64 r.b]):=by
 obtain⟨_,h',h1,vs,K,rfl,h2⟩:=d155 x c f hF;exact tans_tup (fits_pair rfl (by decide)) h1 h2
theorem s155(x:qh)(c:qj)(f:List (List (List Int))){r:T2 qh Int}(hF:F155 x c f=some r):ans A 155 [(eC x),(eK c),V.isl (f.map enc)]=some (EncR.enc r):=by
 obtain⟨_,h',h1,vs,K,rfl,h2⟩:=d155 x c f hF;exact ans_tup (ss:=[1,1,1]) (fits_pair rfl (by decide)) h1 h2
def F214_1_B(x9:T2 Int qP)(x13:T2 GDga Int)(x16:T2 GDga Int)(x23:T2 qg Int)(x25:T2 qg Int)(x31:T2 Int Int)(x35:T2 (List (List Int)) Int)(x37:T2 (List Int) Int)(v20_1:Int)(s:Unit):Option ((Unit)⊕((Unit)⊕Bool)):=
 (getI x35.a v20_1).bind fun x45=>
(F150 x45).bind fun x47=>
(getI x37.a v20_1).bind fun x49=>
if x47=x49 then
 some (.inl ())
else
 some (.inr (.inr false))
def F214_1_D(x9:T2 Int qP)(x13:T2 GDga Int)(x16:T2 GDga Int)(x23:T2 qg Int)(x25:T2 qg Int)(x31:T2 Int Int)(x35:T2 (List (List Int)) Int)(x37:T2 (List Int) Int)(v20_1:Int)(s:Unit):Option ((Unit)⊕Bool):=
 some (.inl ())
def F214_4_S(x9:T2 Int qP)(x13:T2 GDga Int)(x16:T2 GDga Int)(x23:T2 qg Int)(x25:T2 qg Int)(x31:T2 Int Int)(x37:T2 (List Int) Int)(v21_2:Int)(v22_3:Int)(v23_4:Int):Option ((Int)⊕((Unit)⊕Bool)):=
 if v23_4≤5 then
 (F151 x23.a v21_2 v22_3 v23_4).bind fun x63=>
 (chk (v21_2+1)).bind fun x65=>
 (F151 x23.a x65 v22_3 v23_4).bind fun x66=>
 (F152 x23.a v21_2 v22_3 v23_4).bind fun x68=>
 if x63.b=0 then
  if x66.b=0 then
   if x68.b=0 then
    (chk (v22_3+1)).bind fun x73=>
    if x73 < (x23.a.Levels.length:Int)then
     (chk (v23_4+v21_2)).bind fun x75=>
     if x75≤5 then
      (F152 x23.a v21_2 x73 x75).bind fun x77=>
      if x77.b=0 then
       (chk (x63.a - x68.a)).bind fun x80=>
       (chk (x80 - x77.a)).bind fun x81=>
       if x66.a=x81 then
        (chk (v23_4+1)).bind fun x83=>
        some (.inl x83)
       else
        some (.inr (.inr false))
      else
       some (.inr (.inr false))
     else
      (chk (x63.a - x68.a)).bind fun x84=>
      (chk (x84 - 0)).bind fun x85=>
      if x66.a=x85 then
       (chk (v23_4+1)).bind fun x87=>
       some (.inl x87)
      else
       some (.inr (.inr false))
    else
     (chk (x63.a - x68.a)).bind fun x88=>
     (chk (x88 - 0)).bind fun x89=>
     if x66.a=x89 then
      (chk (v23_4+1)).bind fun x91=>
      some (.inl x91)
     else
      some (.inr (.inr false))
   else
    some (.inr (.inr false))
  else
   some (.inr (.inr false))
 else
  some (.inr (.inr false))
else
 some (.inr (.inl ()))
def F214_3_B(x9:T2 Int qP)(x13:T2 GDga Int)(x16:T2 GDga Int)(x23:T2 qg Int)(x25:T2 qg Int)(x31:T2 Int Int)(x37:T2 (List Int) Int)(v21_2:Int)(v22_3:Int)(s:Unit):Option ((Unit)⊕((Unit)⊕Bool)):=
 (jW (F214_4_S x9 x13 x16 x23 x25 x31 x37 v21_2 v22_3) 1000 0).bind fun t92=> match t92 with
 | .inl _=>
  some (.inl ())
 | .inr r93=> some (.inr (.inr r93))
def F214_3_D(x9:T2 Int qP)(x13:T2 GDga Int)(x16:T2 GDga Int)(x23:T2 qg Int)(x25:T2 qg Int)(x31:T2 Int Int)(x37:T2 (List Int) Int)(v21_2:Int)(v22_3:Int)(s:Unit):Option ((Unit)⊕Bool):=
 some (.inl ())
def F214_2_B(x9:T2 Int qP)(x13:T2 GDga Int)(x16:T2 GDga Int)(x23:T2 qg Int)(x25:T2 qg Int)(x31:T2 Int Int)(x37:T2 (List Int) Int)(v21_2:Int)(s:Unit):Option ((Unit)⊕((Unit)⊕Bool)):=
 (forR 0 (x23.a.Levels.length:Int) (F214_3_B x9 x13 x16 x23 x25 x31 x37 v21_2) (F214_3_D x9 x13 x16 x23 x25 x31 x37 v21_2) ()).bind fun t94=> match t94 with
 | .inl _=>
  some (.inl ())
 | .inr r95=> some (.inr (.inr r95))
def F214_2_D(x9:T2 Int qP)(x13:T2 GDga Int)(x16:T2 GDga Int)(x23:T2 qg Int)(x25:T2 qg Int)(x31:T2 Int Int)(x37:T2 (List Int) Int)(v21_2:Int)(s:Unit):Option ((Unit)⊕Bool):=
 some (.inl ())
def F214(a0:List U8):Option Bool:=
 (F140 a0).bind fun x1=>
 if x1=true then
  some true
 else
  (F141 a0 9901).bind fun x3=>
  (F142 x3 3).bind fun x5=>
  (getI [2,3,5] x5.a).bind fun x7=>
  (F142 x5.b 4).bind fun x9=>
  (getI ([⟨[99,105,114,99,108,101]⟩,⟨[116,111,114,117,115]⟩,⟨[100,105,115,99]⟩,⟨[112,111,105,110,116]⟩]:List Str) x9.a).bind fun x11=>
  (F34 ⟨x11.val⟩ x7).bind fun x13=>
  (F143 ⟨x11.val⟩ x7).bind fun x16=>
  if x13.b=x16.b then
   (qZ x13.a x16.a).bind fun x20=>
   if x20=true then
    if x13.b=0 then
     (F144 x13.a).bind fun x23=>
     (F145 x13.a).bind fun x25=>
     if x23.b=x25.b then
      (F146 x23.a x25.a).bind fun x28=>
      if x28=true then
       if x23.b=0 then
        (F147 x23.a).bind fun x31=>
        if x31.b=0 then
         if 6 < x31.a then
          some false
         else
          (F148 x23.a x31.a).bind fun x35=>
          (F149 x23.a.Complex).bind fun x37=>
          if x35.b=0 then
           if x37.b=0 then
            if(x35.a.length:Int)=(x37.a.length:Int)then
             (forR 0 (x35.a.length:Int) (F214_1_B x9 x13 x16 x23 x25 x31 x35 x37) (F214_1_D x9 x13 x16 x23 x25 x31 x35 x37) ()).bind fun t52=> match t52 with
              | .inl _=>
               (forR 0 x31.a (F214_2_B x9 x13 x16 x23 x25 x31 x37) (F214_2_D x9 x13 x16 x23 x25 x31 x37) ()).bind fun t96=> match t96 with
                | .inl _=>
                 (F153 x23.a.Complex).bind fun x97=>
                 (F154 x23.a.Complex).bind fun x99=>
                 (F155 x23.a.Complex x99.a x97.a).bind fun x101=>
                 if x97.b=0 then
                  if x99.b=0 then
                   if x101.b=0 then
                    (F156 x101.a.Dims x37.a).bind fun x106=>
                    some x106
                   else
                    some false
                  else
                   some false
                 else
                  some false
                | .inr r108=> some r108
              | .inr r109=> some r109
            else
             some false
           else
            some false
          else
           some false
        else
         some false
       else
        some false
      else
       some false
     else
      some false
    else
     some false
   else
    some false
  else
   some false
def I214_1(x9:T2 Int qP)(x13:T2 GDga Int)(x16:T2 GDga Int)(x23:T2 qg Int)(x25:T2 qg Int)(x31:T2 Int Int)(x35:T2 (List (List Int)) Int)(x37:T2 (List Int) Int)(v20_1:Int)(s:Unit)(e:Env)(h:Heap):Prop:=
 ∃k43:Nat,h=⟨[(0,some [V.isl (x9.b.b.map enc),V.int .i64 x9.b.i,V.int .u64 x9.b.h]),(1,some [V.int .i64 2,V.int .i64 3,V.int .i64 5]),(2,some [V.str [99,105,114,99,108,101],V.str [116,111,114,117,115],V.str [100,105,115,99],V.str [112,111,105,110,116]]),(3,some (qb x13.a)),(4,some (qb x16.a)),(5,some [V.int .i64 x23.a.Complex.Prime,V.isl (x23.a.Complex.Dims.map enc),V.isl (x23.a.Complex.Maps.map enc),V.isl (x23.a.Levels.map enc)]),(6,some [V.int .i64 x25.a.Complex.Prime,V.isl (x25.a.Complex.Dims.map enc),V.isl (x25.a.Complex.Maps.map enc),V.isl (x25.a.Levels.map enc)])],k43⟩∧e.length=272∧e.at 10=V.ptr 5 5 0∧e.at 14=V.int .i64 x31.a∧e.at 16=V.isl (x35.a.map enc)∧e.at 18=V.isl (x37.a.map enc)∧e.at 20=V.int .i64 v20_1
def P214_1(x9:T2 Int qP)(x13:T2 GDga Int)(x16:T2 GDga Int)(x23:T2 qg Int)(x25:T2 qg Int)(x31:T2 Int Int)(x35:T2 (List (List Int)) Int)(x37:T2 (List Int) Int)(t:(Unit)⊕Bool)(x:Ex)(e:Env)(h:Heap):Prop:=
 match t with
 | .inl _=> x= .normal∧∃k43:Nat,h=⟨[(0,some [V.isl (x9.b.b.map enc),V.int .i64 x9.b.i,V.int .u64 x9.b.h]),(1,some [V.int .i64 2,V.int .i64 3,V.int .i64 5]),(2,some [V.str [99,105,114,99,108,101],V.str [116,111,114,117,115],V.str [100,105,115,99],V.str [112,111,105,110,116]]),(3,some (qb x13.a)),(4,some (qb x16.a)),(5,some [V.int .i64 x23.a.Complex.Prime,V.isl (x23.a.Complex.Dims.map enc),V.isl (x23.a.Complex.Maps.map enc),V.isl (x23.a.Levels.map enc)]),(6,some [V.int .i64 x25.a.Complex.Prime,V.isl (x25.a.Complex.Dims.map enc),V.isl (x25.a.Complex.Maps.map enc),V.isl (x25.a.Levels.map enc)])],k43⟩∧e.length=272∧e.at 10=V.ptr 5 5 0∧e.at 14=V.int .i64 x31.a∧e.at 18=V.isl (x37.a.map enc)
 | .inr r=> x= .ret∧Fin p214 (enc r) .ret e h
theorem l214_1(x9:T2 Int qP)(x13:T2 GDga Int)(x16:T2 GDga Int)(x23:T2 qg Int)(x25:T2 qg Int)(x31:T2 Int Int)(x35:T2 (List (List Int)) Int)(x37:T2 (List Int) Int){lo:Int}{s:Unit}{t:(Unit)⊕Bool}(hF:forR lo (x35.a.length:Int) (F214_1_B x9 x13 x16 x23 x25 x31 x35 x37) (F214_1_D x9 x13 x16 x23 x25 x31 x35 x37) s=some t){e:Env}{h:Heap}(hI:I214_1 x9 x13 x16 x23 x25 x31 x35 x37 lo s e h):W A c214_1 e h (P214_1 x9 x13 x16 x23 x25 x31 x35 x37 t):=by
 show W A (.block 0 (.loop false b214_1)) e h _;rw[ql];refine qq hF 7 (by obtain⟨_,rfl,_⟩:=hI; rfl) (I214_1 x9 x13 x16 x23 x25 x31 x35 x37) hI ?_ ?_
 ·rintro v20_1 _ e h ⟨k43,rfl,h_42⟩ hlt hw o ho
  unfold F214_1_B at ho;obtain⟨x45,gx45,ho⟩:=bS ho;obtain⟨w46a,w46b⟩:=qm gx45;obtain⟨x47,gx47,ho⟩:=bS ho;have w48:=s150 x45 gx47;obtain⟨x49,gx49,ho⟩:=bS ho;obtain⟨w50a,w50b⟩:=qm gx49;by_cases c51:x47=x49
  ·rw[if_pos c51]at ho
   cases ho;simp only[simprocAttr,R0,b214_1, *];refine ai rfl (ei _ (ai rfl ?_));simp only[simprocAttr,R0, *]
  ·rw[if_neg c51]at ho
   cases ho;simp only[simprocAttr,R0,b214_1, *];intro ht; subst ht;simp only[simprocAttr,RR,RB];exact ai rfl (qc (by simp only[simprocAttr,R0,qd,p214,Rs.ev,qa, *]))
 ·rintro v20_1 _ e h ⟨k43,rfl,h_42⟩ hge t1 ho
  unfold F214_1_D at ho;cases ho;simp only[simprocAttr,R0,b214_1, *];intro ht; subst ht;refine ai rfl (ei _ (ai rfl ?_));simp only[simprocAttr,R0, *]
def I214_4(x9:T2 Int qP)(x13:T2 GDga Int)(x16:T2 GDga Int)(x23:T2 qg Int)(x25:T2 qg Int)(x31:T2 Int Int)(x37:T2 (List Int) Int)(v21_2:Int)(v22_3:Int)(v23_4:Int)(e:Env)(h:Heap):Prop:=
 ∃k60:Nat,h=⟨[(0,some [V.isl (x9.b.b.map enc),V.int .i64 x9.b.i,V.int .u64 x9.b.h]),(1,some [V.int .i64 2,V.int .i64 3,V.int .i64 5]),(2,some [V.str [99,105,114,99,108,101],V.str [116,111,114,117,115],V.str [100,105,115,99],V.str [112,111,105,110,116]]),(3,some (qb x13.a)),(4,some (qb x16.a)),(5,some [V.int .i64 x23.a.Complex.Prime,V.isl (x23.a.Complex.Dims.map enc),V.isl (x23.a.Complex.Maps.map enc),V.isl (x23.a.Levels.map enc)]),(6,some [V.int .i64 x25.a.Complex.Prime,V.isl (x25.a.Complex.Dims.map enc),V.isl (x25.a.Complex.Maps.map enc),V.isl (x25.a.Levels.map enc)])],k60⟩∧e.length=272∧e.at 10=V.ptr 5 5 0∧e.at 14=V.int .i64 x31.a∧e.at 18=V.isl (x37.a.map enc)∧e.at 21=V.int .i64 v21_2∧e.at 22=V.int .i64 v22_3∧e.at 23=V.int .i64 v23_4
def P214_4(x9:T2 Int qP)(x13:T2 GDga Int)(x16:T2 GDga Int)(x23:T2 qg Int)(x25:T2 qg Int)(x31:T2 Int Int)(x37:T2 (List Int) Int)(v21_2:Int)(v22_3:Int)(t:(Unit)⊕Bool)(x:Ex)(e:Env)(h:Heap):Prop:=
 match t with
 | .inl _=> x= .normal∧∃k60:Nat,h=⟨[(0,some [V.isl (x9.b.b.map enc),V.int .i64 x9.b.i,V.int .u64 x9.b.h]),(1,some [V.int .i64 2,V.int .i64 3,V.int .i64 5]),(2,some [V.str [99,105,114,99,108,101],V.str [116,111,114,117,115],V.str [100,105,115,99],V.str [112,111,105,110,116]]),(3,some (qb x13.a)),(4,some (qb x16.a)),(5,some [V.int .i64 x23.a.Complex.Prime,V.isl (x23.a.Complex.Dims.map enc),V.isl (x23.a.Complex.Maps.map enc),V.isl (x23.a.Levels.map enc)]),(6,some [V.int .i64 x25.a.Complex.Prime,V.isl (x25.a.Complex.Dims.map enc),V.isl (x25.a.Complex.Maps.map enc),V.isl (x25.a.Levels.map enc)])],k60⟩∧e.length=272∧e.at 10=V.ptr 5 5 0∧e.at 14=V.int .i64 x31.a∧e.at 18=V.isl (x37.a.map enc)∧e.at 21=V.int .i64 v21_2∧e.at 22=V.int .i64 v22_3
 | .inr r=> x= .ret∧Fin p214 (enc r) .ret e h
theorem l214_4(x9:T2 Int qP)(x13:T2 GDga Int)(x16:T2 GDga Int)(x23:T2 qg Int)(x25:T2 qg Int)(x31:T2 Int Int)(x37:T2 (List Int) Int)(v21_2:Int)(v22_3:Int){s:Int}{t:(Unit)⊕Bool}(hF:loopW (F214_4_S x9 x13 x16 x23 x25 x31 x37 v21_2 v22_3) s=some t){e:Env}{h:Heap}(hI:I214_4 x9 x13 x16 x23 x25 x31 x37 v21_2 v22_3 s e h):W A c214_4 e h (P214_4 x9 x13 x16 x23 x25 x31 x37 v21_2 v22_3 t):=by
 show W A (.block 6 (.loop false jU)) e h _;rw[ql];refine W_loop hF 7 (by obtain⟨_,rfl,_⟩:=hI; rfl) (I214_4 x9 x13 x16 x23 x25 x31 x37 v21_2 v22_3) hI ?_
 ·rintro v23_4 e h ⟨k60,rfl,h_59⟩ o ho
  unfold F214_4_S at ho;by_cases c62:v23_4≤5
  ·rw[if_pos c62]at ho
   obtain⟨x63,gx63,ho⟩:=bS ho;have w64:ans A 151 [V.agg [V.int .i64 x23.a.Complex.Prime,V.isl (x23.a.Complex.Dims.map enc),V.isl (x23.a.Complex.Maps.map enc),V.isl (x23.a.Levels.map enc)],V.int .i64 v21_2,V.int .i64 v22_3,V.int .i64 v23_4]=some (V.tup [V.int .i64 x63.a,V.int .i64 x63.b]):=s151 x23.a v21_2 v22_3 v23_4 gx63;obtain⟨x65,gx65,ho⟩:=bS ho;have wx65:=qx gx65;obtain⟨x66,gx66,ho⟩:=bS ho;have w67:ans A 151 [V.agg [V.int .i64 x23.a.Complex.Prime,V.isl (x23.a.Complex.Dims.map enc),V.isl (x23.a.Complex.Maps.map enc),V.isl (x23.a.Levels.map enc)],V.int .i64 x65,V.int .i64 v22_3,V.int .i64 v23_4]=some (V.tup [V.int .i64 x66.a,V.int .i64 x66.b]):=s151 x23.a x65 v22_3 v23_4 gx66;obtain⟨x68,gx68,ho⟩:=bS ho;have w69:ans A 152 [V.agg [V.int .i64 x23.a.Complex.Prime,V.isl (x23.a.Complex.Dims.map enc),V.isl (x23.a.Complex.Maps.map enc),V.isl (x23.a.Levels.map enc)],V.int .i64 v21_2,V.int .i64 v22_3,V.int .i64 v23_4]=some (V.tup [V.int .i64 x68.a,V.int .i64 x68.b]):=s152 x23.a v21_2 v22_3 v23_4 gx68;by_cases c70:x63.b=0
   ·rw[if_pos c70]at ho
    by_cases c71:x66.b=0
    ·rw[if_pos c71]at ho
     by_cases c72:x68.b=0
     ·rw[if_pos c72]at ho
      obtain⟨x73,gx73,ho⟩:=bS ho;have wx73:=qx gx73;by_cases c74:x73 < (x23.a.Levels.length:Int)
      ·rw[if_pos c74]at ho
       obtain⟨x75,gx75,ho⟩:=bS ho;have wx75:=qx gx75;by_cases c76:x75≤5
       ·rw[if_pos c76]at ho
        obtain⟨x77,gx77,ho⟩:=bS ho;have w78:ans A 152 [V.agg [V.int .i64 x23.a.Complex.Prime,V.isl (x23.a.Complex.Dims.map enc),V.isl (x23.a.Complex.Maps.map enc),V.isl (x23.a.Levels.map enc)],V.int .i64 v21_2,V.int .i64 x73,V.int .i64 x75]=some (V.tup [V.int .i64 x77.a,V.int .i64 x77.b]):=s152 x23.a v21_2 x73 x75 gx77;by_cases c79:x77.b=0
        ·rw[if_pos c79]at ho
         obtain⟨x80,gx80,ho⟩:=bS ho;have wx80:=qx gx80;obtain⟨x81,gx81,ho⟩:=bS ho;have wx81:=qx gx81;by_cases c82:x66.a=x81
         ·rw[if_pos c82]at ho
          obtain⟨x83,gx83,ho⟩:=bS ho;have wx83:=qx gx83;cases ho;simp only[simprocAttr,R0,jU, *];refine ai rfl (ei _ (ai rfl ?_));simp only[simprocAttr,R0, *]
         ·rw[if_neg c82]at ho
          cases ho;simp only[simprocAttr,R0,jU, *];intro ht; subst ht;simp only[simprocAttr,RR,RB];exact ai rfl (qc (by simp only[simprocAttr,R0,qd,p214,Rs.ev,qa, *]))
        ·rw[if_neg c79]at ho
         cases ho;simp only[simprocAttr,R0,jU, *];intro ht; subst ht;simp only[simprocAttr,RR,RB];exact ai rfl (qc (by simp only[simprocAttr,R0,qd,p214,Rs.ev,qa, *]))
       ·rw[if_neg c76]at ho
        obtain⟨x84,gx84,ho⟩:=bS ho;have wx84:=qx gx84;obtain⟨x85,gx85,ho⟩:=bS ho;have wx85:=qx gx85;by_cases c86:x66.a=x85
        ·rw[if_pos c86]at ho
         obtain⟨x87,gx87,ho⟩:=bS ho;have wx87:=qx gx87;cases ho;simp only[simprocAttr,R0,jU, *];refine ai rfl (ei _ (ai rfl ?_));simp only[simprocAttr,R0, *]
        ·rw[if_neg c86]at ho
         cases ho;simp only[simprocAttr,R0,jU, *];intro ht; subst ht;simp only[simprocAttr,RR,RB];exact ai rfl (qc (by simp only[simprocAttr,R0,qd,p214,Rs.ev,qa, *]))
      ·rw[if_neg c74]at ho
       obtain⟨x88,gx88,ho⟩:=bS ho;have wx88:=qx gx88;obtain⟨x89,gx89,ho⟩:=bS ho;have wx89:=qx gx89;by_cases c90:x66.a=x89
       ·rw[if_pos c90]at ho
        obtain⟨x91,gx91,ho⟩:=bS ho;have wx91:=qx gx91;cases ho;simp only[simprocAttr,R0,jU, *];refine ai rfl (ei _ (ai rfl ?_));simp only[simprocAttr,R0, *]
       ·rw[if_neg c90]at ho
        cases ho;simp only[simprocAttr,R0,jU, *];intro ht; subst ht;simp only[simprocAttr,RR,RB];exact ai rfl (qc (by simp only[simprocAttr,R0,qd,p214,Rs.ev,qa, *]))
     ·rw[if_neg c72]at ho
      cases ho;simp only[simprocAttr,R0,jU, *];intro ht; subst ht;simp only[simprocAttr,RR,RB];exact ai rfl (qc (by simp only[simprocAttr,R0,qd,p214,Rs.ev,qa, *]))
    ·rw[if_neg c71]at ho
     cases ho;simp only[simprocAttr,R0,jU, *];intro ht; subst ht;simp only[simprocAttr,RR,RB];exact ai rfl (qc (by simp only[simprocAttr,R0,qd,p214,Rs.ev,qa, *]))
   ·rw[if_neg c70]at ho
    cases ho;simp only[simprocAttr,R0,jU, *];intro ht; subst ht;simp only[simprocAttr,RR,RB];exact ai rfl (qc (by simp only[simprocAttr,R0,qd,p214,Rs.ev,qa, *]))
  ·rw[if_neg c62]at ho
   cases ho;simp only[simprocAttr,R0,jU, *];intro ht; subst ht;simp only[simprocAttr,RR,RB];refine ai rfl (ei _ (ai rfl ?_));simp only[simprocAttr,R0, *]
def I214_3(x9:T2 Int qP)(x13:T2 GDga Int)(x16:T2 GDga Int)(x23:T2 qg Int)(x25:T2 qg Int)(x31:T2 Int Int)(x37:T2 (List Int) Int)(v21_2:Int)(v22_3:Int)(s:Unit)(e:Env)(h:Heap):Prop:=
 ∃k57:Nat,h=⟨[(0,some [V.isl (x9.b.b.map enc),V.int .i64 x9.b.i,V.int .u64 x9.b.h]),(1,some [V.int .i64 2,V.int .i64 3,V.int .i64 5]),(2,some [V.str [99,105,114,99,108,101],V.str [116,111,114,117,115],V.str [100,105,115,99],V.str [112,111,105,110,116]]),(3,some (qb x13.a)),(4,some (qb x16.a)),(5,some [V.int .i64 x23.a.Complex.Prime,V.isl (x23.a.Complex.Dims.map enc),V.isl (x23.a.Complex.Maps.map enc),V.isl (x23.a.Levels.map enc)]),(6,some [V.int .i64 x25.a.Complex.Prime,V.isl (x25.a.Complex.Dims.map enc),V.isl (x25.a.Complex.Maps.map enc),V.isl (x25.a.Levels.map enc)])],k57⟩∧e.length=272∧e.at 10=V.ptr 5 5 0∧e.at 14=V.int .i64 x31.a∧e.at 18=V.isl (x37.a.map enc)∧e.at 21=V.int .i64 v21_2∧e.at 22=V.int .i64 v22_3
def P214_3(x9:T2 Int qP)(x13:T2 GDga Int)(x16:T2 GDga Int)(x23:T2 qg Int)(x25:T2 qg Int)(x31:T2 Int Int)(x37:T2 (List Int) Int)(v21_2:Int)(t:(Unit)⊕Bool)(x:Ex)(e:Env)(h:Heap):Prop:=
 match t with
 | .inl _=> x= .normal∧∃k57:Nat,h=⟨[(0,some [V.isl (x9.b.b.map enc),V.int .i64 x9.b.i,V.int .u64 x9.b.h]),(1,some [V.int .i64 2,V.int .i64 3,V.int .i64 5]),(2,some [V.str [99,105,114,99,108,101],V.str [116,111,114,117,115],V.str [100,105,115,99],V.str [112,111,105,110,116]]),(3,some (qb x13.a)),(4,some (qb x16.a)),(5,some [V.int .i64 x23.a.Complex.Prime,V.isl (x23.a.Complex.Dims.map enc),V.isl (x23.a.Complex.Maps.map enc),V.isl (x23.a.Levels.map enc)]),(6,some [V.int .i64 x25.a.Complex.Prime,V.isl (x25.a.Complex.Dims.map enc),V.isl (x25.a.Complex.Maps.map enc),V.isl (x25.a.Levels.map enc)])],k57⟩∧e.length=272∧e.at 10=V.ptr 5 5 0∧e.at 14=V.int .i64 x31.a∧e.at 18=V.isl (x37.a.map enc)∧e.at 21=V.int .i64 v21_2
 | .inr r=> x= .ret∧Fin p214 (enc r) .ret e h
theorem l214_3(x9:T2 Int qP)(x13:T2 GDga Int)(x16:T2 GDga Int)(x23:T2 qg Int)(x25:T2 qg Int)(x31:T2 Int Int)(x37:T2 (List Int) Int)(v21_2:Int){lo:Int}{s:Unit}{t:(Unit)⊕Bool}(hF:forR lo (x23.a.Levels.length:Int) (F214_3_B x9 x13 x16 x23 x25 x31 x37 v21_2) (F214_3_D x9 x13 x16 x23 x25 x31 x37 v21_2) s=some t){e:Env}{h:Heap}(hI:I214_3 x9 x13 x16 x23 x25 x31 x37 v21_2 lo s e h):W A c214_3 e h (P214_3 x9 x13 x16 x23 x25 x31 x37 v21_2 t):=by
 show W A (.block 4 (.loop false b214_3)) e h _;rw[ql];refine qq hF 7 (by obtain⟨_,rfl,_⟩:=hI; rfl) (I214_3 x9 x13 x16 x23 x25 x31 x37 v21_2) hI ?_ ?_
 ·rintro v22_3 _ e h ⟨k57,rfl,h_56⟩ hlt hw o ho
  unfold F214_3_B at ho;obtain⟨t92,gt92,ho⟩:=bS ho;rcases t92 with _|r93
  ·dsimp only at ho
   simp only[simprocAttr,R0,b214_3, *];refine W.mono (l214_4 x9 x13 x16 x23 x25 x31 x37 v21_2 v22_3 (zQ gt92) (ei _ (ai rfl ?_))) ?_
   ·simp only[simprocAttr,R0, *]
   rintro _ e _ ⟨rfl,k60,rfl,h_61⟩;cases ho;simp only[simprocAttr,R0, *];refine ai rfl (ei _ (ai rfl ?_));simp only[simprocAttr,R0, *]
  ·dsimp only at ho
   cases ho;simp only[simprocAttr,R0,b214_3, *];refine W.mono (l214_4 x9 x13 x16 x23 x25 x31 x37 v21_2 v22_3 (zQ gt92) (ei _ (ai rfl ?_))) ?_
   ·simp only[simprocAttr,R0, *]
   rintro _ e h ⟨rfl,hq⟩;simp only[simprocAttr,RR,RB];intro ht; subst ht;simp only[simprocAttr,RR,RB];exact ai rfl hq
 ·rintro v22_3 _ e h ⟨k57,rfl,h_56⟩ hge t1 ho
  unfold F214_3_D at ho;cases ho;simp only[simprocAttr,R0,b214_3, *];intro ht; subst ht;refine ai rfl (ei _ (ai rfl ?_));simp only[simprocAttr,R0, *]
def I214_2(x9:T2 Int qP)(x13:T2 GDga Int)(x16:T2 GDga Int)(x23:T2 qg Int)(x25:T2 qg Int)(x31:T2 Int Int)(x37:T2 (List Int) Int)(v21_2:Int)(s:Unit)(e:Env)(h:Heap):Prop:=
 ∃k54:Nat,h=⟨[(0,some [V.isl (x9.b.b.map enc),V.int .i64 x9.b.i,V.int .u64 x9.b.h]),(1,some [V.int .i64 2,V.int .i64 3,V.int .i64 5]),(2,some [V.str [99,105,114,99,108,101],V.str [116,111,114,117,115],V.str [100,105,115,99],V.str [112,111,105,110,116]]),(3,some (qb x13.a)),(4,some (qb x16.a)),(5,some [V.int .i64 x23.a.Complex.Prime,V.isl (x23.a.Complex.Dims.map enc),V.isl (x23.a.Complex.Maps.map enc),V.isl (x23.a.Levels.map enc)]),(6,some [V.int .i64 x25.a.Complex.Prime,V.isl (x25.a.Complex.Dims.map enc),V.isl (x25.a.Complex.Maps.map enc),V.isl (x25.a.Levels.map enc)])],k54⟩∧e.length=272∧e.at 10=V.ptr 5 5 0∧e.at 14=V.int .i64 x31.a∧e.at 18=V.isl (x37.a.map enc)∧e.at 21=V.int .i64 v21_2
def P214_2(x9:T2 Int qP)(x13:T2 GDga Int)(x16:T2 GDga Int)(x23:T2 qg Int)(x25:T2 qg Int)(x31:T2 Int Int)(x37:T2 (List Int) Int)(t:(Unit)⊕Bool)(x:Ex)(e:Env)(h:Heap):Prop:=
 match t with
 | .inl _=> x= .normal∧∃k54:Nat,h=⟨[(0,some [V.isl (x9.b.b.map enc),V.int .i64 x9.b.i,V.int .u64 x9.b.h]),(1,some [V.int .i64 2,V.int .i64 3,V.int .i64 5]),(2,some [V.str [99,105,114,99,108,101],V.str [116,111,114,117,115],V.str [100,105,115,99],V.str [112,111,105,110,116]]),(3,some (qb x13.a)),(4,some (qb x16.a)),(5,some [V.int .i64 x23.a.Complex.Prime,V.isl (x23.a.Complex.Dims.map enc),V.isl (x23.a.Complex.Maps.map enc),V.isl (x23.a.Levels.map enc)]),(6,some [V.int .i64 x25.a.Complex.Prime,V.isl (x25.a.Complex.Dims.map enc),V.isl (x25.a.Complex.Maps.map enc),V.isl (x25.a.Levels.map enc)])],k54⟩∧e.length=272∧e.at 10=V.ptr 5 5 0∧e.at 18=V.isl (x37.a.map enc)
 | .inr r=> x= .ret∧Fin p214 (enc r) .ret e h
theorem l214_2(x9:T2 Int qP)(x13:T2 GDga Int)(x16:T2 GDga Int)(x23:T2 qg Int)(x25:T2 qg Int)(x31:T2 Int Int)(x37:T2 (List Int) Int){lo:Int}{s:Unit}{t:(Unit)⊕Bool}(hF:forR lo x31.a (F214_2_B x9 x13 x16 x23 x25 x31 x37) (F214_2_D x9 x13 x16 x23 x25 x31 x37) s=some t){e:Env}{h:Heap}(hI:I214_2 x9 x13 x16 x23 x25 x31 x37 lo s e h):W A c214_2 e h (P214_2 x9 x13 x16 x23 x25 x31 x37 t):=by
 show W A (.block 2 (.loop false b214_2)) e h _;rw[ql];refine qq hF 7 (by obtain⟨_,rfl,_⟩:=hI; rfl) (I214_2 x9 x13 x16 x23 x25 x31 x37) hI ?_ ?_
 ·rintro v21_2 _ e h ⟨k54,rfl,h_53⟩ hlt hw o ho
  unfold F214_2_B at ho;obtain⟨t94,gt94,ho⟩:=bS ho;rcases t94 with _|r95
  ·dsimp only at ho
   simp only[simprocAttr,R0,b214_2, *];refine W.mono (l214_3 x9 x13 x16 x23 x25 x31 x37 v21_2 gt94 (ei _ (ai rfl ?_))) ?_
   ·simp only[simprocAttr,R0, *]
   rintro _ e _ ⟨rfl,k57,rfl,h_58⟩;cases ho;simp only[simprocAttr,R0, *];refine ai rfl (ei _ (ai rfl ?_));simp only[simprocAttr,R0, *]
  ·dsimp only at ho
   cases ho;simp only[simprocAttr,R0,b214_2, *];refine W.mono (l214_3 x9 x13 x16 x23 x25 x31 x37 v21_2 gt94 (ei _ (ai rfl ?_))) ?_
   ·simp only[simprocAttr,R0, *]
   rintro _ e h ⟨rfl,hq⟩;simp only[simprocAttr,RR,RB];intro ht; subst ht;simp only[simprocAttr,RR,RB];exact ai rfl hq
 ·rintro v21_2 _ e h ⟨k54,rfl,h_53⟩ hge t1 ho
  unfold F214_2_D at ho;cases ho;simp only[simprocAttr,R0,b214_2, *];intro ht; subst ht;refine ai rfl (ei _ (ai rfl ?_));simp only[simprocAttr,R0, *]
theorem s214(a0:List U8){r:Bool}(hF:F214 a0=some r):ans A 214 [V.isl (a0.map enc)]=some (enc r):=by
 refine qp (f:=p214) rfl rfl rfl fun e hl he=>?_;have h0_0:e.at 0=V.isl (a0.map enc):=he 0 _ rfl;have hl_0:e.length=272:=hl;clear he hl;have h_0:=ai hl_0 h0_0;show W A b214 e ⟨[],0⟩ _;unfold F214 at hF;obtain⟨x1,gx1,hF⟩:=bS hF;have w2:ans A 140 [V.isl (a0.map enc)]=some (V.bool x1):=s140 a0 gx1;cases x1 with
 |true=>
  rw[if_pos rfl]at hF;cases hF;simp only[simprocAttr, -Int.reduceNatCast',R0,b214,h_0,w2];exact qc (by simp only[simprocAttr, -Int.reduceNatCast',R0,qd,p214,Rs.ev,qa,h_0,w2])
 |false=>
  rw[if_neg wE]at hF;obtain⟨x3,gx3,hF⟩:=bS hF;have w4:res A 141 [V.isl (a0.map enc),V.int .u64 9901] ⟨[],0⟩=some (V.ptr 0 0 0,⟨[(0,some [V.isl (x3.b.map enc),V.int .i64 x3.i,V.int .u64 x3.h])],1⟩):=by
   obtain⟨_,w,rfl⟩:=d141 a0 9901 gx3 [] 0;exact w
  obtain⟨x5,gx5,hF⟩:=bS hF;have w6:xans A 142 [V.isl (x3.b.map enc),V.int .i64 x3.i,V.int .u64 x3.h] [V.int .i64 3]=some (V.int .i64 x5.a,[V.isl (x5.b.b.map enc),V.int .i64 x5.b.i,V.int .u64 x5.b.h]):=s142 x3 3 gx5;obtain⟨x7,gx7,hF⟩:=bS hF;obtain⟨w8a,w8b⟩:=qm gx7;have w8c:=qM gx7;replace w8c:x5.a < ((3:Nat):Int):=by first|exact w8c|(simp only[wJ]at w8c ⊢; exact w8c)
  have w8d:List.drop (Int.toNat x5.a) [V.int .i64 2,V.int .i64 3,V.int .i64 5]=(V.int .i64 x7)::List.drop ((Int.toNat x5.a)+1) [V.int .i64 2,V.int .i64 3,V.int .i64 5]:=jp w8b;obtain⟨x9,gx9,hF⟩:=bS hF;have w10:xans A 142 [V.isl (x5.b.b.map enc),V.int .i64 x5.b.i,V.int .u64 x5.b.h] [V.int .i64 4]=some (V.int .i64 x9.a,[V.isl (x9.b.b.map enc),V.int .i64 x9.b.i,V.int .u64 x9.b.h]):=s142 x5.b 4 gx9;obtain⟨x11,gx11,hF⟩:=bS hF;obtain⟨w12a,w12b⟩:=qm gx11;have w12c:=qM gx11;replace w12c:x9.a < ((4:Nat):Int):=by first|exact w12c|(simp only[wJ]at w12c ⊢; exact w12c)
  have w12d:List.drop (Int.toNat x9.a) [V.str [99,105,114,99,108,101],V.str [116,111,114,117,115],V.str [100,105,115,99],V.str [112,111,105,110,116]]=(V.str x11.val)::List.drop ((Int.toNat x9.a)+1) [V.str [99,105,114,99,108,101],V.str [116,111,114,117,115],V.str [100,105,115,99],V.str [112,111,105,110,116]]:=jp w12b;obtain⟨x13,gx13,hF⟩:=bS hF;have w14:ans A 34 [V.str x11.val,V.int .i64 x7]=some (V.tup [V.agg (qb x13.a),V.int .i64 x13.b]):=s34 ⟨x11.val⟩ x7 gx13;obtain⟨x16,gx16,hF⟩:=bS hF;have w17:ans A 143 [V.str x11.val,V.int .i64 x7]=some (V.tup [V.agg (qb x16.a),V.int .i64 x16.b]):=s143 ⟨x11.val⟩ x7 gx16;by_cases c19:x13.b=x16.b
  ·rw[if_pos c19]at hF
   obtain⟨x20,gx20,hF⟩:=bS hF;have w21:eqSV true 12 (Lay.st 594 [(0,1,Lay.int Go.IntKind.i64),(1,1,Lay.int Go.IntKind.i64),(2,8,Lay.arr 8 8 1 (Lay.int Go.IntKind.i64)),(10,8,Lay.arr 8 8 1 (Lay.int Go.IntKind.i64)),(18,64,Lay.arr 8 64 8 (Lay.arr 8 8 1 (Lay.int Go.IntKind.u8))),(82,512,Lay.arr 8 512 64 (Lay.arr 8 64 8 (Lay.arr 8 8 1 (Lay.int Go.IntKind.u8))))]) (V.agg (qb x13.a)) (V.agg (qb x16.a))=some (V.bool (!x20)):=eqS1_GDga gx20;cases x20 with
   |true=>
    rw[if_pos rfl]at hF;by_cases c22:x13.b=0
    ·rw[if_pos c22]at hF
     obtain⟨x23,gx23,hF⟩:=bS hF;have w24:ans A 144 [V.agg (qb x13.a)]=some (V.tup [V.agg [V.int .i64 x23.a.Complex.Prime,V.isl (x23.a.Complex.Dims.map enc),V.isl (x23.a.Complex.Maps.map enc),V.isl (x23.a.Levels.map enc)],V.int .i64 x23.b]):=s144 x13.a gx23;obtain⟨x25,gx25,hF⟩:=bS hF;have w26:ans A 145 [V.agg (qb x13.a)]=some (V.tup [V.agg [V.int .i64 x25.a.Complex.Prime,V.isl (x25.a.Complex.Dims.map enc),V.isl (x25.a.Complex.Maps.map enc),V.isl (x25.a.Levels.map enc)],V.int .i64 x25.b]):=s145 x13.a gx25;by_cases c27:x23.b=x25.b
     ·rw[if_pos c27]at hF
      obtain⟨x28,gx28,hF⟩:=bS hF;have w29:ans A 146 [V.agg [V.int .i64 x23.a.Complex.Prime,V.isl (x23.a.Complex.Dims.map enc),V.isl (x23.a.Complex.Maps.map enc),V.isl (x23.a.Levels.map enc)],V.agg [V.int .i64 x25.a.Complex.Prime,V.isl (x25.a.Complex.Dims.map enc),V.isl (x25.a.Complex.Maps.map enc),V.isl (x25.a.Levels.map enc)]]=some (V.bool x28):=s146 x23.a x25.a gx28;cases x28 with
      |true=>
       rw[if_pos rfl]at hF;by_cases c30:x23.b=0
       ·rw[if_pos c30]at hF
        obtain⟨x31,gx31,hF⟩:=bS hF;have w32:ans A 147 [V.agg [V.int .i64 x23.a.Complex.Prime,V.isl (x23.a.Complex.Dims.map enc),V.isl (x23.a.Complex.Maps.map enc),V.isl (x23.a.Levels.map enc)]]=some (V.tup [V.int .i64 x31.a,V.int .i64 x31.b]):=s147 x23.a gx31;by_cases c33:x31.b=0
        ·rw[if_pos c33]at hF
         by_cases c34:6 < x31.a
         ·rw[if_pos c34]at hF
          cases hF;simp only[simprocAttr, -Int.reduceNatCast',R0,b214,h_0,w2,qn,w4,qo,w6,w8a,w8b,w8c,w8d,qo,w10,w12a,w12b,w12c,w12d,w14,qe,(wC (Nat.le_of_eq (qf (⟨0,0,⟨[]⟩,⟨[]⟩,⟨[]⟩,⟨[]⟩⟩:GDga))):List.drop 594 (qb (⟨0,0,⟨[]⟩,⟨[]⟩,⟨[]⟩,⟨[]⟩⟩:GDga))=[]),wA,w17,qe,(wC (Nat.le_of_eq (qf (⟨0,0,⟨[]⟩,⟨[]⟩,⟨[]⟩,⟨[]⟩⟩:GDga))):List.drop 594 (qb (⟨0,0,⟨[]⟩,⟨[]⟩,⟨[]⟩,⟨[]⟩⟩:GDga))=[]),wA,eq_true c19,w21,eq_true c22,w24,w26,eq_true c27,w29,eq_true c30,w32,eq_true c33,eq_true c34];exact qc (by simp only[simprocAttr, -Int.reduceNatCast',R0,qd,p214,Rs.ev,qa,h_0,w2,qn,w4,qo,w6,w8a,w8b,w8c,w8d,qo,w10,w12a,w12b,w12c,w12d,w14,qe,(wC (Nat.le_of_eq (qf (⟨0,0,⟨[]⟩,⟨[]⟩,⟨[]⟩,⟨[]⟩⟩:GDga))):List.drop 594 (qb (⟨0,0,⟨[]⟩,⟨[]⟩,⟨[]⟩,⟨[]⟩⟩:GDga))=[]),wA,w17,qe,(wC (Nat.le_of_eq (qf (⟨0,0,⟨[]⟩,⟨[]⟩,⟨[]⟩,⟨[]⟩⟩:GDga))):List.drop 594 (qb (⟨0,0,⟨[]⟩,⟨[]⟩,⟨[]⟩,⟨[]⟩⟩:GDga))=[]),wA,eq_true c19,w21,eq_true c22,w24,w26,eq_true c27,w29,eq_true c30,w32,eq_true c33,eq_true c34])
         ·rw[if_neg c34]at hF
          obtain⟨x35,gx35,hF⟩:=bS hF;have w36:ans A 148 [V.agg [V.int .i64 x23.a.Complex.Prime,V.isl (x23.a.Complex.Dims.map enc),V.isl (x23.a.Complex.Maps.map enc),V.isl (x23.a.Levels.map enc)],V.int .i64 x31.a]=some (V.tup [V.isl (x35.a.map enc),V.int .i64 x35.b]):=s148 x23.a x31.a gx35;obtain⟨x37,gx37,hF⟩:=bS hF;have w38:ans A 149 [(eC x23.a.Complex)]=some (V.tup [V.isl (x37.a.map enc),V.int .i64 x37.b]):=s149 x23.a.Complex gx37;by_cases c39:x35.b=0
          ·rw[if_pos c39]at hF
           by_cases c40:x37.b=0
           ·rw[if_pos c40]at hF
            by_cases c41:(x35.a.length:Int)=(x37.a.length:Int)
            ·rw[if_pos c41]at hF
             obtain⟨t52,gt52,hF⟩:=bS hF;rcases t52 with _|r109
             ·dsimp only at hF
              simp only[simprocAttr, -Int.reduceNatCast',R0,b214,h_0,w2,qn,w4,qo,w6,w8a,w8b,w8c,w8d,qo,w10,w12a,w12b,w12c,w12d,w14,qe,(wC (Nat.le_of_eq (qf (⟨0,0,⟨[]⟩,⟨[]⟩,⟨[]⟩,⟨[]⟩⟩:GDga))):List.drop 594 (qb (⟨0,0,⟨[]⟩,⟨[]⟩,⟨[]⟩,⟨[]⟩⟩:GDga))=[]),wA,w17,qe,(wC (Nat.le_of_eq (qf (⟨0,0,⟨[]⟩,⟨[]⟩,⟨[]⟩,⟨[]⟩⟩:GDga))):List.drop 594 (qb (⟨0,0,⟨[]⟩,⟨[]⟩,⟨[]⟩,⟨[]⟩⟩:GDga))=[]),wA,eq_true c19,w21,eq_true c22,w24,w26,eq_true c27,w29,eq_true c30,w32,eq_true c33,eq_false c34,w36,w38,eq_true c39,eq_true c40,eq_true c41];refine W.mono (l214_1 x9 x13 x16 x23 x25 x31 x35 x37 gt52 (ei _ (ai rfl ?_))) ?_
              ·simp only[simprocAttr, -Int.reduceNatCast',R0,h_0,w2,qn,w4,qo,w6,w8a,w8b,w8c,w8d,qo,w10,w12a,w12b,w12c,w12d,w14,qe,(wC (Nat.le_of_eq (qf (⟨0,0,⟨[]⟩,⟨[]⟩,⟨[]⟩,⟨[]⟩⟩:GDga))):List.drop 594 (qb (⟨0,0,⟨[]⟩,⟨[]⟩,⟨[]⟩,⟨[]⟩⟩:GDga))=[]),wA,w17,qe,(wC (Nat.le_of_eq (qf (⟨0,0,⟨[]⟩,⟨[]⟩,⟨[]⟩,⟨[]⟩⟩:GDga))):List.drop 594 (qb (⟨0,0,⟨[]⟩,⟨[]⟩,⟨[]⟩,⟨[]⟩⟩:GDga))=[]),wA,eq_true c19,w21,eq_true c22,w24,w26,eq_true c27,w29,eq_true c30,w32,eq_true c33,eq_false c34,w36,w38,eq_true c39,eq_true c40,eq_true c41]
              rintro _ e _ ⟨rfl,k43,rfl,h_44⟩;obtain⟨t96,gt96,hF⟩:=bS hF;rcases t96 with _|r108
              ·dsimp only at hF
               simp only[simprocAttr, -Int.reduceNatCast',R0,h_44,eq_true c19,eq_true c22,eq_true c27,eq_true c30,eq_true c33,eq_false c34,eq_true c39,eq_true c40,eq_true c41];refine W.mono (l214_2 x9 x13 x16 x23 x25 x31 x37 gt96 (ei _ (ai rfl ?_))) ?_
               ·simp only[simprocAttr, -Int.reduceNatCast',R0,h_44,eq_true c19,eq_true c22,eq_true c27,eq_true c30,eq_true c33,eq_false c34,eq_true c39,eq_true c40,eq_true c41]
               rintro _ e _ ⟨rfl,k54,rfl,h_55⟩;obtain⟨x97,gx97,hF⟩:=bS hF;have w98:ans A 153 [(eC x23.a.Complex)]=some (V.tup [V.isl (x97.a.map enc),V.int .i64 x97.b]):=s153 x23.a.Complex gx97;obtain⟨x99,gx99,hF⟩:=bS hF;have w100:ans A 154 [(eC x23.a.Complex)]=some (V.tup [V.agg [V.isl (x99.a.Down.map enc),V.isl (x99.a.Up.map enc),V.isl (x99.a.Back.map enc)],V.int .i64 x99.b]):=s154 x23.a.Complex gx99;obtain⟨x101,gx101,hF⟩:=bS hF;have w102:ans A 155 [(eC x23.a.Complex),V.agg [V.isl (x99.a.Down.map enc),V.isl (x99.a.Up.map enc),V.isl (x99.a.Back.map enc)],V.isl (x97.a.map enc)]=some (V.tup [(eC x101.a),V.int .i64 x101.b]):=s155 x23.a.Complex x99.a x97.a gx101;by_cases c103:x97.b=0
               ·rw[if_pos c103]at hF
                by_cases c104:x99.b=0
                ·rw[if_pos c104]at hF
                 by_cases c105:x101.b=0
                 ·rw[if_pos c105]at hF
                  obtain⟨x106,gx106,hF⟩:=bS hF;have w107:ans A 156 [V.isl (x101.a.Dims.map enc),V.isl (x37.a.map enc)]=some (V.bool x106):=s156 x101.a.Dims x37.a gx106;cases hF;simp only[simprocAttr, -Int.reduceNatCast',R0,h_55,eq_true c19,eq_true c22,eq_true c27,eq_true c30,eq_true c33,eq_false c34,eq_true c39,eq_true c40,eq_true c41,w98,w100,w102,eq_true c103,eq_true c104,eq_true c105,w107];exact qc (by simp only[simprocAttr, -Int.reduceNatCast',R0,qd,p214,Rs.ev,qa,h_55,eq_true c19,eq_true c22,eq_true c27,eq_true c30,eq_true c33,eq_false c34,eq_true c39,eq_true c40,eq_true c41,w98,w100,w102,eq_true c103,eq_true c104,eq_true c105,w107])
                 ·rw[if_neg c105]at hF
                  cases hF;simp only[simprocAttr, -Int.reduceNatCast',R0,h_55,eq_true c19,eq_true c22,eq_true c27,eq_true c30,eq_true c33,eq_false c34,eq_true c39,eq_true c40,eq_true c41,w98,w100,w102,eq_true c103,eq_true c104,eq_false c105];exact qc (by simp only[simprocAttr, -Int.reduceNatCast',R0,qd,p214,Rs.ev,qa,h_55,eq_true c19,eq_true c22,eq_true c27,eq_true c30,eq_true c33,eq_false c34,eq_true c39,eq_true c40,eq_true c41,w98,w100,w102,eq_true c103,eq_true c104,eq_false c105])
                ·rw[if_neg c104]at hF
                 cases hF;simp only[simprocAttr, -Int.reduceNatCast',R0,h_55,eq_true c19,eq_true c22,eq_true c27,eq_true c30,eq_true c33,eq_false c34,eq_true c39,eq_true c40,eq_true c41,w98,w100,w102,eq_true c103,eq_false c104];exact qc (by simp only[simprocAttr, -Int.reduceNatCast',R0,qd,p214,Rs.ev,qa,h_55,eq_true c19,eq_true c22,eq_true c27,eq_true c30,eq_true c33,eq_false c34,eq_true c39,eq_true c40,eq_true c41,w98,w100,w102,eq_true c103,eq_false c104])
               ·rw[if_neg c103]at hF
                cases hF;simp only[simprocAttr, -Int.reduceNatCast',R0,h_55,eq_true c19,eq_true c22,eq_true c27,eq_true c30,eq_true c33,eq_false c34,eq_true c39,eq_true c40,eq_true c41,w98,w100,w102,eq_false c103];exact qc (by simp only[simprocAttr, -Int.reduceNatCast',R0,qd,p214,Rs.ev,qa,h_55,eq_true c19,eq_true c22,eq_true c27,eq_true c30,eq_true c33,eq_false c34,eq_true c39,eq_true c40,eq_true c41,w98,w100,w102,eq_false c103])
              ·dsimp only at hF
               cases hF;simp only[simprocAttr, -Int.reduceNatCast',R0,h_44,eq_true c19,eq_true c22,eq_true c27,eq_true c30,eq_true c33,eq_false c34,eq_true c39,eq_true c40,eq_true c41];refine W.mono (l214_2 x9 x13 x16 x23 x25 x31 x37 gt96 (ei _ (ai rfl ?_))) ?_
               ·simp only[simprocAttr, -Int.reduceNatCast',R0,h_44,eq_true c19,eq_true c22,eq_true c27,eq_true c30,eq_true c33,eq_false c34,eq_true c39,eq_true c40,eq_true c41]
               rintro _ e h ⟨rfl,hq⟩;simp only[simprocAttr, -Int.reduceNatCast',RR,RB];exact hq
             ·dsimp only at hF
              cases hF;simp only[simprocAttr, -Int.reduceNatCast',R0,b214,h_0,w2,qn,w4,qo,w6,w8a,w8b,w8c,w8d,qo,w10,w12a,w12b,w12c,w12d,w14,qe,(wC (Nat.le_of_eq (qf (⟨0,0,⟨[]⟩,⟨[]⟩,⟨[]⟩,⟨[]⟩⟩:GDga))):List.drop 594 (qb (⟨0,0,⟨[]⟩,⟨[]⟩,⟨[]⟩,⟨[]⟩⟩:GDga))=[]),wA,w17,qe,(wC (Nat.le_of_eq (qf (⟨0,0,⟨[]⟩,⟨[]⟩,⟨[]⟩,⟨[]⟩⟩:GDga))):List.drop 594 (qb (⟨0,0,⟨[]⟩,⟨[]⟩,⟨[]⟩,⟨[]⟩⟩:GDga))=[]),wA,eq_true c19,w21,eq_true c22,w24,w26,eq_true c27,w29,eq_true c30,w32,eq_true c33,eq_false c34,w36,w38,eq_true c39,eq_true c40,eq_true c41];refine W.mono (l214_1 x9 x13 x16 x23 x25 x31 x35 x37 gt52 (ei _ (ai rfl ?_))) ?_
              ·simp only[simprocAttr, -Int.reduceNatCast',R0,h_0,w2,qn,w4,qo,w6,w8a,w8b,w8c,w8d,qo,w10,w12a,w12b,w12c,w12d,w14,qe,(wC (Nat.le_of_eq (qf (⟨0,0,⟨[]⟩,⟨[]⟩,⟨[]⟩,⟨[]⟩⟩:GDga))):List.drop 594 (qb (⟨0,0,⟨[]⟩,⟨[]⟩,⟨[]⟩,⟨[]⟩⟩:GDga))=[]),wA,w17,qe,(wC (Nat.le_of_eq (qf (⟨0,0,⟨[]⟩,⟨[]⟩,⟨[]⟩,⟨[]⟩⟩:GDga))):List.drop 594 (qb (⟨0,0,⟨[]⟩,⟨[]⟩,⟨[]⟩,⟨[]⟩⟩:GDga))=[]),wA,eq_true c19,w21,eq_true c22,w24,w26,eq_true c27,w29,eq_true c30,w32,eq_true c33,eq_false c34,w36,w38,eq_true c39,eq_true c40,eq_true c41]
              rintro _ e h ⟨rfl,hq⟩;simp only[simprocAttr, -Int.reduceNatCast',RR,RB];exact hq
            ·rw[if_neg c41]at hF
             cases hF;simp only[simprocAttr, -Int.reduceNatCast',R0,b214,h_0,w2,qn,w4,qo,w6,w8a,w8b,w8c,w8d,qo,w10,w12a,w12b,w12c,w12d,w14,qe,(wC (Nat.le_of_eq (qf (⟨0,0,⟨[]⟩,⟨[]⟩,⟨[]⟩,⟨[]⟩⟩:GDga))):List.drop 594 (qb (⟨0,0,⟨[]⟩,⟨[]⟩,⟨[]⟩,⟨[]⟩⟩:GDga))=[]),wA,w17,qe,(wC (Nat.le_of_eq (qf (⟨0,0,⟨[]⟩,⟨[]⟩,⟨[]⟩,⟨[]⟩⟩:GDga))):List.drop 594 (qb (⟨0,0,⟨[]⟩,⟨[]⟩,⟨[]⟩,⟨[]⟩⟩:GDga))=[]),wA,eq_true c19,w21,eq_true c22,w24,w26,eq_true c27,w29,eq_true c30,w32,eq_true c33,eq_false c34,w36,w38,eq_true c39,eq_true c40,eq_false c41];exact qc (by simp only[simprocAttr, -Int.reduceNatCast',R0,qd,p214,Rs.ev,qa,h_0,w2,qn,w4,qo,w6,w8a,w8b,w8c,w8d,qo,w10,w12a,w12b,w12c,w12d,w14,qe,(wC (Nat.le_of_eq (qf (⟨0,0,⟨[]⟩,⟨[]⟩,⟨[]⟩,⟨[]⟩⟩:GDga))):List.drop 594 (qb (⟨0,0,⟨[]⟩,⟨[]⟩,⟨[]⟩,⟨[]⟩⟩:GDga))=[]),wA,w17,qe,(wC (Nat.le_of_eq (qf (⟨0,0,⟨[]⟩,⟨[]⟩,⟨[]⟩,⟨[]⟩⟩:GDga))):List.drop 594 (qb (⟨0,0,⟨[]⟩,⟨[]⟩,⟨[]⟩,⟨[]⟩⟩:GDga))=[]),wA,eq_true c19,w21,eq_true c22,w24,w26,eq_true c27,w29,eq_true c30,w32,eq_true c33,eq_false c34,w36,w38,eq_true c39,eq_true c40,eq_false c41])
           ·rw[if_neg c40]at hF
            cases hF;simp only[simprocAttr, -Int.reduceNatCast',R0,b214,h_0,w2,qn,w4,qo,w6,w8a,w8b,w8c,w8d,qo,w10,w12a,w12b,w12c,w12d,w14,qe,(wC (Nat.le_of_eq (qf (⟨0,0,⟨[]⟩,⟨[]⟩,⟨[]⟩,⟨[]⟩⟩:GDga))):List.drop 594 (qb (⟨0,0,⟨[]⟩,⟨[]⟩,⟨[]⟩,⟨[]⟩⟩:GDga))=[]),wA,w17,qe,(wC (Nat.le_of_eq (qf (⟨0,0,⟨[]⟩,⟨[]⟩,⟨[]⟩,⟨[]⟩⟩:GDga))):List.drop 594 (qb (⟨0,0,⟨[]⟩,⟨[]⟩,⟨[]⟩,⟨[]⟩⟩:GDga))=[]),wA,eq_true c19,w21,eq_true c22,w24,w26,eq_true c27,w29,eq_true c30,w32,eq_true c33,eq_false c34,w36,w38,eq_true c39,eq_false c40];exact qc (by simp only[simprocAttr, -Int.reduceNatCast',R0,qd,p214,Rs.ev,qa,h_0,w2,qn,w4,qo,w6,w8a,w8b,w8c,w8d,qo,w10,w12a,w12b,w12c,w12d,w14,qe,(wC (Nat.le_of_eq (qf (⟨0,0,⟨[]⟩,⟨[]⟩,⟨[]⟩,⟨[]⟩⟩:GDga))):List.drop 594 (qb (⟨0,0,⟨[]⟩,⟨[]⟩,⟨[]⟩,⟨[]⟩⟩:GDga))=[]),wA,w17,qe,(wC (Nat.le_of_eq (qf (⟨0,0,⟨[]⟩,⟨[]⟩,⟨[]⟩,⟨[]⟩⟩:GDga))):List.drop 594 (qb (⟨0,0,⟨[]⟩,⟨[]⟩,⟨[]⟩,⟨[]⟩⟩:GDga))=[]),wA,eq_true c19,w21,eq_true c22,w24,w26,eq_true c27,w29,eq_true c30,w32,eq_true c33,eq_false c34,w36,w38,eq_true c39,eq_false c40])
          ·rw[if_neg c39]at hF
           cases hF;simp only[simprocAttr, -Int.reduceNatCast',R0,b214,h_0,w2,qn,w4,qo,w6,w8a,w8b,w8c,w8d,qo,w10,w12a,w12b,w12c,w12d,w14,qe,(wC (Nat.le_of_eq (qf (⟨0,0,⟨[]⟩,⟨[]⟩,⟨[]⟩,⟨[]⟩⟩:GDga))):List.drop 594 (qb (⟨0,0,⟨[]⟩,⟨[]⟩,⟨[]⟩,⟨[]⟩⟩:GDga))=[]),wA,w17,qe,(wC (Nat.le_of_eq (qf (⟨0,0,⟨[]⟩,⟨[]⟩,⟨[]⟩,⟨[]⟩⟩:GDga))):List.drop 594 (qb (⟨0,0,⟨[]⟩,⟨[]⟩,⟨[]⟩,⟨[]⟩⟩:GDga))=[]),wA,eq_true c19,w21,eq_true c22,w24,w26,eq_true c27,w29,eq_true c30,w32,eq_true c33,eq_false c34,w36,w38,eq_false c39];exact qc (by simp only[simprocAttr, -Int.reduceNatCast',R0,qd,p214,Rs.ev,qa,h_0,w2,qn,w4,qo,w6,w8a,w8b,w8c,w8d,qo,w10,w12a,w12b,w12c,w12d,w14,qe,(wC (Nat.le_of_eq (qf (⟨0,0,⟨[]⟩,⟨[]⟩,⟨[]⟩,⟨[]⟩⟩:GDga))):List.drop 594 (qb (⟨0,0,⟨[]⟩,⟨[]⟩,⟨[]⟩,⟨[]⟩⟩:GDga))=[]),wA,w17,qe,(wC (Nat.le_of_eq (qf (⟨0,0,⟨[]⟩,⟨[]⟩,⟨[]⟩,⟨[]⟩⟩:GDga))):List.drop 594 (qb (⟨0,0,⟨[]⟩,⟨[]⟩,⟨[]⟩,⟨[]⟩⟩:GDga))=[]),wA,eq_true c19,w21,eq_true c22,w24,w26,eq_true c27,w29,eq_true c30,w32,eq_true c33,eq_false c34,w36,w38,eq_false c39])
        ·rw[if_neg c33]at hF
         cases hF;simp only[simprocAttr, -Int.reduceNatCast',R0,b214,h_0,w2,qn,w4,qo,w6,w8a,w8b,w8c,w8d,qo,w10,w12a,w12b,w12c,w12d,w14,qe,(wC (Nat.le_of_eq (qf (⟨0,0,⟨[]⟩,⟨[]⟩,⟨[]⟩,⟨[]⟩⟩:GDga))):List.drop 594 (qb (⟨0,0,⟨[]⟩,⟨[]⟩,⟨[]⟩,⟨[]⟩⟩:GDga))=[]),wA,w17,qe,(wC (Nat.le_of_eq (qf (⟨0,0,⟨[]⟩,⟨[]⟩,⟨[]⟩,⟨[]⟩⟩:GDga))):List.drop 594 (qb (⟨0,0,⟨[]⟩,⟨[]⟩,⟨[]⟩,⟨[]⟩⟩:GDga))=[]),wA,eq_true c19,w21,eq_true c22,w24,w26,eq_true c27,w29,eq_true c30,w32,eq_false c33];exact qc (by simp only[simprocAttr, -Int.reduceNatCast',R0,qd,p214,Rs.ev,qa,h_0,w2,qn,w4,qo,w6,w8a,w8b,w8c,w8d,qo,w10,w12a,w12b,w12c,w12d,w14,qe,(wC (Nat.le_of_eq (qf (⟨0,0,⟨[]⟩,⟨[]⟩,⟨[]⟩,⟨[]⟩⟩:GDga))):List.drop 594 (qb (⟨0,0,⟨[]⟩,⟨[]⟩,⟨[]⟩,⟨[]⟩⟩:GDga))=[]),wA,w17,qe,(wC (Nat.le_of_eq (qf (⟨0,0,⟨[]⟩,⟨[]⟩,⟨[]⟩,⟨[]⟩⟩:GDga))):List.drop 594 (qb (⟨0,0,⟨[]⟩,⟨[]⟩,⟨[]⟩,⟨[]⟩⟩:GDga))=[]),wA,eq_true c19,w21,eq_true c22,w24,w26,eq_true c27,w29,eq_true c30,w32,eq_false c33])
       ·rw[if_neg c30]at hF
        cases hF;simp only[simprocAttr, -Int.reduceNatCast',R0,b214,h_0,w2,qn,w4,qo,w6,w8a,w8b,w8c,w8d,qo,w10,w12a,w12b,w12c,w12d,w14,qe,(wC (Nat.le_of_eq (qf (⟨0,0,⟨[]⟩,⟨[]⟩,⟨[]⟩,⟨[]⟩⟩:GDga))):List.drop 594 (qb (⟨0,0,⟨[]⟩,⟨[]⟩,⟨[]⟩,⟨[]⟩⟩:GDga))=[]),wA,w17,qe,(wC (Nat.le_of_eq (qf (⟨0,0,⟨[]⟩,⟨[]⟩,⟨[]⟩,⟨[]⟩⟩:GDga))):List.drop 594 (qb (⟨0,0,⟨[]⟩,⟨[]⟩,⟨[]⟩,⟨[]⟩⟩:GDga))=[]),wA,eq_true c19,w21,eq_true c22,w24,w26,eq_true c27,w29,eq_false c30];exact qc (by simp only[simprocAttr, -Int.reduceNatCast',R0,qd,p214,Rs.ev,qa,h_0,w2,qn,w4,qo,w6,w8a,w8b,w8c,w8d,qo,w10,w12a,w12b,w12c,w12d,w14,qe,(wC (Nat.le_of_eq (qf (⟨0,0,⟨[]⟩,⟨[]⟩,⟨[]⟩,⟨[]⟩⟩:GDga))):List.drop 594 (qb (⟨0,0,⟨[]⟩,⟨[]⟩,⟨[]⟩,⟨[]⟩⟩:GDga))=[]),wA,w17,qe,(wC (Nat.le_of_eq (qf (⟨0,0,⟨[]⟩,⟨[]⟩,⟨[]⟩,⟨[]⟩⟩:GDga))):List.drop 594 (qb (⟨0,0,⟨[]⟩,⟨[]⟩,⟨[]⟩,⟨[]⟩⟩:GDga))=[]),wA,eq_true c19,w21,eq_true c22,w24,w26,eq_true c27,w29,eq_false c30])
      |false=>
       rw[if_neg wE]at hF;cases hF;simp only[simprocAttr, -Int.reduceNatCast',R0,b214,h_0,w2,qn,w4,qo,w6,w8a,w8b,w8c,w8d,qo,w10,w12a,w12b,w12c,w12d,w14,qe,(wC (Nat.le_of_eq (qf (⟨0,0,⟨[]⟩,⟨[]⟩,⟨[]⟩,⟨[]⟩⟩:GDga))):List.drop 594 (qb (⟨0,0,⟨[]⟩,⟨[]⟩,⟨[]⟩,⟨[]⟩⟩:GDga))=[]),wA,w17,qe,(wC (Nat.le_of_eq (qf (⟨0,0,⟨[]⟩,⟨[]⟩,⟨[]⟩,⟨[]⟩⟩:GDga))):List.drop 594 (qb (⟨0,0,⟨[]⟩,⟨[]⟩,⟨[]⟩,⟨[]⟩⟩:GDga))=[]),wA,eq_true c19,w21,eq_true c22,w24,w26,eq_true c27,w29];exact qc (by simp only[simprocAttr, -Int.reduceNatCast',R0,qd,p214,Rs.ev,qa,h_0,w2,qn,w4,qo,w6,w8a,w8b,w8c,w8d,qo,w10,w12a,w12b,w12c,w12d,w14,qe,(wC (Nat.le_of_eq (qf (⟨0,0,⟨[]⟩,⟨[]⟩,⟨[]⟩,⟨[]⟩⟩:GDga))):List.drop 594 (qb (⟨0,0,⟨[]⟩,⟨[]⟩,⟨[]⟩,⟨[]⟩⟩:GDga))=[]),wA,w17,qe,(wC (Nat.le_of_eq (qf (⟨0,0,⟨[]⟩,⟨[]⟩,⟨[]⟩,⟨[]⟩⟩:GDga))):List.drop 594 (qb (⟨0,0,⟨[]⟩,⟨[]⟩,⟨[]⟩,⟨[]⟩⟩:GDga))=[]),wA,eq_true c19,w21,eq_true c22,w24,w26,eq_true c27,w29])
     ·rw[if_neg c27]at hF
      cases hF;simp only[simprocAttr, -Int.reduceNatCast',R0,b214,h_0,w2,qn,w4,qo,w6,w8a,w8b,w8c,w8d,qo,w10,w12a,w12b,w12c,w12d,w14,qe,(wC (Nat.le_of_eq (qf (⟨0,0,⟨[]⟩,⟨[]⟩,⟨[]⟩,⟨[]⟩⟩:GDga))):List.drop 594 (qb (⟨0,0,⟨[]⟩,⟨[]⟩,⟨[]⟩,⟨[]⟩⟩:GDga))=[]),wA,w17,qe,(wC (Nat.le_of_eq (qf (⟨0,0,⟨[]⟩,⟨[]⟩,⟨[]⟩,⟨[]⟩⟩:GDga))):List.drop 594 (qb (⟨0,0,⟨[]⟩,⟨[]⟩,⟨[]⟩,⟨[]⟩⟩:GDga))=[]),wA,eq_true c19,w21,eq_true c22,w24,w26,eq_false c27];exact qc (by simp only[simprocAttr, -Int.reduceNatCast',R0,qd,p214,Rs.ev,qa,h_0,w2,qn,w4,qo,w6,w8a,w8b,w8c,w8d,qo,w10,w12a,w12b,w12c,w12d,w14,qe,(wC (Nat.le_of_eq (qf (⟨0,0,⟨[]⟩,⟨[]⟩,⟨[]⟩,⟨[]⟩⟩:GDga))):List.drop 594 (qb (⟨0,0,⟨[]⟩,⟨[]⟩,⟨[]⟩,⟨[]⟩⟩:GDga))=[]),wA,w17,qe,(wC (Nat.le_of_eq (qf (⟨0,0,⟨[]⟩,⟨[]⟩,⟨[]⟩,⟨[]⟩⟩:GDga))):List.drop 594 (qb (⟨0,0,⟨[]⟩,⟨[]⟩,⟨[]⟩,⟨[]⟩⟩:GDga))=[]),wA,eq_true c19,w21,eq_true c22,w24,w26,eq_false c27])
    ·rw[if_neg c22]at hF
     cases hF;simp only[simprocAttr, -Int.reduceNatCast',R0,b214,h_0,w2,qn,w4,qo,w6,w8a,w8b,w8c,w8d,qo,w10,w12a,w12b,w12c,w12d,w14,qe,(wC (Nat.le_of_eq (qf (⟨0,0,⟨[]⟩,⟨[]⟩,⟨[]⟩,⟨[]⟩⟩:GDga))):List.drop 594 (qb (⟨0,0,⟨[]⟩,⟨[]⟩,⟨[]⟩,⟨[]⟩⟩:GDga))=[]),wA,w17,qe,(wC (Nat.le_of_eq (qf (⟨0,0,⟨[]⟩,⟨[]⟩,⟨[]⟩,⟨[]⟩⟩:GDga))):List.drop 594 (qb (⟨0,0,⟨[]⟩,⟨[]⟩,⟨[]⟩,⟨[]⟩⟩:GDga))=[]),wA,eq_true c19,w21,eq_false c22];exact qc (by simp only[simprocAttr, -Int.reduceNatCast',R0,qd,p214,Rs.ev,qa,h_0,w2,qn,w4,qo,w6,w8a,w8b,w8c,w8d,qo,w10,w12a,w12b,w12c,w12d,w14,qe,(wC (Nat.le_of_eq (qf (⟨0,0,⟨[]⟩,⟨[]⟩,⟨[]⟩,⟨[]⟩⟩:GDga))):List.drop 594 (qb (⟨0,0,⟨[]⟩,⟨[]⟩,⟨[]⟩,⟨[]⟩⟩:GDga))=[]),wA,w17,qe,(wC (Nat.le_of_eq (qf (⟨0,0,⟨[]⟩,⟨[]⟩,⟨[]⟩,⟨[]⟩⟩:GDga))):List.drop 594 (qb (⟨0,0,⟨[]⟩,⟨[]⟩,⟨[]⟩,⟨[]⟩⟩:GDga))=[]),wA,eq_true c19,w21,eq_false c22])
   |false=>
    rw[if_neg wE]at hF;cases hF;simp only[simprocAttr, -Int.reduceNatCast',R0,b214,h_0,w2,qn,w4,qo,w6,w8a,w8b,w8c,w8d,qo,w10,w12a,w12b,w12c,w12d,w14,qe,(wC (Nat.le_of_eq (qf (⟨0,0,⟨[]⟩,⟨[]⟩,⟨[]⟩,⟨[]⟩⟩:GDga))):List.drop 594 (qb (⟨0,0,⟨[]⟩,⟨[]⟩,⟨[]⟩,⟨[]⟩⟩:GDga))=[]),wA,w17,qe,(wC (Nat.le_of_eq (qf (⟨0,0,⟨[]⟩,⟨[]⟩,⟨[]⟩,⟨[]⟩⟩:GDga))):List.drop 594 (qb (⟨0,0,⟨[]⟩,⟨[]⟩,⟨[]⟩,⟨[]⟩⟩:GDga))=[]),wA,eq_true c19,w21];exact qc (by simp only[simprocAttr, -Int.reduceNatCast',R0,qd,p214,Rs.ev,qa,h_0,w2,qn,w4,qo,w6,w8a,w8b,w8c,w8d,qo,w10,w12a,w12b,w12c,w12d,w14,qe,(wC (Nat.le_of_eq (qf (⟨0,0,⟨[]⟩,⟨[]⟩,⟨[]⟩,⟨[]⟩⟩:GDga))):List.drop 594 (qb (⟨0,0,⟨[]⟩,⟨[]⟩,⟨[]⟩,⟨[]⟩⟩:GDga))=[]),wA,w17,qe,(wC (Nat.le_of_eq (qf (⟨0,0,⟨[]⟩,⟨[]⟩,⟨[]⟩,⟨[]⟩⟩:GDga))):List.drop 594 (qb (⟨0,0,⟨[]⟩,⟨[]⟩,⟨[]⟩,⟨[]⟩⟩:GDga))=[]),wA,eq_true c19,w21])
  ·rw[if_neg c19]at hF
   cases hF;simp only[simprocAttr, -Int.reduceNatCast',R0,b214,h_0,w2,qn,w4,qo,w6,w8a,w8b,w8c,w8d,qo,w10,w12a,w12b,w12c,w12d,w14,qe,(wC (Nat.le_of_eq (qf (⟨0,0,⟨[]⟩,⟨[]⟩,⟨[]⟩,⟨[]⟩⟩:GDga))):List.drop 594 (qb (⟨0,0,⟨[]⟩,⟨[]⟩,⟨[]⟩,⟨[]⟩⟩:GDga))=[]),wA,w17,qe,(wC (Nat.le_of_eq (qf (⟨0,0,⟨[]⟩,⟨[]⟩,⟨[]⟩,⟨[]⟩⟩:GDga))):List.drop 594 (qb (⟨0,0,⟨[]⟩,⟨[]⟩,⟨[]⟩,⟨[]⟩⟩:GDga))=[]),wA,eq_false c19];exact qc (by simp only[simprocAttr, -Int.reduceNatCast',R0,qd,p214,Rs.ev,qa,h_0,w2,qn,w4,qo,w6,w8a,w8b,w8c,w8d,qo,w10,w12a,w12b,w12c,w12d,w14,qe,(wC (Nat.le_of_eq (qf (⟨0,0,⟨[]⟩,⟨[]⟩,⟨[]⟩,⟨[]⟩⟩:GDga))):List.drop 594 (qb (⟨0,0,⟨[]⟩,⟨[]⟩,⟨[]⟩,⟨[]⟩⟩:GDga))=[]),wA,w17,qe,(wC (Nat.le_of_eq (qf (⟨0,0,⟨[]⟩,⟨[]⟩,⟨[]⟩,⟨[]⟩⟩:GDga))):List.drop 594 (qb (⟨0,0,⟨[]⟩,⟨[]⟩,⟨[]⟩,⟨[]⟩⟩:GDga))=[]),wA,eq_false c19])
end
end Rv
