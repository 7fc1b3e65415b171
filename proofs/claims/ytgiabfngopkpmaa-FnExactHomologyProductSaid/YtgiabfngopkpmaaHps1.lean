/- What the abstract code answers: typed functions, part 2. -/
import Derived.Test.YtgiabfngopkpmaaHps0
namespace Rv
set_option linter.unusedVariables false
set_option linter.unusedSimpArgs false
set_option maxRecDepth 100000
noncomputable section
def F131_2_B(p b:Int)(k:Int)(row:List Int):Option (List Int⊕List Int):=(getI row k).bind fun x=>(chk (x*b)).bind fun m=>(remI m p).bind fun z=>(setI row k z).bind fun r=> some (.inl r)
def F131_2_D(k:Int)(row:List Int):Option (List Int):=some row
def F131_3_C(out:List (List Int))(at_:Int)(k:Int)(put:Bool):Option Bool:=if put=true then some false else(getI out k).bind fun o=>(F81 o).bind fun ld=> some (decide (at_ < ld))
def F131_3_B(p:Int)(out:List (List Int))(own:List Int)(at_:Int)(k:Int)(s:List (List Int)×Bool):Option ((List (List Int)×Bool)⊕(List (List Int)×Bool)):=
 (F131_3_C out at_ k s.2).bind fun c=>(if c=true then(app 24 s.1 [own]).bind fun n=> some (n,true)else some s).bind fun s2=>
 (getI out k).bind fun o=>(getI o at_).bind fun y=>(F136 p o own y).bind fun q=>(app 24 s2.1 [q]).bind fun n=> some (.inl (n,s2.2))
def F131_3_D(k:Int)(s:List (List Int)×Bool):Option (List (List Int)×Bool):=some s
def F131_1_B(p:Int)(rows:List (List Int))(i:Int)(out:List (List Int)):Option (List (List Int)⊕List (List Int)):=
 (getI rows i).bind fun row=>(F134 p out row).bind fun own=>(F81 own).bind fun at_=> if at_ < 0 then some (.inl out)else
 (getI own at_).bind fun x=>(F135 p x).bind fun inv=>(forR 0 (own.length:Int) (F131_2_B p inv) F131_2_D own).bind fun own'=>
 (forR 0 (out.length:Int) (F131_3_B p out own' at_) F131_3_D ([],false)).bind fun s=> if s.2=true then some (.inl s.1)else(app 24 s.1 [own']).bind fun n=> some (.inl n)
def F131_1_D(i:Int)(out:List (List Int)):Option (List (List Int)):=some out
def F131(p:Int)(rows:List (List Int)):Option (List (List Int)):=forR 0 (rows.length:Int) (F131_1_B p rows) F131_1_D []
set_option maxHeartbeats 8000000 in
theorem d131(p:Int)(rows:List (List Int)){r:List (List Int)}(hF:F131 p rows=some r):∃v h',res A 131 [V.int .i64 p,V.isl (rows.map Enc.enc)] Heap.empty=some (v,h')∧
  ∃k u vs,v=V.sl k u 0 r.length 1∧h'.ents[k]? =some (u,some vs)∧Rws h'.ents (fun _=> True) vs r:=by
 refine res_dp (f:=p131) rfl rfl rfl fun e hl he=>?_;have h0_0:e.at 0=V.int .i64 p:=he 0 _ rfl;have h1_0:e.at 1=V.isl (rows.map Enc.enc):=he 1 _ rfl;have hl_0:e.length=102:=hl;clear he hl;show W A b131 e ⟨[],0⟩ _;unfold F131 at hF;simp only[simprocAttr, -Int.reduceNatCast',R1,b131,hl_0,h0_0,h1_0];show W A (.block 0 (.loop true b131_1)) _ _ _;rw[W_block];refine W_forR hF _ rfl (fun i out e h=>∃ko uo vs,h.ents[ko]? =some (uo,some vs)∧Rws h.ents (fun _=> True) vs out∧e.length=102∧e.at 0=V.int .i64 p∧e.at 1=V.isl (rows.map Enc.enc)∧e.at 5=V.sl ko uo 0 out.length 1∧e.at 6=V.int .i64 i) ?_ ?_ ?_
 ·refine⟨0,0,[],rfl,.nil,?_⟩
  simp only[simprocAttr, -Int.reduceNatCast',R1,hl_0,h0_0,h1_0]
 ·clear hl_0 h0_0 h1_0
  rintro i out e ⟨E,c⟩ ⟨ko,uo,vs,g1,g2,hl_1,h0_1,h1_1,h5_1,h6_1⟩ hlt hw s' ho;unfold F131_1_B at ho;simp only at g1 g2;have hko:ko < E.length:=(List.getElem?_eq_some_iff.1 g1).1;obtain⟨row,gr,ho⟩:=bS ho;obtain⟨ra,rb⟩:=getI_w gr;obtain⟨own,gown,ho⟩:=bS ho;have wown:tans A 134 [1] [V.int .i64 p,V.isl (out.map Enc.enc),V.isl (row.map Enc.enc)]=some (V.isl (own.map Enc.enc)):=t134 p out row gown;obtain⟨at_,gat,ho⟩:=bS ho;have wat:ans A 81 [V.isl (own.map Enc.enc)]=some (V.int .i64 at_):=s81 own gat;have wfo:=g2.fz c g1;have wbr:=bare_one (α:=Int) own;have wfr:∀z:List Int,∀c',frz ⟨E++[(c,some (z.map Enc.enc))],c'⟩ 16 (V.sl E.length c 0 z.length 1)=some (V.isl (z.map Enc.enc)):=fun z c'=> frz_row (get_last _ _);have wfr0:=wfr own;by_cases hat:at_ < 0
  ·rw[if_pos hat]at ho
   have hE:=Option.some.inj ho; subst hE;simp only[simprocAttr, -Int.reduceNatCast',R1,b131_1,hl_1,h0_1,h1_1,h5_1,h6_1,eq_true hlt,hw,ra,rb,wfo,wown,wbr,callM_tans,thaw_one,wfr0,wat,eq_true hat];refine ai rfl ⟨ko,uo,vs,(List.getElem?_append_left hko).trans g1,g2.frame fun k hk _=>⟨List.getElem?_append_left hk,trivial⟩,?_⟩;simp only[simprocAttr, -Int.reduceNatCast',R1,hl_1,h0_1,h1_1,h5_1,h6_1,hw]
  ·rw[if_neg hat]at ho
   obtain⟨x,gx,ho⟩:=bS ho;obtain⟨xa,xb⟩:=getI_w gx;have xc:=getI_lt gx;obtain⟨inv,ginv,ho⟩:=bS ho;have winv:ans A 135 [V.int .i64 p,V.int .i64 x]=some (V.int .i64 inv):=s135 p x ginv;obtain⟨own',gown',ho⟩:=bS ho;obtain⟨s,gs,ho⟩:=bS ho;have ox:ofCells none (List.drop at_.toNat (own.map Enc.enc))=some (V.int .i64 x):=ofCells_drop (by rw[List.getElem?_map,xb]; rfl);simp only[simprocAttr, -Int.reduceNatCast',R1,b131_1,hl_1,h0_1,h1_1,h5_1,h6_1,eq_true hlt,hw,ra,rb,wfo,wown,wbr,callM_tans,thaw_one,wfr0,wat,eq_false hat,xa,eq_true xc,get_last,ox,winv];show W A (.block 2 (.loop true b131_2)) _ _ _;rw[W_block];refine W_forR gown' _ rfl (fun k q e h=> q.length=own.length∧h=⟨E++[(c,some (q.map Enc.enc))],c+1⟩∧e.length=102∧e.at 0=V.int .i64 p∧e.at 1=V.isl (rows.map Enc.enc)∧e.at 5=V.sl ko uo 0 out.length 1∧e.at 6=V.int .i64 i∧e.at 7=V.sl E.length c 0 own.length 1∧e.at 8=V.int .i64 at_∧e.at 9=V.int .i64 inv∧e.at 10=V.int .i64 k) ?_ ?_ ?_
   ·refine⟨rfl,rfl,?_⟩
    simp only[simprocAttr, -Int.reduceNatCast',R1,hl_1,h0_1,h1_1,h5_1,h6_1]
   ·clear hl_1 h0_1 h1_1 h5_1 h6_1
    rintro k q e h ⟨hq,rfl,hl_1,h0_1,h1_1,h5_1,h6_1,h7_1,h8_1,h9_1,h10_1⟩ hlt2 hw2 s2 ho2;unfold F131_2_B at ho2;obtain⟨x3,gx3,ho2⟩:=bS ho2;obtain⟨x3a,x3b⟩:=getI_w gx3;obtain⟨m3,gm3,ho2⟩:=bS ho2;have wm3:=chk_w gm3;obtain⟨z3,gz3,ho2⟩:=bS ho2;obtain⟨wz30,wz3⟩:=rem_w gz3;obtain⟨q2,gq2,ho2⟩:=bS ho2;obtain⟨s31,s32,s33,s34,s35⟩:=setI_w gq2;have hE:=Option.some.inj ho2; subst hE;have o3:ofCells none (List.drop k.toNat (q.map Enc.enc))=some (V.int .i64 x3):=ofCells_drop (by rw[List.getElem?_map,x3b]; rfl);have hk3:k < (own.length:Int):=hlt2;have s35':List.take k.toNat (q.map Enc.enc)++[V.int .i64 z3]++List.drop (k.toNat+1) (q.map Enc.enc)=List.map Enc.enc q2:=s35;simp only[simprocAttr, -Int.reduceNatCast',R1,b131_2,hl_1,h0_1,h1_1,h5_1,h6_1,h7_1,h8_1,h9_1,h10_1,hw2,eq_true hlt2,get_last,set_last,x3a,o3,wm3,wz30,wz3,s33,s35'];refine ai rfl ⟨by omega,rfl,?_⟩;simp only[simprocAttr, -Int.reduceNatCast',R1,hl_1,h0_1,h1_1,h5_1,h6_1,h7_1,h8_1,h9_1,h10_1,hw2]
   ·clear hl_1 h0_1 h1_1 h5_1 h6_1
    rintro k q e h ⟨hq,rfl,hl_1,h0_1,h1_1,h5_1,h6_1,h7_1,h8_1,h9_1,h10_1⟩ hge2 t2 ho2;unfold F131_2_D at ho2;have hE:=Option.some.inj ho2; subst hE;simp only[simprocAttr, -Int.reduceNatCast',R1,b131_2,hl_1,h0_1,h1_1,h5_1,h6_1,h7_1,h8_1,h9_1,h10_1,eq_false hge2,le1];intro ht; subst ht;show W A (.block 4 (.loop true b131_3)) _ _ _;rw[W_block];refine W_forR gs _ rfl (fun k s e h=>∃un vn,h.ents[E.length+1]? =some (un,some vn)∧Rws h.ents (fun k=> k≠E.length+1) vn s.1∧h.ents[E.length]? =some (c,some (q.map Enc.enc))∧(∀k,k < E.length→h.ents[k]? =E[k]?)∧e.length=102∧e.at 0=V.int .i64 p∧e.at 1=V.isl (rows.map Enc.enc)∧e.at 5=V.sl ko uo 0 out.length 1∧e.at 6=V.int .i64 i∧e.at 7=V.sl E.length c 0 q.length 1∧e.at 8=V.int .i64 at_∧e.at 11=V.sl (E.length+1) un 0 s.1.length 1∧e.at 12=V.bool s.2∧e.at 13=V.int .i64 k) ?_ ?_ ?_
    ·refine⟨c+1,[],ge2b ..,.nil,ge2a ..,fun k hk=> by rw[List.append_assoc]; exact List.getElem?_append_left hk,?_⟩
     simp only[simprocAttr, -Int.reduceNatCast',R1,hl_1,h0_1,h1_1,h5_1,h6_1,h7_1,h8_1,h9_1,h10_1,hq]
    ·clear hl_1 h0_1 h1_1 h5_1 h6_1 h7_1 h8_1 h9_1 h10_1
     rintro k ⟨nx,put⟩ e ⟨E3,c3⟩ ⟨un,vn,f1,f2,f3,f4,hl_1,h0_1,h1_1,h5_1,h6_1,h7_1,h8_1,h11_1,h12_1,h13_1⟩ hlt3 hw3 s3 ho3;unfold F131_3_B at ho3;simp only at f1 f2 f3 f4 h11_1 h12_1 ho3;obtain⟨cnd,gcnd,ho3⟩:=bS ho3;obtain⟨st,gst,ho3⟩:=bS ho3;obtain⟨o,go,ho3⟩:=bS ho3;obtain⟨oa,ob⟩:=getI_w go;have oc:=getI_lt go;obtain⟨y,gy,ho3⟩:=bS ho3;obtain⟨ya,yb⟩:=getI_w gy;have yc:=getI_lt gy;obtain⟨qq,gqq,ho3⟩:=bS ho3;have wqq:tans A 136 [1] [V.int .i64 p,V.isl (o.map Enc.enc),V.isl (q.map Enc.enc),V.int .i64 y]=some (V.isl (qq.map Enc.enc)):=t136 p o q y gqq;have wbq:=bare_one (α:=Int) qq;obtain⟨nn,gnn,ho3⟩:=bS ho3;have hE:=Option.some.inj ho3; subst hE;have hN1:E.length+1 < E3.length:=(List.getElem?_eq_some_iff.1 f1).1;have k1:E3[ko]? =some (uo,some vs):=(f4 ko hko).trans g1;obtain⟨v,v1,v2⟩:=g2.get ob;have ov:=ofCells_drop v1;have oy:ofCells none (List.drop at_.toNat (o.map Enc.enc))=some (V.int .i64 y):=ofCells_drop (by rw[List.getElem?_map,yb]; rfl);have v3:RRep E3 (fun k=> k < E.length) v o:=v2.frame fun k hk _=>⟨f4 k hk,hk⟩
     -- in any memory that keeps the rows
     have step:∀ (E4:List (Nat×Option (List V))) (c4 un4:Nat) (vn4:List V),E4[E.length+1]? =some (un4,some vn4)→Rws E4 (fun k=> k≠E.length+1) vn4 st.1→E4[E.length]? =some (c,some (q.map Enc.enc))→(∀k,k < E.length→E4[k]? =E[k]?)→
       E4[ko]? =some (uo,some vs)∧frz ⟨E4,c4⟩ 16 v=some (V.isl (o.map Enc.enc))∧frz ⟨E4,c4⟩ 16 (V.sl E.length c 0 q.length 1)=some (V.isl (q.map Enc.enc))∧
       appendV 1 24 (.sl (E.length+1) un4 0 st.1.length 1) 1 [V.sl E4.length c4 0 qq.length 1] ⟨E4++[(c4,some (qq.map Enc.enc))]++[(c4+1,some [V.sl E4.length c4 0 qq.length 1])],c4+1+1⟩=some (.sl (E.length+1) (c4+1+1) 0 (st.1.length+1) 1,⟨(E4++[(c4,some (qq.map Enc.enc))]++[(c4+1,some [V.sl E4.length c4 0 qq.length 1])]).set (E.length+1) (c4+1+1,some (vn4++[V.sl E4.length c4 0 qq.length 1])),c4+1+1+1⟩)∧
       RRep E4 (fun k=> k < E.length) v o∧
       (((E4++[(c4,some (qq.map Enc.enc))]++[(c4+1,some [V.sl E4.length c4 0 qq.length 1])]).set (E.length+1) (c4+1+1,some (vn4++[V.sl E4.length c4 0 qq.length 1])))[E.length+1]? =some (c4+1+1,some (vn4++[V.sl E4.length c4 0 qq.length 1]))∧
       Rws ((E4++[(c4,some (qq.map Enc.enc))]++[(c4+1,some [V.sl E4.length c4 0 qq.length 1])]).set (E.length+1) (c4+1+1,some (vn4++[V.sl E4.length c4 0 qq.length 1]))) (fun k=> k≠E.length+1) (vn4++[V.sl E4.length c4 0 qq.length 1]) nn∧
       ((E4++[(c4,some (qq.map Enc.enc))]++[(c4+1,some [V.sl E4.length c4 0 qq.length 1])]).set (E.length+1) (c4+1+1,some (vn4++[V.sl E4.length c4 0 qq.length 1])))[E.length]? =some (c,some (q.map Enc.enc))∧
       (∀k,k < E.length→((E4++[(c4,some (qq.map Enc.enc))]++[(c4+1,some [V.sl E4.length c4 0 qq.length 1])]).set (E.length+1) (c4+1+1,some (vn4++[V.sl E4.length c4 0 qq.length 1])))[k]? =E[k]?)∧nn.length=st.1.length+1):=by
      intro E4 c4 un4 vn4 a1 a2 a3 a4;have hN4:E.length+1 < E4.length:=(List.getElem?_eq_some_iff.1 a1).1;obtain⟨p1,p2,rfl⟩:=app_w gnn;have pre:∀x y (k:Nat),k < E4.length→(E4++[x]++[y])[k]? =E4[k]?:=fun x y k hk=> by rw[List.append_assoc]; exact List.getElem?_append_left hk
      refine⟨(a4 ko hko).trans g1,(v2.frame (B':=fun _=> True) fun k hk _=>⟨a4 k hk,trivial⟩).fz c4 10,frz_row a3,appendV_deep (E:=E4++[(c4,some (qq.map Enc.enc))]++[(c4+1,some [V.sl E4.length c4 0 qq.length 1])]) ((pre _ _ _ hN4).trans a1) a2.len (by simpa using p1) (by simpa using p2),v2.frame fun k hk _=>⟨a4 k hk,hk⟩,set_app_key (by simp; omega),?_,?_,fun k hk=>?_,by simp⟩
      ·exact(a2.frame fun k hk hne=>⟨(set_ne hne).trans (pre _ _ k hk),hne⟩).snoc ⟨_,_,rfl,(set_ne (by omega)).trans (ge2a ..),by omega⟩
      ·exact(set_ne (by omega)).trans ((pre _ _ _ (by omega)).trans a3)
      ·exact(set_ne (by omega)).trans ((pre _ _ k (by omega)).trans (a4 k hk))
     have hoc:k < (out.length:Int):=oc;cases put with
     |true=>
      unfold F131_3_C at gcnd;rw[if_pos rfl]at gcnd;cases gcnd;rw[if_neg Bool.false_ne_true]at gst;cases gst;obtain⟨b1,b2,b3,b4,b5,b6,b7,b8,b9,b10⟩:=step E3 c3 un vn f1 f2 f3 f4;simp only at b4 b10;obtain⟨kv,uv,rfl,w2,w3⟩:=b5;simp only[simprocAttr, -Int.reduceNatCast',R1,b131_3,hl_1,h0_1,h1_1,h5_1,h6_1,h7_1,h8_1,h11_1,h12_1,h13_1,hw3,eq_true hlt3,oa,k1,ov,ya,eq_true yc,oy,w2,b2,b3,wqq,wbq,callM_tans,thaw_one,le1,get_last,ge2a,ge2b,b4];refine ai rfl ⟨_,_,b6,b7,b8,b9,?_⟩;simp only[simprocAttr, -Int.reduceNatCast',R1,hl_1,h0_1,h1_1,h5_1,h6_1,h7_1,h8_1,h11_1,h12_1,h13_1,hw3,b10]
     |false=>
      unfold F131_3_C at gcnd;rw[if_neg Bool.false_ne_true,go,Option.bind_some]at gcnd;obtain⟨ld,gld,gcnd⟩:=bS gcnd;have wld:ans A 81 [V.isl (o.map Enc.enc)]=some (V.int .i64 ld):=s81 o gld;have hE:=Option.some.inj gcnd; subst hE;have wfv:=(v2.frame (E':=E3) (B':=fun _=> True) fun k hk _=>⟨f4 k hk,trivial⟩).fz c3 10;by_cases hld:at_ < ld
      ·rw[if_pos (by simpa using hld)]at gst
       obtain⟨n1,gn1,gst⟩:=bS gst;obtain⟨p1,p2,rfl⟩:=app_w gn1;have hE:=Option.some.inj gst; subst hE;have wap:appendV 1 24 (.sl (E.length+1) un 0 nx.length 1) 1 [V.sl E.length c 0 q.length 1] ⟨E3++[(c3,some [V.sl E.length c 0 q.length 1])],c3+1⟩=_:=appendV_deep (E:=E3++[(c3,some [V.sl E.length c 0 q.length 1])]) (by rw[List.getElem?_append_left hN1]; exact f1) f2.len (by simpa using p1) (by simpa using p2);have r1:Rws ((E3++[(c3,some [V.sl E.length c 0 q.length 1])]).set (E.length+1) (c3+1,some (vn++[V.sl E.length c 0 q.length 1]))) (fun k=> k≠E.length+1) (vn++[V.sl E.length c 0 q.length 1]) (nx++[q]):=
        (f2.frame fun k hk hne=>⟨(set_ne hne).trans (List.getElem?_append_left hk),hne⟩).snoc ⟨_,_,rfl,(set_ne (by omega)).trans ((List.getElem?_append_left (by omega)).trans f3),by omega⟩
       have hln:(nx++[q]).length=nx.length+1:=by simp
       obtain⟨b1,b2,b3,b4,b5,b6,b7,b8,b9,b10⟩:=step ((E3++[(c3,some [V.sl E.length c 0 q.length 1])]).set (E.length+1) (c3+1,some (vn++[V.sl E.length c 0 q.length 1]))) (c3+1+1) (c3+1) (vn++[V.sl E.length c 0 q.length 1]) (set_app_key (by simp; omega)) r1 ((set_ne (by omega)).trans ((List.getElem?_append_left (by omega)).trans f3)) (fun k hk=>(set_ne (by omega)).trans ((List.getElem?_append_left (by omega)).trans (f4 k hk)));have hlb:((E3++[(c3,some [V.sl E.length c 0 q.length 1])]).set (E.length+1) (c3+1,some (vn++[V.sl E.length c 0 q.length 1]))).length=E3.length+1:=by simp
       have hge:=fun y z=> ge2b ((E3++[(c3,some [V.sl E.length c 0 q.length 1])]).set (E.length+1) (c3+1,some (vn++[V.sl E.length c 0 q.length 1]))) y z;simp only[hlb]at hge;simp only[hln,hlb]at b4 b6 b7 b8 b9 b10;obtain⟨kv,uv,rfl,w2,w3⟩:=b5;simp only[simprocAttr, -Int.reduceNatCast',R1,b131_3,hl_1,h0_1,h1_1,h5_1,h6_1,h7_1,h8_1,h11_1,h12_1,h13_1,hw3,eq_true hlt3,oa,k1,ov,wfv,wld,eq_true hld,ya,eq_true yc,oy,w2,b1,b2,b3,wap,wqq,wbq,callM_tans,thaw_one,le1,hlb,hge,get_last,ge2a,ge2b,b4];refine ai rfl ⟨_,_,b6,b7,b8,b9,?_⟩;simp only[simprocAttr, -Int.reduceNatCast',R1,hl_1,h0_1,h1_1,h5_1,h6_1,h7_1,h8_1,h11_1,h12_1,h13_1,hw3,b10]
      ·rw[if_neg (by simpa using hld)]at gst
       have hE:=Option.some.inj gst; subst hE;obtain⟨b1,b2,b3,b4,b5,b6,b7,b8,b9,b10⟩:=step E3 c3 un vn f1 f2 f3 f4;simp only at b4 b10;obtain⟨kv,uv,rfl,w2,w3⟩:=b5;simp only[simprocAttr, -Int.reduceNatCast',R1,b131_3,hl_1,h0_1,h1_1,h5_1,h6_1,h7_1,h8_1,h11_1,h12_1,h13_1,hw3,eq_true hlt3,oa,k1,ov,wfv,wld,eq_false hld,ya,eq_true yc,oy,w2,b2,b3,wqq,wbq,callM_tans,thaw_one,le1,get_last,ge2a,ge2b,b4];refine ai rfl ⟨_,_,b6,b7,b8,b9,?_⟩;simp only[simprocAttr, -Int.reduceNatCast',R1,hl_1,h0_1,h1_1,h5_1,h6_1,h7_1,h8_1,h11_1,h12_1,h13_1,hw3,b10]
    ·clear hl_1 h0_1 h1_1 h5_1 h6_1 h7_1 h8_1 h9_1 h10_1
     rintro k ⟨nx,put⟩ e ⟨E3,c3⟩ ⟨un,vn,f1,f2,f3,f4,hl_1,h0_1,h1_1,h5_1,h6_1,h7_1,h8_1,h11_1,h12_1,h13_1⟩ hge3 t3 ho3;unfold F131_3_D at ho3;have hE:=Option.some.inj ho3; subst hE;simp only at f1 f2 f3 f4 h11_1 h12_1;have hN1:E.length+1 < E3.length:=(List.getElem?_eq_some_iff.1 f1).1;cases put with
     |true=>
      simp only[simprocAttr, -Int.reduceNatCast',R1,b131_3,hl_1,h0_1,h1_1,h5_1,h6_1,h7_1,h8_1,h11_1,h12_1,h13_1,eq_false hge3,hw];intro ht; subst ht;simp only[if_true]at ho;have hE:=Option.some.inj ho; subst hE;refine ai rfl ⟨E.length+1,un,vn,f1,f2.frame fun k hk _=>⟨rfl,trivial⟩,?_⟩;simp only[simprocAttr, -Int.reduceNatCast',R1,hl_1,h0_1,h1_1,h5_1,h6_1,h7_1,h8_1,h11_1,h12_1,h13_1]
     |false=>
      simp only[simprocAttr, -Int.reduceNatCast',R1,b131_3,hl_1,h0_1,h1_1,h5_1,h6_1,h7_1,h8_1,h11_1,h12_1,h13_1,eq_false hge3,hw,le1,get_last];intro ht; subst ht;rw[if_neg Bool.false_ne_true]at ho;obtain⟨n1,gn1,ho⟩:=bS ho;obtain⟨p1,p2,rfl⟩:=app_w gn1;have hE:=Option.some.inj ho; subst hE;have wap:appendV 1 24 (.sl (E.length+1) un 0 nx.length 1) 1 [V.sl E.length c 0 q.length 1] ⟨E3++[(c3,some [V.sl E.length c 0 q.length 1])],c3+1⟩=_:=appendV_deep (E:=E3++[(c3,some [V.sl E.length c 0 q.length 1])]) (by rw[List.getElem?_append_left hN1]; exact f1) f2.len (by simpa using p1) (by simpa using p2);have r1:Rws ((E3++[(c3,some [V.sl E.length c 0 q.length 1])]).set (E.length+1) (c3+1,some (vn++[V.sl E.length c 0 q.length 1]))) (fun k=> k≠E.length+1) (vn++[V.sl E.length c 0 q.length 1]) (nx++[q]):=
       (f2.frame fun k hk hne=>⟨(set_ne hne).trans (List.getElem?_append_left hk),hne⟩).snoc ⟨_,_,rfl,(set_ne (by omega)).trans ((List.getElem?_append_left (by omega)).trans f3),by omega⟩
      simp only[simprocAttr, -Int.reduceNatCast',R1,b131_3,hl_1,h0_1,h1_1,h5_1,h6_1,h7_1,h8_1,h11_1,h12_1,h13_1,eq_false hge3,hw,le1,get_last,wap];refine ai rfl ⟨E.length+1,c3+1,_,set_app_key (by simp; omega),r1.frame fun k hk _=>⟨rfl,trivial⟩,?_⟩;simp only[simprocAttr, -Int.reduceNatCast',R1,hl_1,h0_1,h1_1,h5_1,h6_1,h7_1,h8_1,h11_1,h12_1,h13_1,List.length_append]
 ·clear hl_0 h0_0 h1_0
  rintro i out e ⟨E,c⟩ ⟨ko,uo,vs,g1,g2,hl_1,h0_1,h1_1,h5_1,h6_1⟩ hge t1 ho;unfold F131_1_D at ho;have hE:=Option.some.inj ho; subst hE;simp only at g1 g2;simp only[simprocAttr, -Int.reduceNatCast',R1,b131_1,hl_1,h0_1,h1_1,h5_1,h6_1,eq_false hge];intro ht; subst ht;refine ai (fun _=> trivial) ⟨_,?_,ko,uo,vs,rfl,g1,g2⟩;simp only[simprocAttr, -Int.reduceNatCast',R1,fn_out,p131,Rs.ev,hl_1,h5_1]
theorem s131(p:Int)(rows:List (List Int)){r:List (List Int)}(hF:F131 p rows=some r):ans A 131 [V.int .i64 p,V.isl (rows.map Enc.enc)]=some (Enc.enc r):=by
 obtain⟨_,h',h1,k,u,vs,rfl,h2,h3⟩:=d131 p rows hF;have:=h3.fz h'.clk h2;unfold ans;rw[h1];exact this
def F122_1_B(a0:Int)(a1:Int)(a2:List (List Int))(v9_1:Int)(s:(List (List Int))×Int):Option (((List (List Int))×Int)⊕((List (List Int))×Int)):=
 match s with
 |(o0_1,v8_1)=>
  (mkL 8 a1 0).bind fun l5=>
  (getI l5 v9_1).bind fun x7=>
  (setI l5 v9_1 1).bind fun l9=>
  (getI a2 v9_1).bind fun x11=>
  (F94 x11).bind fun x13=>
  (app 8 x13 l9).bind fun l16=>
  (app 24 o0_1 [l16]).bind fun l18=>
  some (.inl (l18,(x11.length:Int)))
def F122_1_D(a0:Int)(a1:Int)(a2:List (List Int))(v9_1:Int)(s:(List (List Int))×Int):Option ((List (List Int))×Int):=
 match s with
 |(o0_1,v8_1)=>
  some (o0_1,v8_1)
def F122_2_B(zv8_1:Int)(x20:List (List Int))(v13_2:Int)(o1_2:(List (List Int))):Option (((List (List Int)))⊕((List (List Int)))):=
 (getI x20 v13_2).bind fun x26=>
(F81 x26).bind fun x28=>
if zv8_1≤x28 then
 (slI x26 zv8_1 (x26.length:Int)).bind fun l31=>
 (F94 l31).bind fun x33=>
 (app 24 o1_2 [x33]).bind fun l36=>
 some (.inl l36)
else
 some (.inl o1_2)
def F122_2_D(zv8_1:Int)(x20:List (List Int))(v13_2:Int)(o1_2:(List (List Int))):Option ((List (List Int))):=
 some o1_2
def F122(a0:Int)(a1:Int)(a2:List (List Int)):Option (List (List Int)):=
 (forR 0 a1 (F122_1_B a0 a1 a2) (F122_1_D a0 a1 a2) ([],0)).bind fun t19=> match t19 with
  |(zo0_1,zv8_1)=>
   (F131 a0 zo0_1).bind fun x20=>
   (forR 0 (x20.length:Int) (F122_2_B zv8_1 x20) (F122_2_D zv8_1 x20) ([]:(List (List Int)))).bind fun zo1_2=>
   some zo1_2
def I122_1(a0:Int)(a1:Int)(a2:List (List Int))(v9_1:Int)(s:(List (List Int))×Int)(e:Env)(h:Heap):Prop:=
 match s with
 |(o0_1,v8_1)=>
  ∃u2 k3:Nat,h=⟨[(u2,some (o0_1.map Enc.enc))],k3⟩∧e.length=68∧e.at 0=V.int .i64 a0∧e.at 1=V.int .i64 a1∧e.at 2=V.isl (a2.map Enc.enc)∧e.at 7=V.sl 0 u2 0 o0_1.length 1∧e.at 8=V.int .i64 v8_1∧e.at 9=V.int .i64 v9_1
def P122_1(a0:Int)(a1:Int)(a2:List (List Int))(t:(List (List Int))×Int)(x:Ex)(e:Env)(h:Heap):Prop:=
 match t with
 |(zo0_1,zv8_1)=>
  x= .normal∧∃u2 k3:Nat,h=⟨[(u2,some (zo0_1.map Enc.enc))],k3⟩∧e.length=68∧e.at 0=V.int .i64 a0∧e.at 7=V.sl 0 u2 0 zo0_1.length 1∧e.at 8=V.int .i64 zv8_1
theorem l122_1(a0:Int)(a1:Int)(a2:List (List Int)){lo:Int}{s:(List (List Int))×Int}{t:(List (List Int))×Int}(hF:forR lo a1 (F122_1_B a0 a1 a2) (F122_1_D a0 a1 a2) s=some t){e:Env}{h:Heap}(hI:I122_1 a0 a1 a2 lo s e h):W A c122_1 e h (P122_1 a0 a1 a2 t):=by
 show W A (.block 0 (.loop false b122_1)) e h _;rw[W_block];refine W_forR hF 1 (by rcases s with⟨_,_⟩; obtain⟨_,_,rfl,_⟩:=hI; rfl) (I122_1 a0 a1 a2) hI ?_ ?_
 ·rintro v9_1 ⟨o0_1,v8_1⟩ e h ⟨u2,k3,rfl,h_1⟩ hlt hw o ho
  unfold F122_1_B at ho;dsimp only at ho;obtain⟨l5,gl5,ho⟩:=bS ho;obtain⟨w6a,w6b,w6c,w6d,w6e⟩:=mkL_w gl5;replace w6e:(List.replicate (Int.toNat a1) [V.int .i64 0]).flatten=List.map Enc.enc l5:=w6e;obtain⟨x7,gx7,ho⟩:=bS ho;obtain⟨w8a,w8b⟩:=getI_w gx7;have w8c:=getI_lt gx7;replace w8c:v9_1 < (((Int.toNat a1):Nat):Int):=by first|exact w8c|(simp only[w6d]at w8c ⊢; exact w8c)
  have w8d:List.drop (Int.toNat v9_1) (l5.map Enc.enc)=(V.int .i64 x7)::List.drop ((Int.toNat v9_1)+1) (l5.map Enc.enc):=drop_enc w8b;obtain⟨l9,gl9,ho⟩:=bS ho;obtain⟨w10a,w10b,w10c,w10d,w10e⟩:=setI_w gl9;replace w10e:List.take (Int.toNat v9_1) (l5.map Enc.enc)++[V.int .i64 1]++List.drop (Int.toNat v9_1+1) (l5.map Enc.enc)=List.map Enc.enc l9:=w10e;obtain⟨x11,gx11,ho⟩:=bS ho;obtain⟨w12a,w12b⟩:=getI_w gx11;obtain⟨x13,gx13,ho⟩:=bS ho;have w14:tans A 94 [1] [V.isl (x11.map Enc.enc)]=some (V.isl (x13.map Enc.enc)):=t94 x11 gx13;have w14t:=thaw_one (α:=Int) x13;obtain⟨l16,gl16,ho⟩:=bS ho;have w15:=fun a b c d e=> appendV_w (α:=Int) (n:=x13.length) (m:=(Int.toNat a1)) (ds:=List.map Enc.enc l9) gl16 (by first|rfl|simp only[w6d,w10d]) (by first|rfl|simp only[w6d,w10d]) rfl a b c d e;have w15l:=app_len gl16;obtain⟨l18,gl18,ho⟩:=bS ho;have w17:=fun a b c d e=> appendV_w (α:=List Int) (n:=o0_1.length) (m:=1) (ds:=[V.isl (l16.map Enc.enc)]) gl18 (by first|rfl|simp only[w6d,w10d]) (by first|rfl|simp only[w6d,w10d]) rfl a b c d e;have w17l:=app_len gl18;cases ho;simp only[simprocAttr, -Int.reduceNatCast',R0,b122_1,h_1,eq_true hlt,hw,w6a,w6b,w6c,w6e,w8a,w8b,w8c,w8d,w10a,w10b,w10c,w10e,w12a,w12b,w14,w14t,take_len (α:=Int) (l:=l9) (n:=(Int.toNat a1)) (by first|rfl|simp only[w6d,w10d]),eq_true (le_of_len (l:=l9) (n:=(Int.toNat a1)) (by first|rfl|simp only[w6d,w10d])),w15,takes (α:=Int) l16,w17];refine ai rfl (ei _ (ei _ (ai rfl ?_)));simp only[simprocAttr, -Int.reduceNatCast',R0,h_1,eq_true hlt,hw,w6a,w6b,w6c,w6e,w8a,w8b,w8c,w8d,w10a,w10b,w10c,w10e,w12a,w12b,w14,w14t,take_len (α:=Int) (l:=l9) (n:=(Int.toNat a1)) (by first|rfl|simp only[w6d,w10d]),eq_true (le_of_len (l:=l9) (n:=(Int.toNat a1)) (by first|rfl|simp only[w6d,w10d])),w15,takes (α:=Int) l16,w17,w6d,w10d]
 ·rintro v9_1 ⟨o0_1,v8_1⟩ e h ⟨u2,k3,rfl,h_1⟩ hge t1 ho
  unfold F122_1_D at ho;dsimp only at ho;cases ho;simp only[simprocAttr, -Int.reduceNatCast',R0,b122_1,h_1,eq_false hge];intro ht; subst ht;refine ai rfl (ei _ (ei _ (ai rfl ?_)));simp only[simprocAttr, -Int.reduceNatCast',R0,h_1,eq_false hge]
def I122_2(zv8_1:Int)(x20:List (List Int))(v13_2:Int)(o1_2:(List (List Int)))(e:Env)(h:Heap):Prop:=
 ∃u23 k24:Nat,h=⟨[(0,none),(u23,some (o1_2.map Enc.enc))],k24⟩∧e.length=68∧e.at 8=V.int .i64 zv8_1∧e.at 11=V.isl (x20.map Enc.enc)∧e.at 12=V.sl 1 u23 0 o1_2.length 1∧e.at 13=V.int .i64 v13_2
def P122_2(zv8_1:Int)(x20:List (List Int))(zo1_2:(List (List Int)))(x:Ex)(e:Env)(h:Heap):Prop:=
 x= .normal∧∃u23 k24:Nat,h=⟨[(0,none),(u23,some (zo1_2.map Enc.enc))],k24⟩∧e.length=68∧e.at 12=V.sl 1 u23 0 zo1_2.length 1
theorem l122_2(zv8_1:Int)(x20:List (List Int)){lo:Int}{s:(List (List Int))}{t:(List (List Int))}(hF:forR lo (x20.length:Int) (F122_2_B zv8_1 x20) (F122_2_D zv8_1 x20) s=some t){e:Env}{h:Heap}(hI:I122_2 zv8_1 x20 lo s e h):W A c122_2 e h (P122_2 zv8_1 x20 t):=by
 show W A (.block 2 (.loop false b122_2)) e h _;rw[W_block];refine W_forR hF 2 (by obtain⟨_,_,rfl,_⟩:=hI; rfl) (I122_2 zv8_1 x20) hI ?_ ?_
 ·rintro v13_2 o1_2 e h ⟨u23,k24,rfl,h_22⟩ hlt hw o ho
  unfold F122_2_B at ho;obtain⟨x26,gx26,ho⟩:=bS ho;obtain⟨w27a,w27b⟩:=getI_w gx26;obtain⟨x28,gx28,ho⟩:=bS ho;have w29:ans A 81 [V.isl (x26.map Enc.enc)]=some (V.int .i64 x28):=s81 x26 gx28;by_cases c30:zv8_1≤x28
  ·rw[if_pos c30]at ho
   obtain⟨l31,gl31,ho⟩:=bS ho;have w32:sliceV 1 (V.isl (x26.map Enc.enc)) (some (V.int .i64 zv8_1)) none=some (V.isl (l31.map Enc.enc)):=sliceV_w (α:=Int) One.one gl31 (.inr rfl) (.inl ⟨rfl,rfl⟩);obtain⟨x33,gx33,ho⟩:=bS ho;have w34:ans A 94 [V.isl (l31.map Enc.enc)]=some (V.isl (x33.map Enc.enc)):=s94 l31 gx33;obtain⟨l36,gl36,ho⟩:=bS ho;have w35:=fun a b c d e=> appendV_w (α:=List Int) (n:=o1_2.length) (m:=1) (ds:=[V.isl (x33.map Enc.enc)]) gl36 (by first|rfl|simp) (by first|rfl|simp) rfl a b c d e;have w35l:=app_len gl36;cases ho;simp only[simprocAttr,R0,b122_2,h_22,eq_true hlt,hw,w27a,w27b,w29,eq_true c30,w32,w34,w35];refine ai rfl (ei _ (ei _ (ai rfl ?_)));simp only[simprocAttr,R0,h_22,eq_true hlt,hw,w27a,w27b,w29,eq_true c30,w32,w34,w35]
  ·rw[if_neg c30]at ho
   cases ho;simp only[simprocAttr,R0,b122_2,h_22,eq_true hlt,hw,w27a,w27b,w29,eq_false c30];refine ai rfl (ei _ (ei _ (ai rfl ?_)));simp only[simprocAttr,R0,h_22,eq_true hlt,hw,w27a,w27b,w29,eq_false c30]
 ·rintro v13_2 o1_2 e h ⟨u23,k24,rfl,h_22⟩ hge t1 ho
  unfold F122_2_D at ho;cases ho;simp only[simprocAttr,R0,b122_2,h_22,eq_false hge];intro ht; subst ht;refine ai rfl (ei _ (ei _ (ai rfl ?_)));simp only[simprocAttr,R0,h_22,eq_false hge]
theorem s122(a0:Int)(a1:Int)(a2:List (List Int)){r:List (List Int)}(hF:F122 a0 a1 a2=some r):ans A 122 [V.int .i64 a0,V.int .i64 a1,V.isl (a2.map Enc.enc)]=some (Enc.enc r):=by
 refine ans_of (f:=p122) rfl rfl rfl fun e hl he=>?_;have h0_0:e.at 0=V.int .i64 a0:=he 0 _ rfl;have h1_0:e.at 1=V.int .i64 a1:=he 1 _ rfl;have h2_0:e.at 2=V.isl (a2.map Enc.enc):=he 2 _ rfl;have hl_0:e.length=68:=hl;clear he hl;show W A b122 e ⟨[],0⟩ _;unfold F122 at hF;obtain⟨⟨zo0_1,zv8_1⟩,gt19,hF⟩:=bS hF;dsimp only at hF;simp only[simprocAttr, -Int.reduceNatCast',R0,b122,hl_0,h0_0,h1_0,h2_0];refine W.mono (l122_1 a0 a1 a2 gt19 (ei _ (ei _ (ai rfl ?_)))) ?_
 ·simp only[simprocAttr, -Int.reduceNatCast',R0,hl_0,h0_0,h1_0,h2_0]
 rintro _ e _ ⟨rfl,u2,k3,rfl,hl_4,h0_4,h7_4,h8_4⟩;obtain⟨x20,gx20,hF⟩:=bS hF;have w21:ans A 131 [V.int .i64 a0,V.isl (zo0_1.map Enc.enc)]=some (V.isl (x20.map Enc.enc)):=s131 a0 zo0_1 gx20;obtain⟨zo1_2,gt37,hF⟩:=bS hF;simp only[simprocAttr, -Int.reduceNatCast',R0,hl_4,h0_4,h7_4,h8_4,takes (α:=List Int) zo0_1,w21];refine W.mono (l122_2 zv8_1 x20 gt37 (ei _ (ei _ (ai rfl ?_)))) ?_
 ·simp only[simprocAttr, -Int.reduceNatCast',R0,hl_4,h0_4,h7_4,h8_4,takes (α:=List Int) zo0_1,w21]
 rintro _ e _ ⟨rfl,u23,k24,rfl,hl_25,h12_25⟩;have hE:=Option.some.inj hF; subst hE;simp only[simprocAttr, -Int.reduceNatCast',R0,hl_25,h12_25];exact fin_ret (by simp only[simprocAttr, -Int.reduceNatCast',R0,fn_out,p122,Rs.ev,take_len_self,hl_25,h12_25,frzs (α:=List Int) zo1_2,takes (α:=List Int) zo1_2])
def F98(a0:GComplex)(a1:Int):Option (List (List Int)):=
 (F99 a0 a1).bind fun x1=>
 (F76 a0 a1).bind fun x3=>
 (F122 a0.Prime x1 x3).bind fun x5=>
 some x5
theorem s98(a0:GComplex)(a1:Int){r:List (List Int)}(hF:F98 a0 a1=some r):ans A 98 [(eC a0),V.int .i64 a1]=some (Enc.enc r):=by
 refine ans_of (f:=p98) rfl rfl rfl fun e hl he=>?_;have h0_0:e.at 0=(eC a0):=he 0 _ rfl;have h1_0:e.at 1=V.int .i64 a1:=he 1 _ rfl;have hl_0:e.length=14:=hl;clear he hl;show W A b98 e ⟨[],0⟩ _;unfold F98 at hF;obtain⟨x1,gx1,hF⟩:=bS hF;have w2:ans A 99 [(eC a0),V.int .i64 a1]=some (V.int .i64 x1):=s99 a0 a1 gx1;obtain⟨x3,gx3,hF⟩:=bS hF;have w4:ans A 76 [(eC a0),V.int .i64 a1]=some (V.isl (x3.map Enc.enc)):=s76 a0 a1 gx3;obtain⟨x5,gx5,hF⟩:=bS hF;have w6:ans A 122 [V.int .i64 a0.Prime,V.int .i64 x1,V.isl (x3.map Enc.enc)]=some (V.isl (x5.map Enc.enc)):=s122 a0.Prime x1 x3 gx5;cases hF;simp only[simprocAttr,R0,b98,hl_0,h0_0,h1_0,w2,w4,w6];exact fin_ret (by simp only[simprocAttr,R0,fn_out,p98,Rs.ev,take_len_self,hl_0,h0_0,h1_0,w2,w4,w6])
def F251(a0:GComplex)(a1:Int):Option (List (List Int)):=
 (chk (a1+1)).bind fun x1=>
 (F76 a0 x1).bind fun x2=>
 (F131 a0.Prime x2).bind fun x4=>
 some x4
theorem s251(a0:GComplex)(a1:Int){r:List (List Int)}(hF:F251 a0 a1=some r):ans A 251 [(eC a0),V.int .i64 a1]=some (Enc.enc r):=by
 refine ans_of (f:=p251) rfl rfl rfl fun e hl he=>?_;have h0_0:e.at 0=(eC a0):=he 0 _ rfl;have h1_0:e.at 1=V.int .i64 a1:=he 1 _ rfl;have hl_0:e.length=12:=hl;clear he hl;show W A b251 e ⟨[],0⟩ _;unfold F251 at hF;obtain⟨x1,gx1,hF⟩:=bS hF;have wx1:=chk_w gx1;obtain⟨x2,gx2,hF⟩:=bS hF;have w3:ans A 76 [(eC a0),V.int .i64 x1]=some (V.isl (x2.map Enc.enc)):=s76 a0 x1 gx2;obtain⟨x4,gx4,hF⟩:=bS hF;have w5:ans A 131 [V.int .i64 a0.Prime,V.isl (x2.map Enc.enc)]=some (V.isl (x4.map Enc.enc)):=s131 a0.Prime x2 gx4;cases hF;simp only[simprocAttr,R0,b251,hl_0,h0_0,h1_0,wx1,w3,w5];exact fin_ret (by simp only[simprocAttr,R0,fn_out,p251,Rs.ev,take_len_self,hl_0,h0_0,h1_0,wx1,w3,w5])
def F250_1_B(a0:GComplex)(x1:List (List Int))(x3:List (List Int))(v8_1:Int)(o1_1:(List (List Int))):Option (((List (List Int)))⊕((List (List Int)))):=
 (getI x1 v8_1).bind fun x9=>
(F134 a0.Prime x3 x9).bind fun x11=>
(app 24 o1_1 [x11]).bind fun l14=>
some (.inl l14)
def F250_1_D(a0:GComplex)(x1:List (List Int))(x3:List (List Int))(v8_1:Int)(o1_1:(List (List Int))):Option ((List (List Int))):=
 some o1_1
def F250(a0:GComplex)(a1:Int):Option (List (List Int)):=
 (F98 a0 a1).bind fun x1=>
 (F251 a0 a1).bind fun x3=>
 (forR 0 (x1.length:Int) (F250_1_B a0 x1 x3) (F250_1_D a0 x1 x3) ([]:(List (List Int)))).bind fun zo1_1=>
 (F131 a0.Prime zo1_1).bind fun x16=>
 some x16
def I250_1(a0:GComplex)(x1:List (List Int))(x3:List (List Int))(v8_1:Int)(o1_1:(List (List Int)))(e:Env)(h:Heap):Prop:=
 ∃u6 k7:Nat,h=⟨[(0,none),(u6,some (o1_1.map Enc.enc))],k7⟩∧e.length=37∧e.at 2=V.iptr [V.int .i64 a0.Prime,V.isl (a0.Dims.map Enc.enc),V.isl (a0.Maps.map Enc.enc)]∧e.at 5=V.isl (x1.map Enc.enc)∧e.at 6=V.isl (x3.map Enc.enc)∧e.at 7=V.sl 1 u6 0 o1_1.length 1∧e.at 8=V.int .i64 v8_1
def P250_1(a0:GComplex)(x1:List (List Int))(x3:List (List Int))(zo1_1:(List (List Int)))(x:Ex)(e:Env)(h:Heap):Prop:=
 x= .normal∧∃u6 k7:Nat,h=⟨[(0,none),(u6,some (zo1_1.map Enc.enc))],k7⟩∧e.length=37∧e.at 2=V.iptr [V.int .i64 a0.Prime,V.isl (a0.Dims.map Enc.enc),V.isl (a0.Maps.map Enc.enc)]∧e.at 7=V.sl 1 u6 0 zo1_1.length 1
theorem l250_1(a0:GComplex)(x1:List (List Int))(x3:List (List Int)){lo:Int}{s:(List (List Int))}{t:(List (List Int))}(hF:forR lo (x1.length:Int) (F250_1_B a0 x1 x3) (F250_1_D a0 x1 x3) s=some t){e:Env}{h:Heap}(hI:I250_1 a0 x1 x3 lo s e h):W A c250_1 e h (P250_1 a0 x1 x3 t):=by
 show W A (.block 0 (.loop false b250_1)) e h _;rw[W_block];refine W_forR hF 2 (by obtain⟨_,_,rfl,_⟩:=hI; rfl) (I250_1 a0 x1 x3) hI ?_ ?_
 ·rintro v8_1 o1_1 e h ⟨u6,k7,rfl,h_5⟩ hlt hw o ho
  unfold F250_1_B at ho;obtain⟨x9,gx9,ho⟩:=bS ho;obtain⟨w10a,w10b⟩:=getI_w gx9;obtain⟨x11,gx11,ho⟩:=bS ho;have w12:ans A 134 [V.int .i64 a0.Prime,V.isl (x3.map Enc.enc),V.isl (x9.map Enc.enc)]=some (V.isl (x11.map Enc.enc)):=s134 a0.Prime x3 x9 gx11;obtain⟨l14,gl14,ho⟩:=bS ho;have w13:=fun a b c d e=> appendV_w (α:=List Int) (n:=o1_1.length) (m:=1) (ds:=[V.isl (x11.map Enc.enc)]) gl14 (by first|rfl|simp) (by first|rfl|simp) rfl a b c d e;have w13l:=app_len gl14;cases ho;simp only[simprocAttr,R0,b250_1,h_5,eq_true hlt,hw,w10a,w10b,w12,w13];refine ai rfl (ei _ (ei _ (ai rfl ?_)));simp only[simprocAttr,R0,h_5,eq_true hlt,hw,w10a,w10b,w12,w13]
 ·rintro v8_1 o1_1 e h ⟨u6,k7,rfl,h_5⟩ hge t1 ho
  unfold F250_1_D at ho;cases ho;simp only[simprocAttr,R0,b250_1,h_5,eq_false hge];intro ht; subst ht;refine ai rfl (ei _ (ei _ (ai rfl ?_)));simp only[simprocAttr,R0,h_5,eq_false hge]
theorem s250(a0:GComplex)(a1:Int){r:List (List Int)}(hF:F250 a0 a1=some r):ans A 250 [(eC a0),V.int .i64 a1]=some (Enc.enc r):=by
 refine ans_of (f:=p250) rfl rfl rfl fun e hl he=>?_;have h0_0:e.at 0=(eC a0):=he 0 _ rfl;have h1_0:e.at 1=V.int .i64 a1:=he 1 _ rfl;have hl_0:e.length=37:=hl;clear he hl;show W A b250 e ⟨[],0⟩ _;unfold F250 at hF;obtain⟨x1,gx1,hF⟩:=bS hF;have w2:ans A 98 [(eC a0),V.int .i64 a1]=some (V.isl (x1.map Enc.enc)):=s98 a0 a1 gx1;obtain⟨x3,gx3,hF⟩:=bS hF;have w4:ans A 251 [(eC a0),V.int .i64 a1]=some (V.isl (x3.map Enc.enc)):=s251 a0 a1 gx3;obtain⟨zo1_1,gt15,hF⟩:=bS hF;simp only[simprocAttr,R0,b250,hl_0,h0_0,h1_0,w2,w4];refine W.mono (l250_1 a0 x1 x3 gt15 (ei _ (ei _ (ai rfl ?_)))) ?_
 ·simp only[simprocAttr,R0,hl_0,h0_0,h1_0,w2,w4]
 rintro _ e _ ⟨rfl,u6,k7,rfl,h_8⟩;obtain⟨x16,gx16,hF⟩:=bS hF;have w17:ans A 131 [V.int .i64 a0.Prime,V.isl (zo1_1.map Enc.enc)]=some (V.isl (x16.map Enc.enc)):=s131 a0.Prime zo1_1 gx16;cases hF;simp only[simprocAttr,R0,h_8,takes (α:=List Int) zo1_1,w17];exact fin_ret (by simp only[simprocAttr,R0,fn_out,p250,Rs.ev,take_len_self,h_8,takes (α:=List Int) zo1_1,w17])
def F290_1_B(a2:List Int)(x1:List Int)(v9_1:Int)(o2_1:(List Int)):Option (((List Int))⊕((List Int))):=
 (getI x1 v9_1).bind fun x8=>
(getI a2 v9_1).bind fun x10=>
(ixI 8 x8).bind fun n12=>
(some (arW 8 o2_1 n12 (Go.IntKind.wrap .u8 x10))).bind fun l14=>
some (.inl l14)
def F290_1_D(a2:List Int)(x1:List Int)(v9_1:Int)(o2_1:(List Int)):Option ((List Int)):=
 some o2_1
def F290(a0:GDga)(a1:Int)(a2:List Int):Option (Ar .u8 8):=
 (F106 a0 a1).bind fun x1=>
 (forR 0 (x1.length:Int) (F290_1_B a2 x1) (F290_1_D a2 x1) ([]:(List Int))).bind fun zo2_1=>
 some ⟨zo2_1⟩
def I290_1(a2:List Int)(x1:List Int)(v9_1:Int)(o2_1:(List Int))(e:Env)(h:Heap):Prop:=
 ∃k6:Nat,h=⟨[(0,none),(1,some (arc .u8 8 [])),(2,some (arc .u8 8 o2_1))],k6⟩∧e.length=31∧e.at 2=V.isl (a2.map Enc.enc)∧e.at 6=V.ptr 1 1 0∧e.at 7=V.isl (x1.map Enc.enc)∧e.at 8=V.ptr 2 2 0∧e.at 9=V.int .i64 v9_1
def P290_1(a2:List Int)(x1:List Int)(zo2_1:(List Int))(x:Ex)(e:Env)(h:Heap):Prop:=
 x= .normal∧∃k6:Nat,h=⟨[(0,none),(1,some (arc .u8 8 [])),(2,some (arc .u8 8 zo2_1))],k6⟩∧e.length=31∧e.at 6=V.ptr 1 1 0∧e.at 8=V.ptr 2 2 0
theorem l290_1(a2:List Int)(x1:List Int){lo:Int}{s:(List Int)}{t:(List Int)}(hF:forR lo (x1.length:Int) (F290_1_B a2 x1) (F290_1_D a2 x1) s=some t){e:Env}{h:Heap}(hI:I290_1 a2 x1 lo s e h):W A c290_1 e h (P290_1 a2 x1 t):=by
 show W A (.block 0 (.loop false b290_1)) e h _;rw[W_block];refine W_forR hF 3 (by obtain⟨_,rfl,_⟩:=hI; rfl) (I290_1 a2 x1) hI ?_ ?_
 ·rintro v9_1 o2_1 e h ⟨k6,rfl,h_5⟩ hlt hw o ho
  unfold F290_1_B at ho;obtain⟨x8,gx8,ho⟩:=bS ho;obtain⟨w9a,w9b⟩:=getI_w gx8;obtain⟨x10,gx10,ho⟩:=bS ho;obtain⟨w11a,w11b⟩:=getI_w gx10;obtain⟨n12,gn12,ho⟩:=bS ho;obtain⟨w13a,w13b,w13c,w13d⟩:=ixI_w gn12;obtain⟨l14,gl14,ho⟩:=bS ho;have w15:List.take n12 (arc .u8 8 o2_1)++[V.int .u8 (Go.IntKind.wrap .u8 x10)]++List.drop (n12+1) (arc .u8 8 o2_1)=arc .u8 8 l14:=by rw[←Option.some.inj gl14]; exact arc_set (by omega)
  have w15l:n12+1≤8:=by omega
  cases ho;simp only[simprocAttr, -Int.reduceNatCast',R0,b290_1,h_5,eq_true hlt,hw,w9a,w9b,w11a,w11b,w13a,w13b,w13c,w15,eq_true w15l];refine ai rfl (ei _ (ai rfl ?_));simp only[simprocAttr, -Int.reduceNatCast',R0,h_5,eq_true hlt,hw,w9a,w9b,w11a,w11b,w13a,w13b,w13c,w15,eq_true w15l]
 ·rintro v9_1 o2_1 e h ⟨k6,rfl,h_5⟩ hge t1 ho
  unfold F290_1_D at ho;cases ho;simp only[simprocAttr, -Int.reduceNatCast',R0,b290_1,h_5,eq_false hge];intro ht; subst ht;refine ai rfl (ei _ (ai rfl ?_));simp only[simprocAttr, -Int.reduceNatCast',R0,h_5,eq_false hge]
theorem s290(a0:GDga)(a1:Int)(a2:List Int){r:Ar .u8 8}(hF:F290 a0 a1 a2=some r):ans A 290 [V.agg (ceGDga a0),V.int .i64 a1,V.isl (a2.map Enc.enc)]=some (Enc.enc r):=by
 refine ans_of (f:=p290) rfl rfl rfl fun e hl he=>?_;have h0_0:e.at 0=V.agg (ceGDga a0):=he 0 _ rfl;have h1_0:e.at 1=V.int .i64 a1:=he 1 _ rfl;have h2_0:e.at 2=V.isl (a2.map Enc.enc):=he 2 _ rfl;have hl_0:e.length=31:=hl;clear he hl;show W A b290 e ⟨[],0⟩ _;unfold F290 at hF;obtain⟨x1,gx1,hF⟩:=bS hF;have w2:ans A 106 [V.agg (ceGDga a0),V.int .i64 a1]=some (V.isl (x1.map Enc.enc)):=s106 a0 a1 gx1;have w4:List.drop 8 (arc .u8 8 [])=[]:=List.drop_eq_nil_of_le (by rw[arc_len]; exact Nat.le_refl _);obtain⟨zo2_1,gt16,hF⟩:=bS hF;simp only[simprocAttr,R0,b290,hl_0,h0_0,h1_0,h2_0,(show [V.int .u8 0,V.int .u8 0,V.int .u8 0,V.int .u8 0,V.int .u8 0,V.int .u8 0,V.int .u8 0,V.int .u8 0]=arc .u8 8 [] from rfl),w2,w4,List.append_nil];refine W.mono (l290_1 a2 x1 gt16 (ei _ (ai rfl ?_))) ?_
 ·simp only[simprocAttr,R0,hl_0,h0_0,h1_0,h2_0,(show [V.int .u8 0,V.int .u8 0,V.int .u8 0,V.int .u8 0,V.int .u8 0,V.int .u8 0,V.int .u8 0,V.int .u8 0]=arc .u8 8 [] from rfl),w2,w4,List.append_nil]
 rintro _ e _ ⟨rfl,k6,rfl,h_7⟩;have w19:List.drop 8 (arc .u8 8 [])=[]:=List.drop_eq_nil_of_le (by rw[arc_len]; exact Nat.le_refl _);cases hF;simp only[simprocAttr,R0,h_7,w19,List.append_nil];exact fin_ret (by simp only[simprocAttr,R0,fn_out,p290,Rs.ev,take_len_self,h_7,w19,List.append_nil])
def F252(a0:GDga)(a1:Int)(a2:List Int)(a3:Int)(a4:List Int):Option (List Int):=
 (chk (a1+a3)).bind fun x1=>
 (F290 a0 a1 a2).bind fun x2=>
 (F290 a0 a3 a4).bind fun x4=>
 (F199 a0 x2 x4).bind fun x6=>
 (F107 a0 x1 x6).bind fun x8=>
 some x8
theorem s252(a0:GDga)(a1:Int)(a2:List Int)(a3:Int)(a4:List Int){r:List Int}(hF:F252 a0 a1 a2 a3 a4=some r):ans A 252 [V.agg (ceGDga a0),V.int .i64 a1,V.isl (a2.map Enc.enc),V.int .i64 a3,V.isl (a4.map Enc.enc)]=some (Enc.enc r):=by
 refine ans_of (f:=p252) rfl rfl rfl fun e hl he=>?_;have h0_0:e.at 0=V.agg (ceGDga a0):=he 0 _ rfl;have h1_0:e.at 1=V.int .i64 a1:=he 1 _ rfl;have h2_0:e.at 2=V.isl (a2.map Enc.enc):=he 2 _ rfl;have h3_0:e.at 3=V.int .i64 a3:=he 3 _ rfl;have h4_0:e.at 4=V.isl (a4.map Enc.enc):=he 4 _ rfl;have hl_0:e.length=26:=hl;clear he hl;show W A b252 e ⟨[],0⟩ _;unfold F252 at hF;obtain⟨x1,gx1,hF⟩:=bS hF;have wx1:=chk_w gx1;obtain⟨x2,gx2,hF⟩:=bS hF;have w3:ans A 290 [V.agg (ceGDga a0),V.int .i64 a1,V.isl (a2.map Enc.enc)]=some (V.agg (arc .u8 8 x2.val)):=s290 a0 a1 a2 gx2;obtain⟨x4,gx4,hF⟩:=bS hF;have w5:ans A 290 [V.agg (ceGDga a0),V.int .i64 a3,V.isl (a4.map Enc.enc)]=some (V.agg (arc .u8 8 x4.val)):=s290 a0 a3 a4 gx4;obtain⟨x6,gx6,hF⟩:=bS hF;have w7:ans A 199 [V.agg (ceGDga a0),V.agg (arc .u8 8 x2.val),V.agg (arc .u8 8 x4.val)]=some (V.agg (arc .u8 8 x6.val)):=s199 a0 x2 x4 gx6;obtain⟨x8,gx8,hF⟩:=bS hF;have w9:ans A 107 [V.agg (ceGDga a0),V.int .i64 x1,V.agg (arc .u8 8 x6.val)]=some (V.isl (x8.map Enc.enc)):=s107 a0 x1 x6 gx8;cases hF;simp only[simprocAttr,R0,b252,hl_0,h0_0,h1_0,h2_0,h3_0,h4_0,wx1,w3,w5,w7,w9];exact fin_ret (by simp only[simprocAttr,R0,fn_out,p252,Rs.ev,take_len_self,hl_0,h0_0,h1_0,h2_0,h3_0,h4_0,wx1,w3,w5,w7,w9])
def F230_1_B(x4:GFiltered)(x32:List Int)(x34:List (List Int))(v20_1:Int)(o2_1:(List Int)):Option (((List Int))⊕((List Int))):=
 (getI x34 v20_1).bind fun x40=>
(F81 x40).bind fun x42=>
(getI x32 x42).bind fun x44=>
(app 8 o2_1 [x44]).bind fun l47=>
some (.inl l47)
def F230_1_D(x4:GFiltered)(x32:List Int)(x34:List (List Int))(v20_1:Int)(o2_1:(List Int)):Option ((List Int)):=
 some o2_1
def F230(a0:GDga)(a1:Int)(a2:Int)(a3:Int)(a4:Int):Option (T2 (List Int) Int):=
 (F158 a0 []).bind fun x1=>
 if x1=0 then
  (F65 a0).bind fun x4=>
  (chk ((x4.Complex.Dims.length:Int) - 1)).bind fun x6=>
  (F54 a1 0 x6).bind fun x7=>
  if x7=true then
   (F54 a3 0 x6).bind fun x9=>
   if x9=true then
    (F250 x4.Complex a1).bind fun x11=>
    (F250 x4.Complex a3).bind fun x13=>
    (chk ((x11.length:Int) - 1)).bind fun x15=>
    (F54 a2 0 x15).bind fun x16=>
    if x16=true then
     (chk ((x13.length:Int) - 1)).bind fun x18=>
     (F54 a4 0 x18).bind fun x19=>
     if x19=true then
      (chk (a1+a3)).bind fun x21=>
      if x6 < x21 then
       some ⟨[],0⟩
      else
       (F251 x4.Complex x21).bind fun x24=>
       (getI x11 a2).bind fun x26=>
       (getI x13 a4).bind fun x28=>
       (F252 a0 a1 x26 a3 x28).bind fun x30=>
       (F134 a0.Prime x24 x30).bind fun x32=>
       (F250 x4.Complex x21).bind fun x34=>
       (forR 0 (x34.length:Int) (F230_1_B x4 x32 x34) (F230_1_D x4 x32 x34) ([]:(List Int))).bind fun zo2_1=>
       some ⟨zo2_1,0⟩
     else
      some ⟨([]:List Int),2⟩
    else
     some ⟨([]:List Int),2⟩
   else
    some ⟨([]:List Int),2⟩
  else
   some ⟨([]:List Int),2⟩
 else
  some ⟨([]:List Int),x1⟩
def I230_1(x4:GFiltered)(x32:List Int)(x34:List (List Int))(v20_1:Int)(o2_1:(List Int))(e:Env)(h:Heap):Prop:=
 ∃u37 k38:Nat,h=⟨[(0,none),(1,some [V.int .i64 x4.Complex.Prime,V.isl (x4.Complex.Dims.map Enc.enc),V.isl (x4.Complex.Maps.map Enc.enc)]),(u37,some (o2_1.map Enc.enc))],k38⟩∧e.length=113∧e.at 17=V.sl 2 u37 0 o2_1.length 1∧e.at 18=V.isl (x32.map Enc.enc)∧e.at 19=V.isl (x34.map Enc.enc)∧e.at 20=V.int .i64 v20_1
def P230_1(x4:GFiltered)(x32:List Int)(x34:List (List Int))(zo2_1:(List Int))(x:Ex)(e:Env)(h:Heap):Prop:=
 x= .normal∧∃u37 k38:Nat,h=⟨[(0,none),(1,some [V.int .i64 x4.Complex.Prime,V.isl (x4.Complex.Dims.map Enc.enc),V.isl (x4.Complex.Maps.map Enc.enc)]),(u37,some (zo2_1.map Enc.enc))],k38⟩∧e.length=113∧e.at 17=V.sl 2 u37 0 zo2_1.length 1
theorem l230_1(x4:GFiltered)(x32:List Int)(x34:List (List Int)){lo:Int}{s:(List Int)}{t:(List Int)}(hF:forR lo (x34.length:Int) (F230_1_B x4 x32 x34) (F230_1_D x4 x32 x34) s=some t){e:Env}{h:Heap}(hI:I230_1 x4 x32 x34 lo s e h):W A c230_1 e h (P230_1 x4 x32 x34 t):=by
 show W A (.block 0 (.loop false b230_1)) e h _;rw[W_block];refine W_forR hF 3 (by obtain⟨_,_,rfl,_⟩:=hI; rfl) (I230_1 x4 x32 x34) hI ?_ ?_
 ·rintro v20_1 o2_1 e h ⟨u37,k38,rfl,h_36⟩ hlt hw o ho
  unfold F230_1_B at ho;obtain⟨x40,gx40,ho⟩:=bS ho;obtain⟨w41a,w41b⟩:=getI_w gx40;obtain⟨x42,gx42,ho⟩:=bS ho;have w43:ans A 81 [V.isl (x40.map Enc.enc)]=some (V.int .i64 x42):=s81 x40 gx42;obtain⟨x44,gx44,ho⟩:=bS ho;obtain⟨w45a,w45b⟩:=getI_w gx44;obtain⟨l47,gl47,ho⟩:=bS ho;have w46:=fun a b c d e=> appendV_w (α:=Int) (n:=o2_1.length) (m:=1) (ds:=[V.int .i64 x44]) gl47 (by first|rfl|simp) (by first|rfl|simp) rfl a b c d e;have w46l:=app_len gl47;cases ho;simp only[simprocAttr,R0,b230_1,h_36,eq_true hlt,hw,w41a,w41b,w43,w45a,w45b,w46];refine ai rfl (ei _ (ei _ (ai rfl ?_)));simp only[simprocAttr,R0,h_36,eq_true hlt,hw,w41a,w41b,w43,w45a,w45b,w46]
 ·rintro v20_1 o2_1 e h ⟨u37,k38,rfl,h_36⟩ hge t1 ho
  unfold F230_1_D at ho;cases ho;simp only[simprocAttr,R0,b230_1,h_36,eq_false hge];intro ht; subst ht;refine ai rfl (ei _ (ei _ (ai rfl ?_)));simp only[simprocAttr,R0,h_36,eq_false hge]
set_option maxHeartbeats 8000000 in
theorem s230(a0:GDga)(a1:Int)(a2:Int)(a3:Int)(a4:Int){r:T2 (List Int) Int}(hF:F230 a0 a1 a2 a3 a4=some r):ans A 230 [V.agg (ceGDga a0),V.int .i64 a1,V.int .i64 a2,V.int .i64 a3,V.int .i64 a4]=some (EncR.enc r):=by
 refine ans_of (f:=p230) rfl rfl rfl fun e hl he=>?_;have h0_0:e.at 0=V.agg (ceGDga a0):=he 0 _ rfl;have h1_0:e.at 1=V.int .i64 a1:=he 1 _ rfl;have h2_0:e.at 2=V.int .i64 a2:=he 2 _ rfl;have h3_0:e.at 3=V.int .i64 a3:=he 3 _ rfl;have h4_0:e.at 4=V.int .i64 a4:=he 4 _ rfl;have hl_0:e.length=113:=hl;clear he hl;have h_0:=ai hl_0 (ai h0_0 (ai h1_0 (ai h2_0 (ai h3_0 h4_0))));show W A b230 e ⟨[],0⟩ _;unfold F230 at hF;obtain⟨x1,gx1,hF⟩:=bS hF;have w2:ans A 158 [V.agg (ceGDga a0),V.isl []]=some (V.int .i64 x1):=s158 a0 [] gx1;by_cases c3:x1=0
 ·rw[if_pos c3]at hF
  obtain⟨x4,gx4,hF⟩:=bS hF;have w5:ans A 65 [V.agg (ceGDga a0)]=some ((eF x4)):=s65 a0 gx4;obtain⟨x6,gx6,hF⟩:=bS hF;have wx6:=chk_w gx6;obtain⟨x7,gx7,hF⟩:=bS hF;have w8:ans A 54 [V.int .i64 a1,V.int .i64 0,V.int .i64 x6]=some (V.bool x7):=s54 a1 0 x6 gx7;cases x7 with
  |true=>
   rw[if_pos rfl]at hF;obtain⟨x9,gx9,hF⟩:=bS hF;have w10:ans A 54 [V.int .i64 a3,V.int .i64 0,V.int .i64 x6]=some (V.bool x9):=s54 a3 0 x6 gx9;cases x9 with
   |true=>
    rw[if_pos rfl]at hF;obtain⟨x11,gx11,hF⟩:=bS hF;have w12:ans A 250 [(eC x4.Complex),V.int .i64 a1]=some (V.isl (x11.map Enc.enc)):=s250 x4.Complex a1 gx11;obtain⟨x13,gx13,hF⟩:=bS hF;have w14:ans A 250 [(eC x4.Complex),V.int .i64 a3]=some (V.isl (x13.map Enc.enc)):=s250 x4.Complex a3 gx13;obtain⟨x15,gx15,hF⟩:=bS hF;have wx15:=chk_w gx15;obtain⟨x16,gx16,hF⟩:=bS hF;have w17:ans A 54 [V.int .i64 a2,V.int .i64 0,V.int .i64 x15]=some (V.bool x16):=s54 a2 0 x15 gx16;cases x16 with
    |true=>
     rw[if_pos rfl]at hF;obtain⟨x18,gx18,hF⟩:=bS hF;have wx18:=chk_w gx18;obtain⟨x19,gx19,hF⟩:=bS hF;have w20:ans A 54 [V.int .i64 a4,V.int .i64 0,V.int .i64 x18]=some (V.bool x19):=s54 a4 0 x18 gx19;cases x19 with
     |true=>
      rw[if_pos rfl]at hF;obtain⟨x21,gx21,hF⟩:=bS hF;have wx21:=chk_w gx21;by_cases c22:x6 < x21
      ·rw[if_pos c22]at hF
       cases hF;simp only[simprocAttr,R0,b230,h_0,w2,eq_true c3,w5,wx6,w8,w10,w12,w14,wx15,w17,wx18,w20,wx21,eq_true c22];exact fin_ret (by simp only[simprocAttr,R0,fn_out,p230,Rs.ev,take_len_self,h_0,w2,eq_true c3,w5,wx6,w8,w10,w12,w14,wx15,w17,wx18,w20,wx21,eq_true c22])
      ·rw[if_neg c22]at hF
       have w23:ofCells none (ceGDga a0)=some (V.int .i64 a0.Prime):=by first|exact ceGDga_Prime_one (a:=_) rfl|(simp only[List.drop_drop]; exact ceGDga_Prime_one (by omega))|(show ofCells none (List.drop 0 _)=_; exact ceGDga_Prime_one rfl)
       obtain⟨x24,gx24,hF⟩:=bS hF;have w25:ans A 251 [(eC x4.Complex),V.int .i64 x21]=some (V.isl (x24.map Enc.enc)):=s251 x4.Complex x21 gx24;obtain⟨x26,gx26,hF⟩:=bS hF;obtain⟨w27a,w27b⟩:=getI_w gx26;obtain⟨x28,gx28,hF⟩:=bS hF;obtain⟨w29a,w29b⟩:=getI_w gx28;obtain⟨x30,gx30,hF⟩:=bS hF;have w31:ans A 252 [V.agg (ceGDga a0),V.int .i64 a1,V.isl (x26.map Enc.enc),V.int .i64 a3,V.isl (x28.map Enc.enc)]=some (V.isl (x30.map Enc.enc)):=s252 a0 a1 x26 a3 x28 gx30;obtain⟨x32,gx32,hF⟩:=bS hF;have w33:ans A 134 [V.int .i64 a0.Prime,V.isl (x24.map Enc.enc),V.isl (x30.map Enc.enc)]=some (V.isl (x32.map Enc.enc)):=s134 a0.Prime x24 x30 gx32;obtain⟨x34,gx34,hF⟩:=bS hF;have w35:ans A 250 [(eC x4.Complex),V.int .i64 x21]=some (V.isl (x34.map Enc.enc)):=s250 x4.Complex x21 gx34;obtain⟨zo2_1,gt48,hF⟩:=bS hF;simp only[simprocAttr,R0,b230,h_0,w2,eq_true c3,w5,wx6,w8,w10,w12,w14,wx15,w17,wx18,w20,wx21,eq_false c22,w23,w25,w27a,w27b,w29a,w29b,w31,w33,w35];refine W.mono (l230_1 x4 x32 x34 gt48 (ei _ (ei _ (ai rfl ?_)))) ?_
       ·simp only[simprocAttr,R0,h_0,w2,eq_true c3,w5,wx6,w8,w10,w12,w14,wx15,w17,wx18,w20,wx21,eq_false c22,w23,w25,w27a,w27b,w29a,w29b,w31,w33,w35]
       rintro _ e _ ⟨rfl,u37,k38,rfl,h_39⟩;cases hF;simp only[simprocAttr,R0,h_39,eq_true c3,eq_false c22];exact fin_ret (by simp only[simprocAttr,R0,fn_out,p230,Rs.ev,take_len_self,h_39,eq_true c3,eq_false c22,frzs (α:=Int) zo2_1,takes (α:=Int) zo2_1])
     |false=>
      rw[if_neg Bool.false_ne_true]at hF;cases hF;simp only[simprocAttr,R0,b230,h_0,w2,eq_true c3,w5,wx6,w8,w10,w12,w14,wx15,w17,wx18,w20];exact fin_ret (by simp only[simprocAttr,R0,fn_out,p230,Rs.ev,take_len_self,h_0,w2,eq_true c3,w5,wx6,w8,w10,w12,w14,wx15,w17,wx18,w20])
    |false=>
     rw[if_neg Bool.false_ne_true]at hF;cases hF;simp only[simprocAttr,R0,b230,h_0,w2,eq_true c3,w5,wx6,w8,w10,w12,w14,wx15,w17];exact fin_ret (by simp only[simprocAttr,R0,fn_out,p230,Rs.ev,take_len_self,h_0,w2,eq_true c3,w5,wx6,w8,w10,w12,w14,wx15,w17])
   |false=>
    rw[if_neg Bool.false_ne_true]at hF;cases hF;simp only[simprocAttr,R0,b230,h_0,w2,eq_true c3,w5,wx6,w8,w10];exact fin_ret (by simp only[simprocAttr,R0,fn_out,p230,Rs.ev,take_len_self,h_0,w2,eq_true c3,w5,wx6,w8,w10])
  |false=>
   rw[if_neg Bool.false_ne_true]at hF;cases hF;simp only[simprocAttr,R0,b230,h_0,w2,eq_true c3,w5,wx6,w8];exact fin_ret (by simp only[simprocAttr,R0,fn_out,p230,Rs.ev,take_len_self,h_0,w2,eq_true c3,w5,wx6,w8])
 ·rw[if_neg c3]at hF
  cases hF;simp only[simprocAttr,R0,b230,h_0,w2,eq_false c3];exact fin_ret (by simp only[simprocAttr,R0,fn_out,p230,Rs.ev,take_len_self,h_0,w2,eq_false c3])
def F72_1_B(a0:GDga)(a1:Int)(v10_1:Int)(o1_1:(List Int)):Option (((List Int))⊕((List Int))):=
 (ixI 8 v10_1).bind fun n6=>
if(a0.Degrees.val.getD n6 0)=a1 then
 (app 8 o1_1 [v10_1]).bind fun l11=>
 some (.inl l11)
else
 some (.inl o1_1)
def F72_1_D(a0:GDga)(a1:Int)(v10_1:Int)(o1_1:(List Int)):Option ((List Int)):=
 some o1_1
def F72(a0:GDga)(a1:Int):Option (List Int):=
 (forR 0 a0.Size (F72_1_B a0 a1) (F72_1_D a0 a1) ([]:(List Int))).bind fun zo1_1=>
 some zo1_1
def I72_1(a0:GDga)(a1:Int)(v10_1:Int)(o1_1:(List Int))(e:Env)(h:Heap):Prop:=
 ∃u3 k4:Nat,h=⟨[(0,none),(u3,some (o1_1.map Enc.enc))],k4⟩∧e.length=25∧e.at 1=V.int .i64 a1∧e.at 2=V.iptr (ceGDga a0)∧e.at 5=V.sl 1 u3 0 o1_1.length 1∧e.at 9=V.int .i64 a0.Size∧e.at 10=V.int .i64 v10_1
def P72_1(a0:GDga)(a1:Int)(zo1_1:(List Int))(x:Ex)(e:Env)(h:Heap):Prop:=
 x= .normal∧∃u3 k4:Nat,h=⟨[(0,none),(u3,some (zo1_1.map Enc.enc))],k4⟩∧e.length=25∧e.at 5=V.sl 1 u3 0 zo1_1.length 1
theorem l72_1(a0:GDga)(a1:Int){lo:Int}{s:(List Int)}{t:(List Int)}(hF:forR lo a0.Size (F72_1_B a0 a1) (F72_1_D a0 a1) s=some t){e:Env}{h:Heap}(hI:I72_1 a0 a1 lo s e h):W A c72_1 e h (P72_1 a0 a1 t):=by
 show W A (.block 0 (.loop false b72_1)) e h _;rw[W_block];refine W_forR hF 2 (by obtain⟨_,_,rfl,_⟩:=hI; rfl) (I72_1 a0 a1) hI ?_ ?_
 ·rintro v10_1 o1_1 e h ⟨u3,k4,rfl,h_2⟩ hlt hw o ho
  unfold F72_1_B at ho;obtain⟨n6,gn6,ho⟩:=bS ho;obtain⟨w7a,w7b,w7c,w7d⟩:=ixI_w gn6;have w8:ofCells none (List.drop n6 (List.drop 2 (ceGDga a0)))=some (V.int .i64 (a0.Degrees.val.getD n6 0)):=by first|exact ceGDga_Degrees_one (i:=n6) (by omega) (by omega)|(simp only[List.drop_drop]; exact ceGDga_Degrees_one (i:=n6) (by omega) (by omega))|(show ofCells none (List.drop 0 _)=_; exact ceGDga_Degrees_one (i:=n6) (by omega) (by omega))
  by_cases c9:(a0.Degrees.val.getD n6 0)=a1
  ·rw[if_pos c9]at ho
   obtain⟨l11,gl11,ho⟩:=bS ho;have w10:=fun a b c d e=> appendV_w (α:=Int) (n:=o1_1.length) (m:=1) (ds:=[V.int .i64 v10_1]) gl11 (by first|rfl|simp) (by first|rfl|simp) rfl a b c d e;have w10l:=app_len gl11;cases ho;simp only[simprocAttr, -Int.reduceNatCast',R0,b72_1,h_2,eq_true hlt,hw,w7a,w7b,w7c,w8,eq_true c9,w10];refine ai rfl (ei _ (ei _ (ai rfl ?_)));simp only[simprocAttr, -Int.reduceNatCast',R0,h_2,eq_true hlt,hw,w7a,w7b,w7c,w8,eq_true c9,w10]
  ·rw[if_neg c9]at ho
   cases ho;simp only[simprocAttr, -Int.reduceNatCast',R0,b72_1,h_2,eq_true hlt,hw,w7a,w7b,w7c,w8,eq_false c9];refine ai rfl (ei _ (ei _ (ai rfl ?_)));simp only[simprocAttr, -Int.reduceNatCast',R0,h_2,eq_true hlt,hw,w7a,w7b,w7c,w8,eq_false c9]
 ·rintro v10_1 o1_1 e h ⟨u3,k4,rfl,h_2⟩ hge t1 ho
  unfold F72_1_D at ho;cases ho;simp only[simprocAttr, -Int.reduceNatCast',R0,b72_1,h_2,eq_false hge];intro ht; subst ht;refine ai rfl (ei _ (ei _ (ai rfl ?_)));simp only[simprocAttr, -Int.reduceNatCast',R0,h_2,eq_false hge]
theorem s72(a0:GDga)(a1:Int){r:List Int}(hF:F72 a0 a1=some r):ans A 72 [V.agg (ceGDga a0),V.int .i64 a1]=some (Enc.enc r):=by
 refine ans_of (f:=p72) rfl rfl rfl fun e hl he=>?_;have h0_0:e.at 0=V.agg (ceGDga a0):=he 0 _ rfl;have h1_0:e.at 1=V.int .i64 a1:=he 1 _ rfl;have hl_0:e.length=25:=hl;clear he hl;show W A b72 e ⟨[],0⟩ _;unfold F72 at hF;have w1:ofCells none (List.drop 1 (ceGDga a0))=some (V.int .i64 a0.Size):=by first|exact ceGDga_Size_one (a:=_) rfl|(simp only[List.drop_drop]; exact ceGDga_Size_one (by omega))|(show ofCells none (List.drop 0 _)=_; exact ceGDga_Size_one rfl)
 obtain⟨zo1_1,gt12,hF⟩:=bS hF;simp only[simprocAttr, -Int.reduceNatCast',R0,b72,hl_0,h0_0,h1_0,w1];refine W.mono (l72_1 a0 a1 gt12 (ei _ (ei _ (ai rfl ?_)))) ?_
 ·simp only[simprocAttr, -Int.reduceNatCast',R0,hl_0,h0_0,h1_0,w1]
 rintro _ e _ ⟨rfl,u3,k4,rfl,hl_5,h5_5⟩;have hE:=Option.some.inj hF; subst hE;simp only[simprocAttr, -Int.reduceNatCast',R0,hl_5,h5_5];exact fin_ret (by simp only[simprocAttr, -Int.reduceNatCast',R0,fn_out,p72,Rs.ev,take_len_self,hl_5,h5_5,frzs (α:=Int) zo1_1,takes (α:=Int) zo1_1])
def F73(a0:List Int):Option Int:=
 some (a0.length:Int)
theorem s73(a0:List Int){r:Int}(hF:F73 a0=some r):ans A 73 [V.isl (a0.map Enc.enc)]=some (Enc.enc r):=by
 refine ans_of (f:=p73) rfl rfl rfl fun e hl he=>?_;have h0_0:e.at 0=V.isl (a0.map Enc.enc):=he 0 _ rfl;have hl_0:e.length=5:=hl;clear he hl;show W A b73 e ⟨[],0⟩ _;unfold F73 at hF;cases hF;simp only[simprocAttr,R0,b73,hl_0,h0_0];exact fin_ret (by simp only[simprocAttr,R0,fn_out,p73,Rs.ev,take_len_self,hl_0,h0_0])
def F74_2_B(a1:List Int)(o1_1:List (List (List Int)))(q2_0_1:Int)(q2_1_1:List Int)(v6_1:Int)(x7:Int)(v22_2:Int)(o3_2:(List (List Int))):Option (((List (List Int)))⊕((List (List Int)))):=
 (chk (v6_1 - 1)).bind fun x13=>
(getI a1 x13).bind fun x14=>
(mkL 8 x14 0).bind fun l16=>
(app 24 o3_2 [l16]).bind fun l19=>
some (.inl l19)
def F74_2_D(a1:List Int)(o1_1:List (List (List Int)))(q2_0_1:Int)(q2_1_1:List Int)(v6_1:Int)(x7:Int)(v22_2:Int)(o3_2:(List (List Int))):Option ((List (List Int))):=
 some o3_2
def F74_1_B(a1:List Int)(v6_1:Int)(s:(List (List (List Int)))×Int×(List Int)):Option (((List (List (List Int)))×Int×(List Int))⊕((List (List (List Int)))×Int×(List Int))):=
 match s with
 |(o1_1,q2_0_1,q2_1_1)=>
  (getI a1 v6_1).bind fun x7=>
  (forR 0 x7 (F74_2_B a1 o1_1 q2_0_1 q2_1_1 v6_1 x7) (F74_2_D a1 o1_1 q2_0_1 q2_1_1 v6_1 x7) ([]:(List (List Int)))).bind fun zo3_2=>
  (app 24 o1_1 [zo3_2]).bind fun l22=>
  some (.inl (l22,q2_0_1,q2_1_1))
def F74_1_D(a1:List Int)(v6_1:Int)(s:(List (List (List Int)))×Int×(List Int)):Option ((List (List (List Int)))×Int×(List Int)):=
 match s with
 |(o1_1,q2_0_1,q2_1_1)=>
  some (o1_1,q2_0_1,q2_1_1)
def F74(a0:Int)(a1:List Int):Option GComplex:=
 (forR 1 (a1.length:Int) (F74_1_B a1) (F74_1_D a1) ([],a0,a1)).bind fun t25=> match t25 with
  |(zo1_1,zq2_0_1,zq2_1_1)=>
   some ⟨zq2_0_1,zq2_1_1,zo1_1⟩
set_option maxHeartbeats 8000000 in
theorem d74(a0:Int)(a1:List Int){r:GComplex}(hF:F74 a0 a1=some r)(E0:List (Nat×Option (List V)))(c0:Nat){dk du:Nat}(hd0:E0[dk]? =some (du,some (a1.map Enc.enc))):∃v h',res A 74 [V.int .i64 a0,V.sl dk du 0 a1.length 1] ⟨E0,c0⟩=some (v,h')∧r.Prime=a0∧r.Dims=a1∧∃m K,v=V.agg [V.int .i64 r.Prime,V.sl dk du 0 a1.length 1,m]∧Deep.rep h' m r.Maps K∧(∀k,K k→E0.length≤k)∧(∀k,k < E0.length→h'.ents[k]? =E0[k]?)∧E0.length≤h'.ents.length:=by
 have hdk:dk < E0.length:=(List.getElem?_eq_some_iff.1 hd0).1;refine res_dp (f:=p74) rfl rfl rfl fun e hl he=>?_;have h0_0:e.at 0=V.int .i64 a0:=he 0 _ rfl;have h1_0:e.at 1=V.sl dk du 0 a1.length 1:=he 1 _ rfl;have hl_0:e.length=41:=hl;clear he hl;show W A b74 e ⟨E0,c0⟩ _;unfold F74 at hF;obtain⟨t13,gt13,hF⟩:=bS hF;have ws:ans A 73 [V.isl (a1.map Enc.enc)]=some (V.int .i64 (a1.length:Int)):=s73 a1 rfl;simp only[simprocAttr, -Int.reduceNatCast',R0,b74,hl_0,h0_0,h1_0,le1,get_last,ge2a,ge2b,ge3a,ge3b,ge3c,se2a,se2b,se3a,se3b,se3c,set_last];show W A (.block 0 (.loop true b74_1)) _ _ _;rw[W_block];refine W_forR gt13 _ rfl (fun i s e h=> s.2=(a0,a1)∧∃u vs K,h.ents[E0.length]? =some (c0,some [V.int .i64 0,V.nils,V.nils])∧h.ents[E0.length+1]? =some (u,some vs)∧h.ents[E0.length+2]? =some (c0+2,some [V.int .i64 a0,V.sl dk du 0 a1.length 1,V.sl (E0.length+1) u 0 s.1.length 1])∧reps h vs s.1 K∧(∀k,K k→E0.length+3≤k)∧(∀k,k < E0.length→h.ents[k]? =E0[k]?)∧e.length=41∧e.at 1=V.sl dk du 0 a1.length 1∧e.at 4=V.ptr E0.length c0 0∧e.at 5=V.ptr (E0.length+2) (c0+2) 0∧e.at 6=V.int .i64 i) ?_ ?_ ?_
 ·refine⟨rfl,c0+1,[],fun _=> False,ge3a ..,ge3b ..,ge3c ..,fun _ x=> x,fun _ x=> x.elim,fun k q=>?_,?_⟩
  ·rw[List.append_assoc,List.append_assoc]; exact List.getElem?_append_left q
  simp only[simprocAttr, -Int.reduceNatCast',R0,hl_0,h0_0,h1_0]
 ·clear hl_0 h0_0 h1_0
  rintro i ⟨l,q⟩ e ⟨E,c⟩ ⟨rfl,u,vs,K,g1,g2,g3,g4,g5,g6,hl_1,h1_1,h4_1,h5_1,h6_1⟩ hlt hw o ho;unfold F74_1_B at ho;simp only at ho g1 g2 g3 g4 g6;have hDd:E[dk]? =some (du,some (a1.map Enc.enc)):=(g6 dk hdk).trans hd0;have wfz:frz ⟨E,c⟩ 16 (V.sl dk du 0 a1.length 1)=_:=frz_row hDd;obtain⟨x7,gx7,ho⟩:=bS ho;obtain⟨w8a,w8b⟩:=getI_w gx7;have w8c:=getI_lt gx7;have w8d:ofCells none (List.drop (Int.toNat i) (a1.map Enc.enc))=some (V.int .i64 x7):=ofCells_drop (by rw[List.getElem?_map,w8b]; rfl);have hDx:∀x,(E++[x])[dk]? =some (du,some (a1.map Enc.enc)):=fun x=>(List.getElem?_append_left (List.getElem?_eq_some_iff.1 hDd).1).trans hDd;obtain⟨rows,gt20,ho⟩:=bS ho;obtain⟨l22,gl22,ho⟩:=bS ho;obtain⟨q1,q2,rfl⟩:=app_w gl22;have hE:=Option.some.inj ho; subst hE;have hE0:E0.length+2 < E.length:=(List.getElem?_eq_some_iff.1 g3).1;simp only[simprocAttr, -Int.reduceNatCast',R0,b74_1,hl_1,h1_1,h4_1,h5_1,h6_1,eq_true hlt,hw,ws,wfz,w8a,eq_true w8c,w8d,hDd,hDx];refine W.mono (Q:=fun x' e h=> x'= .normal∧∃u' vs' K',h.ents[E.length]? =some (u',some vs')∧reps h vs' rows K'∧(∀k,K' k→E.length+1≤k)∧(∀k,k < E.length→h.ents[k]? =E[k]?)∧e.length=41∧e.at 1=V.sl dk du 0 a1.length 1∧e.at 4=V.ptr E0.length c0 0∧e.at 5=V.ptr (E0.length+2) (c0+2) 0∧e.at 6=V.int .i64 i∧e.at 7=V.sl E.length u' 0 rows.length 1) ?_ ?_
  rotate_left
  ·rintro _ e ⟨E1,c1⟩ ⟨rfl,u',vs',K',f1,f2,f3,f4,hl_2,h1_2,h4_2,h5_2,h6_2,h7_2⟩
   simp only at f1 f4;have hln:=g4.len;have hE1:E.length < E1.length:=(List.getElem?_eq_some_iff.1 f1).1;have m0:=(f4 E0.length (by omega)).trans g1;have m1:=(f4 (E0.length+1) (by omega)).trans g2;have m2:=(f4 (E0.length+2) (by omega)).trans g3;have n2:∀y,(E1++[y])[E0.length+2]? =_:=fun y=>(List.getElem?_append_left (by omega)).trans m2;have n2':∀y z,((E1++[y]).set (E0.length+1) z)[E0.length+2]? =_:=fun y z=>(set_app_new (by omega) (by omega)).trans m2;have w9:∀y c',appendV 1 24 (.sl (E0.length+1) u 0 l.length 1) 1 [V.sl E.length u' 0 rows.length 1] ⟨E1++[y],c'⟩=_:=fun y c'=> appendV_deep (E:=E1++[y]) (vs:=vs) (by rw[List.getElem?_append_left (by omega)]; exact m1) hln (by simpa using q1) (by simpa using q2);simp only[simprocAttr, -Int.reduceNatCast',R0,hl_2,h1_2,h4_2,h5_2,h6_2,h7_2,hw,m2,n2,n2',get_last,w9];have r0:Deep.rep ⟨E1,c1⟩ (V.sl E.length u' 0 rows.length 1) rows (fun k=> k=E.length∨K' k):=rep_at f1 f2 (fun q=> by have:=f3 _ q; omega);have hk:∀k,K k∨(k=E.length∨K' k)→E0.length+3≤k:=fun k q=> q.elim (g5 k) (fun q=> q.elim (fun q=> by omega) (fun q=> by have:=f3 k q; omega));have r1:=deep_round (h:=⟨E,c⟩) (h1:=⟨E1,c1⟩) (h2:=⟨((E1++[(c1,some [V.sl E.length u' 0 rows.length 1])]).set (E0.length+1) (c1+1,some (vs++[V.sl E.length u' 0 rows.length 1]))).set (E0.length+2) (c0+2,some [V.int .i64 a0,V.sl dk du 0 a1.length 1,V.sl (E0.length+1) (c1+1) 0 (l.length+1) 1]),c1+1+1⟩) (K:=K) g4
    r0 (fun k q=> q.elim (fun q=> by show E.length≤k; omega) (fun q=> by have:=f3 k q; show E.length≤k; omega)) f4 (fun k p q=> by
     have:=hk k q;rw[set_ne (by omega)];exact set_app_new (by omega) p) (by show E.length≤E1.length; omega)
   refine ai rfl (ai rfl ⟨c1+1,vs++[V.sl E.length u' 0 rows.length 1],_,?_,?_,?_,r1,hk,fun k q=>?_,?_⟩)
   ·exact(set_ne (by omega)).trans ((set_app_new (by omega) (by omega)).trans m0)
   ·exact(set_ne (by omega)).trans (set_app_key (by simp; omega))
   ·simp only[List.length_append,List.length_cons,List.length_nil,Nat.zero_add]
    exact set_app_key (by simp; omega)
   ·exact(set_ne (by omega)).trans ((set_app_new (by omega) (by omega)).trans ((f4 k (by omega)).trans (g6 k q)))
   ·simp only[simprocAttr, -Int.reduceNatCast',R0,hl_2,h1_2,h4_2,h5_2,h6_2,h7_2,hw]
  show W A (.block 2 (.loop true b74_2)) _ _ _;rw[W_block];refine W_forR gt20 _ rfl (fun j rs e h=>∃u' vs' K',h.ents[E.length]? =some (u',some vs')∧reps h vs' rs K'∧(∀k,K' k→E.length+1≤k)∧(∀k,k < E.length→h.ents[k]? =E[k]?)∧e.length=41∧e.at 1=V.sl dk du 0 a1.length 1∧e.at 4=V.ptr E0.length c0 0∧e.at 5=V.ptr (E0.length+2) (c0+2) 0∧e.at 6=V.int .i64 i∧e.at 7=V.sl E.length u' 0 rs.length 1∧e.at 21=V.int .i64 x7∧e.at 22=V.int .i64 j) ?_ ?_ ?_
  ·refine⟨c,[],fun _=> False,get_last _ _,fun _ x=> x,fun _ x=> x.elim,fun k q=> List.getElem?_append_left q,?_⟩
   simp only[simprocAttr, -Int.reduceNatCast',R0,hl_1,h1_1,h4_1,h5_1,h6_1]
  ·clear hl_1 h1_1 h4_1 h5_1 h6_1
   rintro j rs e ⟨E1,c1⟩ ⟨u',vs',K',f1,f2,f3,f4,hl_1,h1_1,h4_1,h5_1,h6_1,h7_1,h21_1,h22_1⟩ hlt2 hw2 o ho;unfold F74_2_B at ho;obtain⟨x13,gx13,ho⟩:=bS ho;have wx13:=chk_w gx13;obtain⟨x14,gx14,ho⟩:=bS ho;obtain⟨w15a,w15b⟩:=getI_w gx14;have w15c:=getI_lt gx14;have w15d:ofCells none (List.drop (Int.toNat x13) (a1.map Enc.enc))=some (V.int .i64 x14):=ofCells_drop (by rw[List.getElem?_map,w15b]; rfl);obtain⟨l16,gl16,ho⟩:=bS ho;obtain⟨w17a,w17b,w17c,w17d,w17e⟩:=mkL_w gl16;replace w17e:(List.replicate (Int.toNat x14) [V.int .i64 0]).flatten=List.map Enc.enc l16:=w17e;obtain⟨l19,gl19,ho⟩:=bS ho;obtain⟨q1,q2,rfl⟩:=app_w gl19;have hE:=Option.some.inj ho; subst hE;simp only at f1 f4;have hln:=f2.len;have hE1:E.length < E1.length:=(List.getElem?_eq_some_iff.1 f1).1;have hD1:E1[dk]? =some (du,some (a1.map Enc.enc)):=(f4 dk (by omega)).trans hDd;have w9:∀x y c',appendV 1 24 (.sl E.length u' 0 rs.length 1) 1 [V.sl E1.length c1 0 (Int.toNat x14) 1] ⟨E1++[x]++[y],c'⟩=_:=fun x y c'=> appendV_deep (E:=E1++[x]++[y]) (vs:=vs') (by rw[List.getElem?_append_left (by simp; omega),List.getElem?_append_left hE1]; exact f1) hln (by simpa using q1) (by simpa using q2);simp only[simprocAttr, -Int.reduceNatCast',R0,b74_2,hl_1,h1_1,h4_1,h5_1,h6_1,h7_1,h21_1,h22_1,eq_true hlt2,hw2,wx13,w15a,eq_true w15c,w15d,hD1,w17a,w17b,w17c,w17e,get_last,w9];have r0:Deep.rep ⟨E1++[(c1,some (l16.map Enc.enc))],c1+1⟩ (V.sl E1.length c1 0 (Int.toNat x14) 1) l16 (fun k=> k=E1.length):=by
    rw[←w17d]; exact int_row (get_last _ _) fun k=> Iff.rfl
   have r1:=deep_round (h:=⟨E1,c1⟩) (h1:=⟨E1++[(c1,some (l16.map Enc.enc))],c1+1⟩) (h2:=⟨(E1++[(c1,some (l16.map Enc.enc))]++[(c1+1,some [V.sl E1.length c1 0 (Int.toNat x14) 1])]).set E.length (c1+1+1,some (vs'++[V.sl E1.length c1 0 (Int.toNat x14) 1])),c1+1+1+1⟩) f2
    r0 (fun k q=> by show E1.length≤k; omega) (fun k q=> List.getElem?_append_left q) (fun k p q=> set_app_new (fun e=> by subst e; exact q.elim (fun q=> by have:=f3 _ q; omega) (fun q=> by omega)) p) (by simp)
   refine ai rfl ⟨_,_,_,set_app_key (by simp; omega),r1,fun k q=> q.elim (f3 k) (fun q=> by omega),fun k q=>?_,?_⟩
   ·refine(set_app_new (by omega) (by simp; omega)).trans ((List.getElem?_append_left (by omega)).trans (f4 k q))
   ·simp only[simprocAttr, -Int.reduceNatCast',R0,hl_1,h1_1,h4_1,h5_1,h6_1,h7_1,h21_1,h22_1,hw2,List.length_append]
  ·clear hl_1 h1_1 h4_1 h5_1 h6_1
   rintro j rs e ⟨E1,c1⟩ ⟨u',vs',K',f1,f2,f3,f4,hl_1,h1_1,h4_1,h5_1,h6_1,h7_1,h21_1,h22_1⟩ hge t1 ho;have hE:=Option.some.inj ho; subst hE;simp only[simprocAttr, -Int.reduceNatCast',R0,b74_2,hl_1,h1_1,h4_1,h5_1,h6_1,h7_1,h21_1,h22_1,eq_false hge];intro ht; subst ht;exact⟨u',vs',K',f1,f2,f3,f4,rfl⟩
 ·rintro i ⟨l,q⟩ e ⟨E,c⟩ ⟨rfl,u,vs,K,g1,g2,g3,g4,g5,g6,hl_1,h1_1,h4_1,h5_1,h6_1⟩ hge t1 ho
  unfold F74_1_D at ho;have hE:=Option.some.inj ho; subst hE;simp only at hF g1 g2 g3 g4 g6;have hDd:E[dk]? =some (du,some (a1.map Enc.enc)):=(g6 dk hdk).trans hd0;have wfz:frz ⟨E,c⟩ 16 (V.sl dk du 0 a1.length 1)=_:=frz_row hDd;simp only[simprocAttr, -Int.reduceNatCast',R0,b74_1,hl_1,h1_1,h4_1,h5_1,h6_1,eq_false hge,ws,wfz,g1,g2,g3];intro ht; subst ht;have hE:=Option.some.inj hF; subst hE;have hE0:E0.length+2 < E.length:=(List.getElem?_eq_some_iff.1 g3).1;refine ai (fun _=> trivial) ⟨_,by simp only[simprocAttr, -Int.reduceNatCast',R0,fn_out,p74,Rs.ev,hl_1,h4_1,set_app_key (show E0.length < E.length by omega)]; rfl,rfl,rfl,_,_,rfl,rep_at (α:=List (List Int)) (K:=K) ?_ (g4.frame fun k q=> set_ne (by have:=g5 k q; omega)) (fun q=> by have:=g5 _ q; omega),fun k q=> q.elim (fun q=> by omega) (fun q=> by have:=g5 k q; omega),fun k q=>(set_ne (by omega)).trans (g6 k q),by simp; omega⟩;exact(set_ne (by omega)).trans g2
def F75(p:Int)(n r pl v:Int)(s:List (List (List Int))):Option (List (List (List Int))):=
 (chk (n - 1)).bind fun i=>(getI s i).bind fun t=>(getI t r).bind fun row=>(getI row pl).bind fun old=>(chk (old+v)).bind fun a=>(remI a p).bind fun b=>(chk (b+p)).bind fun d=>(remI d p).bind fun z=>
 (setI row pl z).bind fun row'=>(setI t r row').bind fun t'=> setI s i t'
theorem d75{p n r pl v:Int}{dv:V}{s s':List (List (List Int))}(hF:F75 p n r pl v s=some s')(E:List (Nat×Option (List V)))(c:Nat){m:V}{K:Ks}(hr:Deep.rep ⟨E,c⟩ m s K):
  ∃h',res A 75 [V.agg [V.int .i64 p,dv,m],V.int .i64 n,V.int .i64 r,V.int .i64 pl,V.int .i64 v] ⟨E,c⟩=some (V.undef,h')∧Deep.rep h' m s' K∧(∀k,k < E.length→¬K k→h'.ents[k]? =E[k]?)∧E.length≤h'.ents.length:=by
 refine res_ex (f:=p75) rfl rfl rfl fun e hl he=>?_;have h0:e.at 0=V.agg [V.int .i64 p,dv,m]:=he 0 _ rfl;have h1:e.at 1=V.int .i64 n:=he 1 _ rfl;have h2:e.at 2=V.int .i64 r:=he 2 _ rfl;have h3:e.at 3=V.int .i64 pl:=he 3 _ rfl;have h4:e.at 4=V.int .i64 v:=he 4 _ rfl;have hl_0:e.length=38:=hl;clear he hl;show W A b75 e ⟨E,c⟩ _;unfold F75 at hF;obtain⟨i,gi,hF⟩:=bS hF;have wi:=chk_w gi;obtain⟨t,gt,hF⟩:=bS hF;obtain⟨ta,tb⟩:=getI_w gt;have tc:=getI_lt gt;obtain⟨row,gr,hF⟩:=bS hF;obtain⟨ra,rb⟩:=getI_w gr;have rc:=getI_lt gr;obtain⟨old,go,hF⟩:=bS hF;obtain⟨oa,ob⟩:=getI_w go;have oc:=getI_lt go;obtain⟨a,ga,hF⟩:=bS hF;have wa:=chk_w ga;obtain⟨b,gb,hF⟩:=bS hF;obtain⟨wb0,wb⟩:=rem_w gb;obtain⟨d,gd,hF⟩:=bS hF;have wd:=chk_w gd;obtain⟨z,gz,hF⟩:=bS hF;obtain⟨_,wz⟩:=rem_w gz;obtain⟨row',gs,hF⟩:=bS hF;obtain⟨s1,s2,s3,s4,s5⟩:=setI_w gs;obtain⟨t',gt',hF⟩:=bS hF;have st:t'=t.set r.toNat row':=setI_eq gt';have sm:s'=s.set i.toNat t':=setI_eq hF;obtain⟨key,uid,vs,x1,K1,hm,a1,a2,a3,a4,a5,a6⟩:=rep_focus hr tb;obtain⟨key2,uid2,vs2,x2,K2,hx1,b1,b2,b3,b4,b5,b6⟩:=rep_focus a4 rb;rcases row_int b4 with⟨_,rfl,_⟩|⟨key3,uid3,hx2,d1,d2⟩
 ·exact absurd ob (by simp)
 have o1:=ofCells_drop a2;have o2:=ofCells_drop b2;have o3:ofCells none (List.drop pl.toNat (row.map Enc.enc))=some (V.int .i64 old):=ofCells_drop (by rw[List.getElem?_map,ob]; rfl);have s5':List.take pl.toNat (row.map Enc.enc)++[V.int .i64 z]++List.drop (pl.toNat+1) (row.map Enc.enc)=List.map Enc.enc row':=s5;simp only at a1 b1 d1;have k1:key < E.length:=(List.getElem?_eq_some_iff.1 a1).1;have k2:key2 < E.length:=(List.getElem?_eq_some_iff.1 b1).1;have k3:key3 < E.length:=(List.getElem?_eq_some_iff.1 d1).1;have p1:∀x,(E++[x])[key]? =some (uid,some vs):=fun x=>(List.getElem?_append_left k1).trans a1;have p2:∀x,(E++[x])[key2]? =some (uid2,some vs2):=fun x=>(List.getElem?_append_left k2).trans b1;have p3:∀x,(E++[x])[key3]? =some (uid3,some (row.map Enc.enc)):=fun x=>(List.getElem?_append_left k3).trans d1;simp only[simprocAttr,R0,b75,hl_0,h0,h1,h2,h3,h4,get_last,hm,wi,ta,eq_true tc,p1,o1,hx1,ra,eq_true rc,p2,o2,hx2,oa,eq_true oc,p3,o3,wa,wb0,wb,wd,wz,s3,s5'];rw[←hm];have q:∀k,k≠key3→k < E.length→((E++[(c,some [V.int .i64 p,dv,m])]).set key3 (uid3,some (List.map Enc.enc row')))[k]? =E[k]?:=fun k h1 h2=> set_app_new h1 h2;have r0:Deep.rep ⟨(E++[(c,some [V.int .i64 p,dv,m])]).set key3 (uid3,some (List.map Enc.enc row')),c+1⟩ x2 row' K2:=by
  rw[hx2,←s4]; exact int_row (set_app_key (by simp; omega)) d2
 have r1:=b6 _ _ r0 (fun k hk nk=> q k (fun e=> nk ((d2 k).2 e)) (Deep.bd a4 hk));rw[←st]at r1;have r2:=a6 _ _ r1 (fun k hk nk=> q k (fun e=> nk (b5 k ((d2 k).2 e))) (Deep.bd hr hk));rw[←sm]at r2;refine ai (fun _=> trivial) ⟨?_,r2,fun k hk nk=> q k (fun e=> nk (a5 k (b5 k ((d2 k).2 e)))) hk,by simp⟩;simp only[simprocAttr,R1,fn_out,p75,mapO];rfl
def F36_2_B(a0:GDga)(ms:List Int)(i:Int)(l:List Int):Option (List Int⊕List Int):=(getI ms i).bind fun k=>(ixI 8 k).bind fun x=>(app 8 l [a0.Levels.val.getD x 0]).bind fun l2=> some (.inl l2)
def F36_1_B(a0:GDga)(n:Int)(s:List (List Int)×List Int):Option ((List (List Int)×List Int)⊕(List (List Int)×List Int)):=(F72 a0 n).bind fun ms=>(forR 0 (ms.length:Int) (F36_2_B a0 ms) (fun _ l=> some l) []).bind fun lv=>(app 24 s.1 [lv]).bind fun l2=>(app 8 s.2 [(lv.length:Int)]).bind fun d2=> some (.inl (l2,d2))
def F36_5_B(a0:GDga)(p n r k:Int)(ms:List Int)(j:Int)(s:List (List (List Int))):Option (List (List (List Int))⊕List (List (List Int))):=(getI ms j).bind fun k2=>(ixI 8 k).bind fun x=>(ixI 8 k2).bind fun y=>(chk (a0.Diff.val.getD (x*8+y) 0)).bind fun v=>(F75 p n r j v s).bind fun s2=> some (.inl s2)
def F36_4_B(a0:GDga)(p n:Int)(ms:List Int)(j:Int)(s:List (List (List Int))):Option (List (List (List Int))⊕List (List (List Int))):=(getI ms j).bind fun k=>(chk (n - 1)).bind fun m=>(F72 a0 m).bind fun ns=>(forR 0 (ns.length:Int) (F36_5_B a0 p n j k ns) (fun _ s=> some s) s).bind fun s2=> some (.inl s2)
def F36_3_B(a0:GDga)(p:Int)(n:Int)(s:List (List (List Int))):Option (List (List (List Int))⊕List (List (List Int))):=(F72 a0 n).bind fun ms=>(forR 0 (ms.length:Int) (F36_4_B a0 p n ms) (fun _ s=> some s) s).bind fun s2=> some (.inl s2)
def F36(a0:GDga):Option GFiltered:=(chk (a0.Size - 1)).bind fun x=>(ixI 8 x).bind fun y=>(chk (a0.Degrees.val.getD y 0+1)).bind fun top=>(forR 0 top (F36_1_B a0) (fun _ s=> some s) ([],[])).bind fun s=>(F74 a0.Prime s.2).bind fun c=>(forR 1 (s.2.length:Int) (F36_3_B a0 c.Prime) (fun _ m=> some m) c.Maps).bind fun m=> some ⟨⟨c.Prime,c.Dims,m⟩,s.1⟩
set_option maxHeartbeats 8000000 in
theorem s36(a0:GDga){r:GFiltered}(hF:F36 a0=some r):ans A 36 [V.agg (ceGDga a0)]=some (Enc.enc r):=by
 refine ans_of (f:=p36) rfl rfl rfl fun e hl he=>?_;have h0_0:e.at 0=V.agg (ceGDga a0):=he 0 _ rfl;have hl_0:e.length=101:=hl;clear he hl;show W A b36 e ⟨[],0⟩ _;unfold F36 at hF;obtain⟨x,gx,hF⟩:=bS hF;have wx:=chk_w gx;obtain⟨y,gy,hF⟩:=bS hF;obtain⟨ya,yb,yc,yd⟩:=ixI_w gy;obtain⟨top,gtop,hF⟩:=bS hF;have wtop:=chk_w gtop;have wS:ofCells none (List.drop 1 (ceGDga a0))=some (V.int .i64 a0.Size):=ceGDga_Size_one rfl;have wP:ofCells none (ceGDga a0)=some (V.int .i64 a0.Prime):=ceGDga_Prime_one (a:=_) rfl;have wD:ofCells none (List.drop y (List.drop 2 (ceGDga a0)))=some (V.int .i64 (a0.Degrees.val.getD y 0)):=by simp only[List.drop_drop]; exact ceGDga_Degrees_one (i:=y) (by omega) (by omega)
 obtain⟨⟨lv,dims⟩,g1,hF⟩:=bS hF;dsimp only at hF;simp only[simprocAttr, -Int.reduceNatCast',R0,b36,hl_0,h0_0,wS,wx,ya,yb,yc,wD,wtop];show W A (.block 0 (.loop true b36_1)) _ _ _;rw[W_block];refine W_forR g1 _ rfl (fun i s e h=>∃u ud vs K,h.ents[1]? =some (1,some [V.int .i64 0,.nils,.nils,.nils])∧h.ents[4]? =some (u,some vs)∧h.ents[5]? =some (ud,some (List.map Enc.enc s.2))∧h.ents[6]? =some (6,some [V.int .i64 0,V.sl 2 2 0 0 1,V.sl 3 3 0 0 1,V.sl 4 u 0 s.1.length 1])∧reps h vs s.1 K∧(∀k,K k→7≤k)∧e.length=101∧e.at 1=V.iptr (ceGDga a0)∧e.at 2=V.ptr 1 1 0∧e.at 3=V.ptr 6 6 0∧e.at 4=V.sl 5 ud 0 s.2.length 1∧e.at 22=V.int .i64 top∧e.at 23=V.int .i64 i) ?_ ?_ ?_
 ·refine⟨4,5,[],fun _=> False,rfl,rfl,rfl,rfl,fun _ x=> x,fun _ x=> x.elim,?_⟩
  simp only[simprocAttr, -Int.reduceNatCast',R0,hl_0,h0_0]
 ·clear hl_0 h0_0
  rintro i ⟨l,q⟩ e ⟨E,c⟩ ⟨u,ud,vs,K,k1,k4,k5,k6,k7,k8,hl_1,h1_1,h2_1,h3_1,h4_1,h22_1,h23_1⟩ hlt hw o ho;unfold F36_1_B at ho;simp only at ho k1 k4 k5 k6 k7 h4_1;obtain⟨ms,gms,ho⟩:=bS ho;have wM:ans A 72 [V.agg (ceGDga a0),V.int .i64 i]=some (V.isl (ms.map Enc.enc)):=s72 a0 i gms;obtain⟨lw,glv,ho⟩:=bS ho;obtain⟨l2,gl2,ho⟩:=bS ho;obtain⟨q1,q2,rfl⟩:=app_w gl2;obtain⟨d2,gd2,ho⟩:=bS ho;obtain⟨p1,p2,rfl⟩:=app_w gd2;have hE:=Option.some.inj ho; subst hE;have e6:6 < E.length:=(List.getElem?_eq_some_iff.1 k6).1;simp only[simprocAttr, -Int.reduceNatCast',R0,b36_1,hl_1,h1_1,h2_1,h3_1,h4_1,h22_1,h23_1,eq_true hlt,hw,wM];refine W.mono (Q:=fun x' e h=> x'= .normal∧∃u',h.ents[E.length]? =some (u',some (lw.map Enc.enc))∧(∀k,k < E.length→h.ents[k]? =E[k]?)∧e.length=101∧e.at 1=V.iptr (ceGDga a0)∧e.at 2=V.ptr 1 1 0∧e.at 3=V.ptr 6 6 0∧e.at 4=V.sl 5 ud 0 q.length 1∧e.at 6=V.sl E.length u' 0 lw.length 1∧e.at 22=V.int .i64 top∧e.at 23=V.int .i64 i) ?_ ?_
  rotate_left
  ·rintro _ e ⟨E1,c1⟩ ⟨rfl,u',f1,f4,hl_2,h1_2,h2_2,h3_2,h4_2,h6_2,h22_2,h23_2⟩
   simp only at f1 f4;have hln:=k7.len;have hE1:E.length < E1.length:=(List.getElem?_eq_some_iff.1 f1).1;have m1:=(f4 1 (by omega)).trans k1;have m4:=(f4 4 (by omega)).trans k4;have m5:=(f4 5 (by omega)).trans k5;have m6:=(f4 6 (by omega)).trans k6;have w9:∀y c',appendV 1 24 (.sl 4 u 0 l.length 1) 1 [V.sl E.length u' 0 lw.length 1] ⟨E1++[y],c'⟩=_:=fun y c'=> appendV_deep (E:=E1++[y]) (vs:=vs) (by rw[List.getElem?_append_left (by omega)]; exact m4) hln (by simpa using q1) (by simpa using q2);have wf:∀y z c',frz ⟨(E1++[y]).set 4 z,c'⟩ 16 (V.sl E.length u' 0 lw.length 1)=_:=fun y z c'=> frz_row (l:=lw) (by rw[set_app_new (by omega) (by omega)]; exact f1);have ws:ans A 73 [V.isl (lw.map Enc.enc)]=some (V.int .i64 (lw.length:Int)):=s73 lw rfl;have w10:∀y z x c',appendV 1 8 (.sl 5 ud 0 q.length 1) 1 [V.int .i64 (lw.length:Int)] ⟨(E1++[y]).set 4 z++[x],c'⟩=_:=fun y z x c'=> appendV_deep (E:=(E1++[y]).set 4 z++[x]) (vs:=List.map Enc.enc q) (by rw[List.getElem?_append_left (by simp; omega),set_app_new (by omega) (by omega)]; exact m5) (by simp) (by simpa using p1) (by simpa using p2);have n6:∀y z x,((E1++[y]).set 4 z++[x])[6]? =_:=fun y z x=>((List.getElem?_append_left (by simp; omega)).trans (set_app_new (by omega) (by omega))).trans m6;have n6':∀y z x z',(((E1++[y]).set 4 z++[x]).set 5 z')[6]? =_:=fun y z x z'=>(set_ne (by omega)).trans (n6 y z x);have gl2:∀ (y z x),((E1++[y]).set 4 z++[x])[(E1++[y]).length]? =some x:=fun y z x=> by
    rw[List.getElem?_append_right (by simp)]; simp
   have gl3:∀ (y z x),((E1++[y]).set 4 z++[x])[E1.length+1]? =some x:=fun y z x=> by
    rw[List.getElem?_append_right (by simp)]; simp
   simp only[simprocAttr, -Int.reduceNatCast',R0,hl_2,h1_2,h2_2,h3_2,h4_2,h6_2,h22_2,h23_2,hw,m6,get_last,w9,wf,ws,w10,n6,n6',gl2,gl3,List.length_set,le1];have hk:∀k,K k∨k=E.length→7≤k:=fun k w=> w.elim (k8 k) (fun w=> by omega);have old:∀ (z4 z5 z6:Nat×Option (List V)) (y x:Nat×Option (List V)) (k:Nat),k≠4→k≠5→k≠6→k < E1.length→((((E1++[y]).set 4 z4++[x]).set 5 z5).set 6 z6)[k]? =E1[k]?:=fun z4 z5 z6 y x k a1 a2 a3 a4=>
    (set_ne a3).trans ((set_ne a2).trans ((List.getElem?_append_left (by simp; omega)).trans (set_app_new a1 a4)))
   refine ai rfl ⟨c1+1,c1+1+1+1,vs++[V.sl E.length u' 0 lw.length 1],(fun k=> K k∨k=E.length),?_,?_,?_,?_,?_,hk,?_⟩
   ·exact(old _ _ _ _ _ 1 (by omega) (by omega) (by omega) (by omega)).trans m1
   ·exact(set_ne (by omega)).trans ((set_ne (by omega)).trans ((List.getElem?_append_left (by simp; omega)).trans (set_app_key (by simp; omega))))
   ·refine(set_ne (by omega)).trans ((set_app_key (by simp; omega)).trans ?_)
    simp only[List.map_append,List.map_cons,List.map_nil]; rfl
   ·refine(set_app_key (by simp; omega)).trans ?_
    simp only[List.length_append,List.length_cons,List.length_nil,Nat.zero_add]
   ·exact deep_round (h:=⟨E,c⟩) (h1:=⟨E1,c1⟩) (K1:=fun k=> k=E.length) k7 (int_row f1 fun k=> Iff.rfl) (fun k w=> by show E.length≤k; omega) f4 (fun k p w=> by have:=hk k w; exact old _ _ _ _ _ k (by omega) (by omega) (by omega) p) (by show E.length≤E1.length; omega)
   ·simp only[simprocAttr, -Int.reduceNatCast',R0,hl_2,h1_2,h2_2,h3_2,h4_2,h6_2,h22_2,h23_2,hw,List.length_append]
  show W A (.block 2 (.loop true b36_2)) _ _ _;rw[W_block];refine W_forR glv _ rfl (fun j l e h=>∃u',h.ents[E.length]? =some (u',some (l.map Enc.enc))∧(∀k,k < E.length→h.ents[k]? =E[k]?)∧e.length=101∧e.at 1=V.iptr (ceGDga a0)∧e.at 2=V.ptr 1 1 0∧e.at 3=V.ptr 6 6 0∧e.at 4=V.sl 5 ud 0 q.length 1∧e.at 6=V.sl E.length u' 0 l.length 1∧e.at 22=V.int .i64 top∧e.at 23=V.int .i64 i∧e.at 29=V.isl (ms.map Enc.enc)∧e.at 30=V.int .i64 (ms.length:Int)∧e.at 31=V.int .i64 j) ?_ ?_ ?_
  ·refine⟨c,get_last _ _,fun k w=> List.getElem?_append_left w,?_⟩
   simp only[simprocAttr, -Int.reduceNatCast',R0,hl_1,h1_1,h2_1,h3_1,h4_1,h22_1,h23_1]
  ·clear hl_1 h1_1 h2_1 h3_1 h4_1 h22_1 h23_1
   rintro j l e ⟨E1,c1⟩ ⟨u',f1,f4,hl_1,h1_1,h2_1,h3_1,h4_1,h6_1,h22_1,h23_1,h29_1,h30_1,h31_1⟩ hlt2 hw2 o ho;unfold F36_2_B at ho;simp only at f1 f4;obtain⟨k,gk,ho⟩:=bS ho;obtain⟨wka,wkb⟩:=getI_w gk;obtain⟨x,gx,ho⟩:=bS ho;obtain⟨xa,xb,xc,xd⟩:=ixI_w gx;have wL:ofCells none (List.drop x (List.drop 10 (ceGDga a0)))=some (V.int .i64 (a0.Levels.val.getD x 0)):=by simp only[List.drop_drop]; exact ceGDga_Levels_one (i:=x) (by omega) (by omega)
   obtain⟨l3,gl3,ho⟩:=bS ho;obtain⟨q1,q2,rfl⟩:=app_w gl3;have hE:=Option.some.inj ho; subst hE;have hE1:E.length < E1.length:=(List.getElem?_eq_some_iff.1 f1).1;have w9:∀y c',appendV 1 8 (.sl E.length u' 0 l.length 1) 1 [V.int .i64 (a0.Levels.val.getD x 0)] ⟨E1++[y],c'⟩=_:=fun y c'=> appendV_deep (E:=E1++[y]) (vs:=List.map Enc.enc l) (by rw[List.getElem?_append_left hE1]; exact f1) (by simp) (by simpa using q1) (by simpa using q2);simp only[simprocAttr, -Int.reduceNatCast',R0,b36_2,hl_1,h1_1,h2_1,h3_1,h4_1,h6_1,h22_1,h23_1,h29_1,h30_1,h31_1,eq_true hlt2,hw2,wka,wkb,xa,xb,xc,wL,get_last,w9];refine ai rfl ⟨c1+1,(set_app_key (by simp; omega)).trans ?_,fun k w=>(set_app_new (by omega) (by omega)).trans (f4 k w),?_⟩
   ·simp only[List.map_append,List.map_cons,List.map_nil]; rfl
   ·simp only[simprocAttr, -Int.reduceNatCast',R0,hl_1,h1_1,h2_1,h3_1,h4_1,h6_1,h22_1,h23_1,h29_1,h30_1,h31_1,hw2,List.length_append]
  ·clear hl_1 h1_1 h2_1 h3_1 h4_1 h22_1 h23_1
   rintro j l e ⟨E1,c1⟩ ⟨u',f1,f4,hl_1,h1_1,h2_1,h3_1,h4_1,h6_1,h22_1,h23_1,h29_1,h30_1,h31_1⟩ hge t1 ho;have hE:=Option.some.inj ho; subst hE;simp only[simprocAttr, -Int.reduceNatCast',R0,b36_2,hl_1,h1_1,h2_1,h3_1,h4_1,h6_1,h22_1,h23_1,h29_1,h30_1,h31_1,eq_false hge];intro ht; subst ht;exact⟨u',f1,f4,rfl⟩
 ·clear hl_0 h0_0
  rintro i ⟨l,q⟩ e ⟨E,c⟩ ⟨u,ud,vs,K,k1,k4,k5,k6,k7,k8,hl_1,h1_1,h2_1,h3_1,h4_1,h22_1,h23_1⟩ hge t1 ho;have hE:=Option.some.inj ho; subst hE;simp only at k1 k4 k5 k6 k7 h4_1;simp only[simprocAttr, -Int.reduceNatCast',R0,b36_1,hl_1,h1_1,h2_1,h3_1,h4_1,h22_1,h23_1,eq_false hge];intro ht;obtain⟨rfl,rfl⟩:=Prod.mk.inj ht;obtain⟨cx,gcx,hF⟩:=bS hF;obtain⟨m',gm,hF⟩:=bS hF;have hE:=Option.some.inj hF; subst hE;obtain⟨bv,⟨E0,c0⟩,w1,w2,w3,m,K1,rfl,w4,w5,w6,w7⟩:=d74 a0.Prime q gcx E c (dk:=5) (du:=ud) k5;simp only at w6 w7;have e6:6 < E.length:=(List.getElem?_eq_some_iff.1 k6).1;have n6:=(w6 6 e6).trans k6;simp only[simprocAttr, -Int.reduceNatCast',R0,hl_1,h1_1,h2_1,h3_1,h4_1,h22_1,h23_1,wP,callM_plain_eq,w1,n6];show W A (.block 4 (.loop true b36_3)) _ _ _;rw[W_block];refine W_forR gm _ rfl (fun i s e h=>∃K1,h.ents[6]? =some (6,some [V.int .i64 cx.Prime,V.sl 5 ud 0 q.length 1,m,V.sl 4 u 0 l.length 1])∧(∀k,k < E.length→k≠6→h.ents[k]? =E[k]?)∧Deep.rep h m s K1∧(∀k,K1 k→E.length≤k)∧E.length≤h.ents.length∧e.length=101∧e.at 1=V.iptr (ceGDga a0)∧e.at 2=V.ptr 1 1 0∧e.at 3=V.ptr 6 6 0∧e.at 4=V.sl 5 ud 0 q.length 1∧e.at 9=V.int .i64 i) ?_ ?_ ?_
  ·refine⟨K1,set_app_key (by omega),fun k a b=>(set_ne b).trans (w6 k a),Deep.frame w4 fun k a=> set_ne (by have:=w5 k a; omega),w5,by simpa using w7,?_⟩
   simp only[simprocAttr, -Int.reduceNatCast',R0,hl_1,h1_1,h2_1,h3_1,h4_1]
  ·clear hl_1 h1_1 h2_1 h3_1 h4_1 h22_1 h23_1
   rintro i s e ⟨E1,c1⟩ ⟨K2,f6,fo,fr,fk,fl0,hl_1,h1_1,h2_1,h3_1,h4_1,h9_1⟩ hlt hw o ho;unfold F36_3_B at ho;simp only at f6 fo;obtain⟨ms,gms,ho⟩:=bS ho;have wM:ans A 72 [V.agg (ceGDga a0),V.int .i64 i]=some (V.isl (ms.map Enc.enc)):=s72 a0 i gms;obtain⟨s2,gs2,ho⟩:=bS ho;have hE:=Option.some.inj ho; subst hE;have wfz:frz ⟨E1,c1⟩ 16 (V.sl 5 ud 0 q.length 1)=_:=frz_row (l:=q) ((fo 5 (by omega) (by omega)).trans k5);have ws:ans A 73 [V.isl (q.map Enc.enc)]=some (V.int .i64 (q.length:Int)):=s73 q rfl;simp only[simprocAttr, -Int.reduceNatCast',R0,b36_3,hl_1,h1_1,h2_1,h3_1,h4_1,h9_1,wfz,ws,eq_true hlt,wM,hw];show W A (.block 6 (.loop true b36_4)) _ _ _;rw[W_block];refine W_forR gs2 _ rfl (fun j s e h=>∃K1,h.ents[6]? =some (6,some [V.int .i64 cx.Prime,V.sl 5 ud 0 q.length 1,m,V.sl 4 u 0 l.length 1])∧(∀k,k < E.length→k≠6→h.ents[k]? =E[k]?)∧Deep.rep h m s K1∧(∀k,K1 k→E.length≤k)∧E.length≤h.ents.length∧e.length=101∧e.at 1=V.iptr (ceGDga a0)∧e.at 2=V.ptr 1 1 0∧e.at 3=V.ptr 6 6 0∧e.at 4=V.sl 5 ud 0 q.length 1∧e.at 9=V.int .i64 i∧e.at 68=V.isl (ms.map Enc.enc)∧e.at 69=V.int .i64 (ms.length:Int)∧e.at 70=V.int .i64 j) ?_ ?_ ?_
   ·refine⟨K2,f6,fo,fr,fk,fl0,?_⟩
    simp only[simprocAttr, -Int.reduceNatCast',R0,hl_1,h1_1,h2_1,h3_1,h4_1,h9_1]
   ·clear hl_1 h1_1 h2_1 h3_1 h4_1 h9_1
    rintro j s e ⟨E2,c2⟩ ⟨K3,f6,fo,fr,fk,fl,hl_1,h1_1,h2_1,h3_1,h4_1,h9_1,h68_1,h69_1,h70_1⟩ hlt2 hw2 o ho;unfold F36_4_B at ho;simp only at f6 fo fl;obtain⟨k,gk,ho⟩:=bS ho;obtain⟨wka,wkb⟩:=getI_w gk;obtain⟨mm,gmm,ho⟩:=bS ho;have wmm:=chk_w gmm;obtain⟨ns,gns,ho⟩:=bS ho;have wN:ans A 72 [V.agg (ceGDga a0),V.int .i64 mm]=some (V.isl (ns.map Enc.enc)):=s72 a0 mm gns;obtain⟨s3,gs3,ho⟩:=bS ho;have hE:=Option.some.inj ho; subst hE;simp only[simprocAttr, -Int.reduceNatCast',R0,b36_4,hl_1,h1_1,h2_1,h3_1,h4_1,h9_1,h68_1,h69_1,h70_1,eq_true hlt2,wka,wkb,wmm,wN,hw2];show W A (.block 8 (.loop true b36_5)) _ _ _;rw[W_block];refine W_forR gs3 _ rfl (fun jj s e h=>∃K1,h.ents[6]? =some (6,some [V.int .i64 cx.Prime,V.sl 5 ud 0 q.length 1,m,V.sl 4 u 0 l.length 1])∧(∀k,k < E.length→k≠6→h.ents[k]? =E[k]?)∧Deep.rep h m s K1∧(∀k,K1 k→E.length≤k)∧E.length≤h.ents.length∧e.length=101∧e.at 1=V.iptr (ceGDga a0)∧e.at 2=V.ptr 1 1 0∧e.at 3=V.ptr 6 6 0∧e.at 4=V.sl 5 ud 0 q.length 1∧e.at 9=V.int .i64 i∧e.at 10=V.int .i64 j∧e.at 11=V.int .i64 k∧e.at 68=V.isl (ms.map Enc.enc)∧e.at 69=V.int .i64 (ms.length:Int)∧e.at 70=V.int .i64 j∧e.at 78=V.isl (ns.map Enc.enc)∧e.at 79=V.int .i64 (ns.length:Int)∧e.at 80=V.int .i64 jj) ?_ ?_ ?_
    ·refine⟨K3,f6,fo,fr,fk,fl,?_⟩
     simp only[simprocAttr, -Int.reduceNatCast',R0,hl_1,h1_1,h2_1,h3_1,h4_1,h9_1,h68_1,h69_1,h70_1]
    ·clear hl_1 h1_1 h2_1 h3_1 h4_1 h9_1 h68_1 h69_1 h70_1
     rintro jj s e ⟨E3,c3⟩ ⟨K4,f6,fo,fr,fk,fl2,hl_1,h1_1,h2_1,h3_1,h4_1,h9_1,h10_1,h11_1,h68_1,h69_1,h70_1,h78_1,h79_1,h80_1⟩ hlt3 hw3 o ho;unfold F36_5_B at ho;simp only at f6 fo fl2;obtain⟨k2,gk2,ho⟩:=bS ho;obtain⟨va,vb⟩:=getI_w gk2;obtain⟨x1,gx1,ho⟩:=bS ho;obtain⟨xa,xb,xc,xd⟩:=ixI_w gx1;obtain⟨x2,gx2,ho⟩:=bS ho;obtain⟨za,zb,zc,zd⟩:=ixI_w gx2;have wL:ofCells none (List.drop x2 (List.drop (x1*8) (List.drop 18 (ceGDga a0))))=some (V.int .u8 (a0.Diff.val.getD (x1*8+x2) 0)):=by simp only[List.drop_drop]; exact ceGDga_Diff_one (i:=x1*8+x2) (by omega) (by omega)
     obtain⟨v,gv,ho⟩:=bS ho;have wv:=chk_w gv;obtain⟨s4,gs4,ho⟩:=bS ho;have hE:=Option.some.inj ho; subst hE;obtain⟨⟨E4,c4⟩,t1,t2,t3,t4⟩:=d75 (dv:=V.sl 5 ud 0 q.length 1) gs4 E3 c3 fr;simp only at t3 t4;have e3:6 < E3.length:=(List.getElem?_eq_some_iff.1 f6).1;simp only[simprocAttr, -Int.reduceNatCast',R0,b36_5,hl_1,h1_1,h2_1,h3_1,h4_1,h9_1,h10_1,h11_1,h68_1,h69_1,h70_1,h78_1,h79_1,h80_1,eq_true hlt3,va,vb,xa,xb,xc,za,zb,zc,wL,wv,f6,hw3,callM_plain_eq,t1];refine ai rfl ⟨K4,?_,fun k' a b=>?_,t2,fk,Nat.le_trans fl2 t4,?_⟩
     ·exact(t3 6 e3 (fun a=> by have:=fk _ a; omega)).trans f6
     ·exact(t3 k' (by omega) (fun a=> by have:=fk _ a; omega)).trans (fo k' a b)
     ·simp only[simprocAttr, -Int.reduceNatCast',R0,hl_1,h1_1,h2_1,h3_1,h4_1,h9_1,h10_1,h11_1,h68_1,h69_1,h70_1,h78_1,h79_1,h80_1,hw3]
    ·clear hl_1 h1_1 h2_1 h3_1 h4_1 h9_1 h68_1 h69_1 h70_1
     rintro jj s e ⟨E3,c3⟩ ⟨K4,f6,fo,fr,fk,fl2,hl_1,h1_1,h2_1,h3_1,h4_1,h9_1,h10_1,h11_1,h68_1,h69_1,h70_1,h78_1,h79_1,h80_1⟩ hge t1 ho;have hE:=Option.some.inj ho; subst hE;simp only[simprocAttr, -Int.reduceNatCast',R0,b36_5,hl_1,h1_1,h2_1,h3_1,h4_1,h9_1,h10_1,h11_1,h68_1,h69_1,h70_1,h78_1,h79_1,h80_1,eq_false hge,hw2];intro ht; subst ht;refine ai rfl ⟨K4,f6,fo,fr,fk,fl2,?_⟩;simp only[simprocAttr, -Int.reduceNatCast',R0,hl_1,h1_1,h2_1,h3_1,h4_1,h9_1,h68_1,h69_1,h70_1,hw2]
   ·clear hl_1 h1_1 h2_1 h3_1 h4_1 h9_1
    rintro j s e ⟨E2,c2⟩ ⟨K3,f6,fo,fr,fk,fl,hl_1,h1_1,h2_1,h3_1,h4_1,h9_1,h68_1,h69_1,h70_1⟩ hge t1 ho;have hE:=Option.some.inj ho; subst hE;simp only[simprocAttr, -Int.reduceNatCast',R0,b36_4,hl_1,h1_1,h2_1,h3_1,h4_1,h9_1,h68_1,h69_1,h70_1,eq_false hge,hw];intro ht; subst ht;refine ai rfl ⟨K3,f6,fo,fr,fk,fl,?_⟩;simp only[simprocAttr, -Int.reduceNatCast',R0,hl_1,h1_1,h2_1,h3_1,h4_1,h9_1,hw]
  ·clear hl_1 h1_1 h2_1 h3_1 h4_1 h22_1 h23_1
   rintro i s e ⟨E1,c1⟩ ⟨K2,f6,fo,fr,fk,fl0,hl_1,h1_1,h2_1,h3_1,h4_1,h9_1⟩ hge t1 ho;have hE:=Option.some.inj ho; subst hE;simp only at f6 fo;have m1:=(fo 1 (by omega) (by omega)).trans k1;have m4:=(fo 4 (by omega) (by omega)).trans k4;have m5:=(fo 5 (by omega) (by omega)).trans k5;have wfz:frz ⟨E1,c1⟩ 16 (V.sl 5 ud 0 q.length 1)=_:=frz_row (l:=q) m5;have ws:ans A 73 [V.isl (q.map Enc.enc)]=some (V.int .i64 (q.length:Int)):=s73 q rfl;simp only[simprocAttr, -Int.reduceNatCast',R0,b36_3,hl_1,h1_1,h2_1,h3_1,h4_1,h9_1,wfz,ws,eq_false hge,f6,m1];intro ht; subst ht;have e1:1 < E1.length:=(List.getElem?_eq_some_iff.1 m1).1;have z5:∀z,frz ⟨E1.set 1 z,c1⟩ 15 (V.sl 5 ud 0 q.length 1)=_:=fun z=> Deep.fz (α:=List Int) (K:=fun k=> k=5) (int_row ((set_ne (by omega)).trans m5) fun k=> Iff.rfl) 10;have zm:∀z,frz ⟨E1.set 1 z,c1⟩ 15 m=_:=fun z=> Deep.fz (α:=List (List (List Int))) (Deep.frame fr fun k a=> set_ne (by have:=fk k a; omega)) 8;have zl:∀z,frz ⟨E1.set 1 z,c1⟩ 15 (V.sl 4 u 0 l.length 1)=_:=fun z=> Deep.fz (α:=List (List Int)) (rep_at (K:=K) ((set_ne (by omega)).trans m4) (k7.frame fun k a=>(set_ne (by have:=k8 k a; omega)).trans (fo k (k7.bd a) (by have:=k8 k a; omega))) (fun a=> by have:=k8 _ a; omega)) 9;exact fin_ret (by simp only[simprocAttr, -Int.reduceNatCast',R0,fn_out,p36,Rs.ev,hl_1,h2_1,set_app_key e1,z5,zm,zl,w3])
def F56(a0:Int)(a1:Int)(a2:Int):Option Bool:=
 if a1≤a0 then
  some (decide (a0≤a2))
 else
  some false
theorem s56(a0:Int)(a1:Int)(a2:Int){r:Bool}(hF:F56 a0 a1 a2=some r):ans A 56 [V.int .i64 a0,V.int .i64 a1,V.int .i64 a2]=some (Enc.enc r):=by
 refine ans_of (f:=p56) rfl rfl rfl fun e hl he=>?_;have h0_0:e.at 0=V.int .i64 a0:=he 0 _ rfl;have h1_0:e.at 1=V.int .i64 a1:=he 1 _ rfl;have h2_0:e.at 2=V.int .i64 a2:=he 2 _ rfl;have hl_0:e.length=15:=hl;clear he hl;have h_0:=ai hl_0 (ai h0_0 (ai h1_0 h2_0));show W A b56 e ⟨[],0⟩ _;unfold F56 at hF;by_cases c1:a1≤a0
 ·rw[if_pos c1]at hF
  cases hF;simp only[simprocAttr,R0,b56,h_0,eq_true c1];exact fin_ret (by simp only[simprocAttr,R0,fn_out,p56,Rs.ev,take_len_self,h_0,eq_true c1])
 ·rw[if_neg c1]at hF
  cases hF;simp only[simprocAttr,R0,b56,h_0,eq_false c1];exact fin_ret (by simp only[simprocAttr,R0,fn_out,p56,Rs.ev,take_len_self,h_0,eq_false c1])
def F86(a0:GComplex):Option Int:=
 (chk ((a0.Dims.length:Int) - 1)).bind fun x3=>
 some x3
theorem s86(a0:GComplex){r:Int}(hF:F86 a0=some r):ans A 86 [(eC a0)]=some (Enc.enc r):=by
 refine ans_of (f:=p86) rfl rfl rfl fun e hl he=>?_;have h0_0:e.at 0=(eC a0):=he 0 _ rfl;have hl_0:e.length=7:=hl;clear he hl;show W A b86 e ⟨[],0⟩ _;unfold F86 at hF;have w2:ans A 73 [V.isl (a0.Dims.map Enc.enc)]=some (V.int .i64 (a0.Dims.length:Int)):=s73 a0.Dims rfl;obtain⟨x3,gx3,hF⟩:=bS hF;have wx3:=chk_w gx3;cases hF;simp only[simprocAttr,R0,b86,hl_0,h0_0,w2,wx3];exact fin_ret (by simp only[simprocAttr,R0,fn_out,p86,Rs.ev,take_len_self,hl_0,h0_0,w2,wx3])
def F89(a0:List (List Int)):Option Int:=
 some (a0.length:Int)
theorem s89(a0:List (List Int)){r:Int}(hF:F89 a0=some r):ans A 89 [V.isl (a0.map Enc.enc)]=some (Enc.enc r):=by
 refine ans_of (f:=p89) rfl rfl rfl fun e hl he=>?_;have h0_0:e.at 0=V.isl (a0.map Enc.enc):=he 0 _ rfl;have hl_0:e.length=5:=hl;clear he hl;show W A b89 e ⟨[],0⟩ _;unfold F89 at hF;cases hF;simp only[simprocAttr,R0,b89,hl_0,h0_0];exact fin_ret (by simp only[simprocAttr,R0,fn_out,p89,Rs.ev,take_len_self,hl_0,h0_0])
def F69(a0:GDga)(a1:Int):Option (Ar .u8 8):=
 (ixI 8 a1).bind fun n3=>
 (some (arW 8 [] n3 1)).bind fun l5=>
 some ⟨l5⟩
theorem s69(a0:GDga)(a1:Int){r:Ar .u8 8}(hF:F69 a0 a1=some r):ans A 69 [V.agg (ceGDga a0),V.int .i64 a1]=some (Enc.enc r):=by
 refine ans_of (f:=p69) rfl rfl rfl fun e hl he=>?_;have h0_0:e.at 0=V.agg (ceGDga a0):=he 0 _ rfl;have h1_0:e.at 1=V.int .i64 a1:=he 1 _ rfl;have hl_0:e.length=10:=hl;clear he hl;show W A b69 e ⟨[],0⟩ _;unfold F69 at hF;have w2:List.drop 8 (arc .u8 8 [])=[]:=List.drop_eq_nil_of_le (by rw[arc_len]; exact Nat.le_refl _);obtain⟨n3,gn3,hF⟩:=bS hF;obtain⟨w4a,w4b,w4c,w4d⟩:=ixI_w gn3;obtain⟨l5,gl5,hF⟩:=bS hF;have w6:List.take n3 (arc .u8 8 [])++[V.int .u8 1]++List.drop (n3+1) (arc .u8 8 [])=arc .u8 8 l5:=by rw[←Option.some.inj gl5]; exact arc_set (by omega)
 have w6l:n3+1≤8:=by omega
 have w9:List.drop 8 (arc .u8 8 [])=[]:=List.drop_eq_nil_of_le (by rw[arc_len]; exact Nat.le_refl _);cases hF;simp only[simprocAttr, -Int.reduceNatCast',R0,b69,hl_0,h0_0,h1_0,(show [V.int .u8 0,V.int .u8 0,V.int .u8 0,V.int .u8 0,V.int .u8 0,V.int .u8 0,V.int .u8 0,V.int .u8 0]=arc .u8 8 [] from rfl),w2,List.append_nil,w4a,w4b,w4c,w6,eq_true w6l,w9,List.append_nil];exact fin_ret (by simp only[simprocAttr, -Int.reduceNatCast',R0,fn_out,p69,Rs.ev,take_len_self,hl_0,h0_0,h1_0,(show [V.int .u8 0,V.int .u8 0,V.int .u8 0,V.int .u8 0,V.int .u8 0,V.int .u8 0,V.int .u8 0,V.int .u8 0]=arc .u8 8 [] from rfl),w2,List.append_nil,w4a,w4b,w4c,w6,eq_true w6l,w9,List.append_nil])
def F70_1_B(a0:GDga)(a2:Ar .u8 8)(x7:Int)(v22_1:Int)(o1_1:(List Int)):Option (((List Int))⊕((List Int))):=
 (ixI 8 v22_1).bind fun n13=>
(chk (o1_1.getD n13 0)).bind fun x17=>
(chk (a2.val.getD n13 0)).bind fun x18=>
(chk (x7*x18)).bind fun x19=>
(chk (x17+x19)).bind fun x20=>
(remI x20 a0.Prime).bind fun x22=>
(some (arW 8 o1_1 n13 (Go.IntKind.wrap .u8 x22))).bind fun l24=>
some (.inl l24)
def F70_1_D(a0:GDga)(a2:Ar .u8 8)(x7:Int)(v22_1:Int)(o1_1:(List Int)):Option ((List Int)):=
 some o1_1
def F70(a0:GDga)(a1:Ar .u8 8)(a2:Ar .u8 8)(a3:Int):Option (Ar .u8 8):=
 (remI a3 a0.Prime).bind fun x2=>
 (chk (x2+a0.Prime)).bind fun x5=>
 (remI x5 a0.Prime).bind fun x7=>
 (forR 0 8 (F70_1_B a0 a2 x7) (F70_1_D a0 a2 x7) a1.val).bind fun zo1_1=>
 some ⟨zo1_1⟩
def I70_1(a0:GDga)(a2:Ar .u8 8)(x7:Int)(v22_1:Int)(o1_1:(List Int))(e:Env)(h:Heap):Prop:=
 ∃k11:Nat,h=⟨[(0,none),(1,some (arc .u8 8 o1_1)),(0,none),(3,some (arc .u8 8 []))],k11⟩∧e.length=43∧e.at 3=V.int .i64 x7∧e.at 4=V.iptr (ceGDga a0)∧e.at 5=V.ptr 1 1 0∧e.at 8=V.ptr 3 3 0∧e.at 21=V.agg (arc .u8 8 a2.val)∧e.at 22=V.int .i64 v22_1
def P70_1(a0:GDga)(a2:Ar .u8 8)(x7:Int)(zo1_1:(List Int))(x:Ex)(e:Env)(h:Heap):Prop:=
 x= .normal∧∃k11:Nat,h=⟨[(0,none),(1,some (arc .u8 8 zo1_1)),(0,none),(3,some (arc .u8 8 []))],k11⟩∧e.length=43∧e.at 5=V.ptr 1 1 0∧e.at 8=V.ptr 3 3 0
theorem l70_1(a0:GDga)(a2:Ar .u8 8)(x7:Int){lo:Int}{s:(List Int)}{t:(List Int)}(hF:forR lo 8 (F70_1_B a0 a2 x7) (F70_1_D a0 a2 x7) s=some t){e:Env}{h:Heap}(hI:I70_1 a0 a2 x7 lo s e h):W A c70_1 e h (P70_1 a0 a2 x7 t):=by
 show W A (.block 0 (.loop false b70_1)) e h _;rw[W_block];refine W_forR hF 4 (by obtain⟨_,rfl,_⟩:=hI; rfl) (I70_1 a0 a2 x7) hI ?_ ?_
 ·rintro v22_1 o1_1 e h ⟨k11,rfl,h_10⟩ hlt hw o ho
  unfold F70_1_B at ho;obtain⟨n13,gn13,ho⟩:=bS ho;obtain⟨w14a,w14b,w14c,w14d⟩:=ixI_w gn13;have w15:ofCells none (List.drop n13 (arc .u8 8 a2.val))=some (V.int .u8 (a2.val.getD n13 0)):=by first|exact arc_one' (i:=n13) (by omega) (by omega)|(simp only[List.drop_drop]; exact arc_one' (i:=n13) (by omega) (by omega))|(show ofCells none (List.drop 0 _)=_; exact arc_one' (i:=n13) (by omega) (by omega))
  have w16:ofCells none (List.drop n13 (arc .u8 8 o1_1))=some (V.int .u8 (o1_1.getD n13 0)):=by first|exact arc_one' (i:=n13) (by omega) (by omega)|(simp only[List.drop_drop]; exact arc_one' (i:=n13) (by omega) (by omega))|(show ofCells none (List.drop 0 _)=_; exact arc_one' (i:=n13) (by omega) (by omega))
  obtain⟨x17,gx17,ho⟩:=bS ho;have wx17:=chk_w gx17;obtain⟨x18,gx18,ho⟩:=bS ho;have wx18:=chk_w gx18;obtain⟨x19,gx19,ho⟩:=bS ho;have wx19:=chk_w gx19;obtain⟨x20,gx20,ho⟩:=bS ho;have wx20:=chk_w gx20;have w21:ofCells none (ceGDga a0)=some (V.int .i64 a0.Prime):=by first|exact ceGDga_Prime_one (a:=_) rfl|(simp only[List.drop_drop]; exact ceGDga_Prime_one (by omega))|(show ofCells none (List.drop 0 _)=_; exact ceGDga_Prime_one rfl)
  obtain⟨x22,gx22,ho⟩:=bS ho;obtain⟨w23a,w23b⟩:=rem_w gx22;obtain⟨l24,gl24,ho⟩:=bS ho;have w25:List.take n13 (arc .u8 8 o1_1)++[V.int .u8 (Go.IntKind.wrap .u8 x22)]++List.drop (n13+1) (arc .u8 8 o1_1)=arc .u8 8 l24:=by rw[←Option.some.inj gl24]; exact arc_set (by omega)
  have w25l:n13+1≤8:=by omega
  cases ho;simp only[simprocAttr,R0,b70_1,h_10,eq_true hlt,hw,w14a,w14b,w14c,w15,w16,wx17,wx18,wx19,wx20,w21,eq_false w23a,w23b,w25,eq_true w25l];refine ai rfl (ei _ (ai rfl ?_));simp only[simprocAttr,R0,h_10,eq_true hlt,hw,w14a,w14b,w14c,w15,w16,wx17,wx18,wx19,wx20,w21,eq_false w23a,w23b,w25,eq_true w25l]
 ·rintro v22_1 o1_1 e h ⟨k11,rfl,h_10⟩ hge t1 ho
  unfold F70_1_D at ho;cases ho;simp only[simprocAttr,R0,b70_1,h_10,eq_false hge];intro ht; subst ht;refine ai rfl (ei _ (ai rfl ?_));simp only[simprocAttr,R0,h_10,eq_false hge]
theorem s70(a0:GDga)(a1:Ar .u8 8)(a2:Ar .u8 8)(a3:Int){r:Ar .u8 8}(hF:F70 a0 a1 a2 a3=some r):ans A 70 [V.agg (ceGDga a0),V.agg (arc .u8 8 a1.val),V.agg (arc .u8 8 a2.val),V.int .i64 a3]=some (Enc.enc r):=by
 refine ans_of (f:=p70) rfl rfl rfl fun e hl he=>?_;have h0_0:e.at 0=V.agg (ceGDga a0):=he 0 _ rfl;have h1_0:e.at 1=V.agg (arc .u8 8 a1.val):=he 1 _ rfl;have h2_0:e.at 2=V.agg (arc .u8 8 a2.val):=he 2 _ rfl;have h3_0:e.at 3=V.int .i64 a3:=he 3 _ rfl;have hl_0:e.length=43:=hl;clear he hl;show W A b70 e ⟨[],0⟩ _;unfold F70 at hF;have w1:ofCells none (ceGDga a0)=some (V.int .i64 a0.Prime):=by first|exact ceGDga_Prime_one (a:=_) rfl|(simp only[List.drop_drop]; exact ceGDga_Prime_one (by omega))|(show ofCells none (List.drop 0 _)=_; exact ceGDga_Prime_one rfl)
 obtain⟨x2,gx2,hF⟩:=bS hF;obtain⟨w3a,w3b⟩:=rem_w gx2;have w4:ofCells none (ceGDga a0)=some (V.int .i64 a0.Prime):=by first|exact ceGDga_Prime_one (a:=_) rfl|(simp only[List.drop_drop]; exact ceGDga_Prime_one (by omega))|(show ofCells none (List.drop 0 _)=_; exact ceGDga_Prime_one rfl)
 obtain⟨x5,gx5,hF⟩:=bS hF;have wx5:=chk_w gx5;have w6:ofCells none (ceGDga a0)=some (V.int .i64 a0.Prime):=by first|exact ceGDga_Prime_one (a:=_) rfl|(simp only[List.drop_drop]; exact ceGDga_Prime_one (by omega))|(show ofCells none (List.drop 0 _)=_; exact ceGDga_Prime_one rfl)
 obtain⟨x7,gx7,hF⟩:=bS hF;obtain⟨w8a,w8b⟩:=rem_w gx7;obtain⟨zo1_1,gt26,hF⟩:=bS hF;simp only[simprocAttr,R0,b70,hl_0,h0_0,h1_0,h2_0,h3_0,(show [V.int .u8 0,V.int .u8 0,V.int .u8 0,V.int .u8 0,V.int .u8 0,V.int .u8 0,V.int .u8 0,V.int .u8 0]=arc .u8 8 [] from rfl),w1,eq_false w3a,w3b,w4,wx5,w6,eq_false w8a,w8b];refine W.mono (l70_1 a0 a2 x7 gt26 (ei _ (ai rfl ?_))) ?_
 ·simp only[simprocAttr,R0,hl_0,h0_0,h1_0,h2_0,h3_0,(show [V.int .u8 0,V.int .u8 0,V.int .u8 0,V.int .u8 0,V.int .u8 0,V.int .u8 0,V.int .u8 0,V.int .u8 0]=arc .u8 8 [] from rfl),w1,eq_false w3a,w3b,w4,wx5,w6,eq_false w8a,w8b]
 rintro _ e _ ⟨rfl,k11,rfl,h_12⟩;have w29:List.drop 8 (arc .u8 8 [])=[]:=List.drop_eq_nil_of_le (by rw[arc_len]; exact Nat.le_refl _);cases hF;simp only[simprocAttr,R0,h_12,eq_false w3a,eq_false w8a,w29,List.append_nil];exact fin_ret (by simp only[simprocAttr,R0,fn_out,p70,Rs.ev,take_len_self,h_12,eq_false w3a,eq_false w8a,w29,List.append_nil])
def F67(a0:Int):Option Bool:=
 if a0=2 then
  some true
 else
  if a0=3 then
   some true
  else
   if a0=5 then
    some true
   else
    some (decide (a0=7))
theorem s67(a0:Int){r:Bool}(hF:F67 a0=some r):ans A 67 [V.int .i64 a0]=some (Enc.enc r):=by
 refine ans_of (f:=p67) rfl rfl rfl fun e hl he=>?_;have h0_0:e.at 0=V.int .i64 a0:=he 0 _ rfl;have hl_0:e.length=17:=hl;clear he hl;have h_0:=ai hl_0 h0_0;show W A b67 e ⟨[],0⟩ _;unfold F67 at hF;by_cases c1:a0=2
 ·rw[if_pos c1]at hF
  cases hF;simp only[simprocAttr,R0,b67,h_0,eq_true c1];exact fin_ret (by simp only[simprocAttr,R0,fn_out,p67,Rs.ev,take_len_self,h_0,eq_true c1])
 ·rw[if_neg c1]at hF
  by_cases c2:a0=3
  ·rw[if_pos c2]at hF
   cases hF;simp only[simprocAttr,R0,b67,h_0,eq_false c1,eq_true c2];exact fin_ret (by simp only[simprocAttr,R0,fn_out,p67,Rs.ev,take_len_self,h_0,eq_false c1,eq_true c2])
  ·rw[if_neg c2]at hF
   by_cases c3:a0=5
   ·rw[if_pos c3]at hF
    cases hF;simp only[simprocAttr,R0,b67,h_0,eq_false c1,eq_false c2,eq_true c3];exact fin_ret (by simp only[simprocAttr,R0,fn_out,p67,Rs.ev,take_len_self,h_0,eq_false c1,eq_false c2,eq_true c3])
   ·rw[if_neg c3]at hF
    cases hF;simp only[simprocAttr,R0,b67,h_0,eq_false c1,eq_false c2,eq_false c3];exact fin_ret (by simp only[simprocAttr,R0,fn_out,p67,Rs.ev,take_len_self,h_0,eq_false c1,eq_false c2,eq_false c3])
def F195_1_B(a0:GDga)(a1:Ar .u8 8)(v8_1:Int)(s:Unit):Option ((Unit)⊕((Unit)⊕Bool)):=
 (ixI 8 v8_1).bind fun n5=>
(chk (a1.val.getD n5 0)).bind fun x8=>
if a0.Prime≤x8 then
 some (.inr (.inr false))
else
 if a0.Size≤v8_1 then
  if(a1.val.getD n5 0)=0 then
   some (.inl ())
  else
   some (.inr (.inr false))
 else
  some (.inl ())
def F195_1_D(a0:GDga)(a1:Ar .u8 8)(v8_1:Int)(s:Unit):Option ((Unit)⊕Bool):=
 some (.inl ())
def F195(a0:GDga)(a1:Ar .u8 8):Option Bool:=
 (forR 0 8 (F195_1_B a0 a1) (F195_1_D a0 a1) ()).bind fun t14=> match t14 with
  | .inl _=>
   some true
  | .inr r15=> some r15
def I195_1(a0:GDga)(a1:Ar .u8 8)(v8_1:Int)(s:Unit)(e:Env)(h:Heap):Prop:=
 ∃k3:Nat,h=⟨[(0,none),(0,none)],k3⟩∧e.length=28∧e.at 2=V.iptr (ceGDga a0)∧e.at 7=V.agg (arc .u8 8 a1.val)∧e.at 8=V.int .i64 v8_1
def P195_1(a0:GDga)(a1:Ar .u8 8)(t:(Unit)⊕Bool)(x:Ex)(e:Env)(h:Heap):Prop:=
 match t with
 | .inl _=> x= .normal∧∃k3:Nat,h=⟨[(0,none),(0,none)],k3⟩∧e.length=28
 | .inr r=> x= .ret∧Fin p195 (Enc.enc r) .ret e h
theorem l195_1(a0:GDga)(a1:Ar .u8 8){lo:Int}{s:Unit}{t:(Unit)⊕Bool}(hF:forR lo 8 (F195_1_B a0 a1) (F195_1_D a0 a1) s=some t){e:Env}{h:Heap}(hI:I195_1 a0 a1 lo s e h):W A c195_1 e h (P195_1 a0 a1 t):=by
 show W A (.block 0 (.loop false b195_1)) e h _;rw[W_block];refine W_forR hF 2 (by obtain⟨_,rfl,_⟩:=hI; rfl) (I195_1 a0 a1) hI ?_ ?_
 ·rintro v8_1 _ e h ⟨k3,rfl,h_2⟩ hlt hw o ho
  unfold F195_1_B at ho;obtain⟨n5,gn5,ho⟩:=bS ho;obtain⟨w6a,w6b,w6c,w6d⟩:=ixI_w gn5;have w7:ofCells none (List.drop n5 (arc .u8 8 a1.val))=some (V.int .u8 (a1.val.getD n5 0)):=by first|exact arc_one' (i:=n5) (by omega) (by omega)|(simp only[List.drop_drop]; exact arc_one' (i:=n5) (by omega) (by omega))|(show ofCells none (List.drop 0 _)=_; exact arc_one' (i:=n5) (by omega) (by omega))
  obtain⟨x8,gx8,ho⟩:=bS ho;have wx8:=chk_w gx8;have w9:ofCells none (ceGDga a0)=some (V.int .i64 a0.Prime):=by first|exact ceGDga_Prime_one (a:=_) rfl|(simp only[List.drop_drop]; exact ceGDga_Prime_one (by omega))|(show ofCells none (List.drop 0 _)=_; exact ceGDga_Prime_one rfl)
  by_cases c10:a0.Prime≤x8
  ·rw[if_pos c10]at ho
   cases ho;simp only[simprocAttr,R0,b195_1,h_2,eq_true hlt,hw,w6a,w6b,w6c,w7,wx8,w9,eq_true c10];intro ht; subst ht;simp only[simprocAttr,RR,RB];exact ai rfl (fin_ret (by simp only[simprocAttr,R0,fn_out,p195,Rs.ev,take_len_self,h_2,eq_true hlt,hw,w6a,w6b,w6c,w7,wx8,w9,eq_true c10]))
  ·rw[if_neg c10]at ho
   have w11:ofCells none (List.drop 1 (ceGDga a0))=some (V.int .i64 a0.Size):=by first|exact ceGDga_Size_one (a:=_) rfl|(simp only[List.drop_drop]; exact ceGDga_Size_one (by omega))|(show ofCells none (List.drop 0 _)=_; exact ceGDga_Size_one rfl)
   by_cases c12:a0.Size≤v8_1
   ·rw[if_pos c12]at ho
    by_cases c13:(a1.val.getD n5 0)=0
    ·rw[if_pos c13]at ho
     cases ho;simp only[simprocAttr,R0,b195_1,h_2,eq_true hlt,hw,w6a,w6b,w6c,w7,wx8,w9,eq_false c10,w11,eq_true c12,eq_true c13];refine ai rfl (ei _ (ai rfl ?_));simp only[simprocAttr,R0,h_2,eq_true hlt,hw,w6a,w6b,w6c,w7,wx8,w9,eq_false c10,w11,eq_true c12,eq_true c13]
    ·rw[if_neg c13]at ho
     cases ho;simp only[simprocAttr,R0,b195_1,h_2,eq_true hlt,hw,w6a,w6b,w6c,w7,wx8,w9,eq_false c10,w11,eq_true c12,eq_false c13];intro ht; subst ht;simp only[simprocAttr,RR,RB];exact ai rfl (fin_ret (by simp only[simprocAttr,R0,fn_out,p195,Rs.ev,take_len_self,h_2,eq_true hlt,hw,w6a,w6b,w6c,w7,wx8,w9,eq_false c10,w11,eq_true c12,eq_false c13]))
   ·rw[if_neg c12]at ho
    cases ho;simp only[simprocAttr,R0,b195_1,h_2,eq_true hlt,hw,w6a,w6b,w6c,w7,wx8,w9,eq_false c10,w11,eq_false c12];refine ai rfl (ei _ (ai rfl ?_));simp only[simprocAttr,R0,h_2,eq_true hlt,hw,w6a,w6b,w6c,w7,wx8,w9,eq_false c10,w11,eq_false c12]
 ·rintro v8_1 _ e h ⟨k3,rfl,h_2⟩ hge t1 ho
  unfold F195_1_D at ho;cases ho;simp only[simprocAttr,R0,b195_1,h_2,eq_false hge];intro ht; subst ht;refine ai rfl (ei _ (ai rfl ?_));simp only[simprocAttr,R0,h_2,eq_false hge]
theorem s195(a0:GDga)(a1:Ar .u8 8){r:Bool}(hF:F195 a0 a1=some r):ans A 195 [V.agg (ceGDga a0),V.agg (arc .u8 8 a1.val)]=some (Enc.enc r):=by
 refine ans_of (f:=p195) rfl rfl rfl fun e hl he=>?_;have h0_0:e.at 0=V.agg (ceGDga a0):=he 0 _ rfl;have h1_0:e.at 1=V.agg (arc .u8 8 a1.val):=he 1 _ rfl;have hl_0:e.length=28:=hl;clear he hl;have h_0:=ai hl_0 (ai h0_0 h1_0);show W A b195 e ⟨[],0⟩ _;unfold F195 at hF;obtain⟨t14,gt14,hF⟩:=bS hF;rcases t14 with _|r15
 ·dsimp only at hF
  simp only[simprocAttr,R0,b195,h_0];refine W.mono (l195_1 a0 a1 gt14 (ei _ (ai rfl ?_))) ?_
  ·simp only[simprocAttr,R0,h_0]
  rintro _ e _ ⟨rfl,k3,rfl,hl_4⟩;cases hF;simp only[simprocAttr,R0,hl_4];exact fin_ret (by simp only[simprocAttr,R0,fn_out,p195,Rs.ev,take_len_self,hl_4])
 ·dsimp only at hF
  cases hF;simp only[simprocAttr,R0,b195,h_0];refine W.mono (l195_1 a0 a1 gt14 (ei _ (ai rfl ?_))) ?_
  ·simp only[simprocAttr,R0,h_0]
  rintro _ e h ⟨rfl,hq⟩;simp only[simprocAttr,RR,RB];exact hq
def F196_1_B(a0:GDga)(a1:Ar .u8 8)(a2:Int)(a3:Int)(v12_1:Int)(s:Unit):Option ((Unit)⊕((Unit)⊕Bool)):=
 (ixI 8 v12_1).bind fun n5=>
if(a1.val.getD n5 0)=0 then
 some (.inl ())
else
 if(a0.Degrees.val.getD n5 0)=a2 then
  if a3 < (a0.Levels.val.getD n5 0)then
   some (.inr (.inr false))
  else
   some (.inl ())
 else
  some (.inr (.inr false))
def F196_1_D(a0:GDga)(a1:Ar .u8 8)(a2:Int)(a3:Int)(v12_1:Int)(s:Unit):Option ((Unit)⊕Bool):=
 some (.inl ())
def F196(a0:GDga)(a1:Ar .u8 8)(a2:Int)(a3:Int):Option Bool:=
 (forR 0 8 (F196_1_B a0 a1 a2 a3) (F196_1_D a0 a1 a2 a3) ()).bind fun t13=> match t13 with
  | .inl _=>
   some true
  | .inr r14=> some r14
def I196_1(a0:GDga)(a1:Ar .u8 8)(a2:Int)(a3:Int)(v12_1:Int)(s:Unit)(e:Env)(h:Heap):Prop:=
 ∃k3:Nat,h=⟨[(0,none),(0,none)],k3⟩∧e.length=35∧e.at 2=V.int .i64 a2∧e.at 3=V.int .i64 a3∧e.at 4=V.iptr (ceGDga a0)∧e.at 11=V.agg (arc .u8 8 a1.val)∧e.at 12=V.int .i64 v12_1
def P196_1(a0:GDga)(a1:Ar .u8 8)(a2:Int)(a3:Int)(t:(Unit)⊕Bool)(x:Ex)(e:Env)(h:Heap):Prop:=
 match t with
 | .inl _=> x= .normal∧∃k3:Nat,h=⟨[(0,none),(0,none)],k3⟩∧e.length=35
 | .inr r=> x= .ret∧Fin p196 (Enc.enc r) .ret e h
theorem l196_1(a0:GDga)(a1:Ar .u8 8)(a2:Int)(a3:Int){lo:Int}{s:Unit}{t:(Unit)⊕Bool}(hF:forR lo 8 (F196_1_B a0 a1 a2 a3) (F196_1_D a0 a1 a2 a3) s=some t){e:Env}{h:Heap}(hI:I196_1 a0 a1 a2 a3 lo s e h):W A c196_1 e h (P196_1 a0 a1 a2 a3 t):=by
 show W A (.block 0 (.loop false b196_1)) e h _;rw[W_block];refine W_forR hF 2 (by obtain⟨_,rfl,_⟩:=hI; rfl) (I196_1 a0 a1 a2 a3) hI ?_ ?_
 ·rintro v12_1 _ e h ⟨k3,rfl,h_2⟩ hlt hw o ho
  unfold F196_1_B at ho;obtain⟨n5,gn5,ho⟩:=bS ho;obtain⟨w6a,w6b,w6c,w6d⟩:=ixI_w gn5;have w7:ofCells none (List.drop n5 (arc .u8 8 a1.val))=some (V.int .u8 (a1.val.getD n5 0)):=by first|exact arc_one' (i:=n5) (by omega) (by omega)|(simp only[List.drop_drop]; exact arc_one' (i:=n5) (by omega) (by omega))|(show ofCells none (List.drop 0 _)=_; exact arc_one' (i:=n5) (by omega) (by omega))
  by_cases c8:(a1.val.getD n5 0)=0
  ·rw[if_pos c8]at ho
   cases ho;simp only[simprocAttr,R0,b196_1,h_2,eq_true hlt,hw,w6a,w6b,w6c,w7,eq_true c8];refine ai rfl (ei _ (ai rfl ?_));simp only[simprocAttr,R0,h_2,eq_true hlt,hw,w6a,w6b,w6c,w7,eq_true c8]
  ·rw[if_neg c8]at ho
   have w9:ofCells none (List.drop n5 (List.drop 2 (ceGDga a0)))=some (V.int .i64 (a0.Degrees.val.getD n5 0)):=by first|exact ceGDga_Degrees_one (i:=n5) (by omega) (by omega)|(simp only[List.drop_drop]; exact ceGDga_Degrees_one (i:=n5) (by omega) (by omega))|(show ofCells none (List.drop 0 _)=_; exact ceGDga_Degrees_one (i:=n5) (by omega) (by omega))
   by_cases c10:(a0.Degrees.val.getD n5 0)=a2
   ·rw[if_pos c10]at ho
    have w11:ofCells none (List.drop n5 (List.drop 10 (ceGDga a0)))=some (V.int .i64 (a0.Levels.val.getD n5 0)):=by first|exact ceGDga_Levels_one (i:=n5) (by omega) (by omega)|(simp only[List.drop_drop]; exact ceGDga_Levels_one (i:=n5) (by omega) (by omega))|(show ofCells none (List.drop 0 _)=_; exact ceGDga_Levels_one (i:=n5) (by omega) (by omega))
    by_cases c12:a3 < (a0.Levels.val.getD n5 0)
    ·rw[if_pos c12]at ho
     cases ho;simp only[simprocAttr,R0,b196_1,h_2,eq_true hlt,hw,w6a,w6b,w6c,w7,eq_false c8,w9,eq_true c10,w11,eq_true c12];intro ht; subst ht;simp only[simprocAttr,RR,RB];exact ai rfl (fin_ret (by simp only[simprocAttr,R0,fn_out,p196,Rs.ev,take_len_self,h_2,eq_true hlt,hw,w6a,w6b,w6c,w7,eq_false c8,w9,eq_true c10,w11,eq_true c12]))
    ·rw[if_neg c12]at ho
     cases ho;simp only[simprocAttr,R0,b196_1,h_2,eq_true hlt,hw,w6a,w6b,w6c,w7,eq_false c8,w9,eq_true c10,w11,eq_false c12];refine ai rfl (ei _ (ai rfl ?_));simp only[simprocAttr,R0,h_2,eq_true hlt,hw,w6a,w6b,w6c,w7,eq_false c8,w9,eq_true c10,w11,eq_false c12]
   ·rw[if_neg c10]at ho
    cases ho;simp only[simprocAttr,R0,b196_1,h_2,eq_true hlt,hw,w6a,w6b,w6c,w7,eq_false c8,w9,eq_false c10];intro ht; subst ht;simp only[simprocAttr,RR,RB];exact ai rfl (fin_ret (by simp only[simprocAttr,R0,fn_out,p196,Rs.ev,take_len_self,h_2,eq_true hlt,hw,w6a,w6b,w6c,w7,eq_false c8,w9,eq_false c10]))
 ·rintro v12_1 _ e h ⟨k3,rfl,h_2⟩ hge t1 ho
  unfold F196_1_D at ho;cases ho;simp only[simprocAttr,R0,b196_1,h_2,eq_false hge];intro ht; subst ht;refine ai rfl (ei _ (ai rfl ?_));simp only[simprocAttr,R0,h_2,eq_false hge]
theorem s196(a0:GDga)(a1:Ar .u8 8)(a2:Int)(a3:Int){r:Bool}(hF:F196 a0 a1 a2 a3=some r):ans A 196 [V.agg (ceGDga a0),V.agg (arc .u8 8 a1.val),V.int .i64 a2,V.int .i64 a3]=some (Enc.enc r):=by
 refine ans_of (f:=p196) rfl rfl rfl fun e hl he=>?_;have h0_0:e.at 0=V.agg (ceGDga a0):=he 0 _ rfl;have h1_0:e.at 1=V.agg (arc .u8 8 a1.val):=he 1 _ rfl;have h2_0:e.at 2=V.int .i64 a2:=he 2 _ rfl;have h3_0:e.at 3=V.int .i64 a3:=he 3 _ rfl;have hl_0:e.length=35:=hl;clear he hl;have h_0:=ai hl_0 (ai h0_0 (ai h1_0 (ai h2_0 h3_0)));show W A b196 e ⟨[],0⟩ _;unfold F196 at hF;obtain⟨t13,gt13,hF⟩:=bS hF;rcases t13 with _|r14
 ·dsimp only at hF
  simp only[simprocAttr,R0,b196,h_0];refine W.mono (l196_1 a0 a1 a2 a3 gt13 (ei _ (ai rfl ?_))) ?_
  ·simp only[simprocAttr,R0,h_0]
  rintro _ e _ ⟨rfl,k3,rfl,hl_4⟩;cases hF;simp only[simprocAttr,R0,hl_4];exact fin_ret (by simp only[simprocAttr,R0,fn_out,p196,Rs.ev,take_len_self,hl_4])
 ·dsimp only at hF
  cases hF;simp only[simprocAttr,R0,b196,h_0];refine W.mono (l196_1 a0 a1 a2 a3 gt13 (ei _ (ai rfl ?_))) ?_
  ·simp only[simprocAttr,R0,h_0]
  rintro _ e h ⟨rfl,hq⟩;simp only[simprocAttr,RR,RB];exact hq
def F176_2_B(a0:GDga)(v17_1:Int)(v106_2:Int)(s:Unit):Option ((Unit)⊕((Unit)⊕Bool)):=
 (ixI 8 v17_1).bind fun n39=>
(ixI 8 v106_2).bind fun n41=>
(F195 a0 ⟨(arP a0.Table.val (n39*64+n41*8) 8)⟩).bind fun x47=>
if x47=true then
 if v17_1 < a0.Size then
  if a0.Size≤v106_2 then
   (arE .u8 8 (arP a0.Table.val (n39*64+n41*8) 8) []).bind fun x53=>
   if x53=true then
    (F196 a0 ⟨(arP a0.Table.val (n39*64+n41*8) 8)⟩ (Go.IntKind.wrap .i64 ((a0.Degrees.val.getD n39 0)+(a0.Degrees.val.getD n41 0))) (Go.IntKind.wrap .i64 ((a0.Levels.val.getD n39 0)+(a0.Levels.val.getD n41 0)))).bind fun x60=>
    if x60=true then
     some (.inl ())
    else
     some (.inr (.inr false))
   else
    some (.inr (.inr false))
  else
   (F196 a0 ⟨(arP a0.Table.val (n39*64+n41*8) 8)⟩ (Go.IntKind.wrap .i64 ((a0.Degrees.val.getD n39 0)+(a0.Degrees.val.getD n41 0))) (Go.IntKind.wrap .i64 ((a0.Levels.val.getD n39 0)+(a0.Levels.val.getD n41 0)))).bind fun x67=>
   if x67=true then
    some (.inl ())
   else
    some (.inr (.inr false))
 else
  (arE .u8 8 (arP a0.Table.val (n39*64+n41*8) 8) []).bind fun x70=>
  if x70=true then
   (F196 a0 ⟨(arP a0.Table.val (n39*64+n41*8) 8)⟩ (Go.IntKind.wrap .i64 ((a0.Degrees.val.getD n39 0)+(a0.Degrees.val.getD n41 0))) (Go.IntKind.wrap .i64 ((a0.Levels.val.getD n39 0)+(a0.Levels.val.getD n41 0)))).bind fun x77=>
   if x77=true then
    some (.inl ())
   else
    some (.inr (.inr false))
  else
   some (.inr (.inr false))
else
 some (.inr (.inr false))
def F176_2_D(a0:GDga)(v17_1:Int)(v106_2:Int)(s:Unit):Option ((Unit)⊕Bool):=
 some (.inl ())
def F176_1_B(a0:GDga)(v17_1:Int)(s:Unit):Option ((Unit)⊕((Unit)⊕Bool)):=
 if v17_1 < a0.Size then
 (ixI 8 v17_1).bind fun n12=>
 (F56 (a0.Degrees.val.getD n12 0) 0 5).bind fun x15=>
 if x15=true then
  (F56 (a0.Levels.val.getD n12 0) 0 5).bind fun x18=>
  if x18=true then
   (F195 a0 ⟨(arP a0.Diff.val (n12*8) 8)⟩).bind fun x21=>
   if x21=true then
    if 0 < v17_1 then
     (chk (v17_1 - 1)).bind fun x25=>
     (ixI 8 x25).bind fun n26=>
     if(a0.Degrees.val.getD n12 0) < (a0.Degrees.val.getD n26 0)then
      some (.inr (.inr false))
     else
      (chk ((a0.Degrees.val.getD n12 0) - 1)).bind fun x32=>
      (F196 a0 ⟨(arP a0.Diff.val (n12*8) 8)⟩ x32 (a0.Levels.val.getD n12 0)).bind fun x34=>
      if x34=true then
       (forR 0 8 (F176_2_B a0 v17_1) (F176_2_D a0 v17_1) ()).bind fun t79=> match t79 with
        | .inl _=>
         some (.inl ())
        | .inr r80=> some (.inr (.inr r80))
      else
       some (.inr (.inr false))
    else
     (chk ((a0.Degrees.val.getD n12 0) - 1)).bind fun x83=>
     (F196 a0 ⟨(arP a0.Diff.val (n12*8) 8)⟩ x83 (a0.Levels.val.getD n12 0)).bind fun x85=>
     if x85=true then
      (forR 0 8 (F176_2_B a0 v17_1) (F176_2_D a0 v17_1) ()).bind fun t130=> match t130 with
       | .inl _=>
        some (.inl ())
       | .inr r131=> some (.inr (.inr r131))
     else
      some (.inr (.inr false))
   else
    some (.inr (.inr false))
  else
   some (.inr (.inr false))
 else
  some (.inr (.inr false))
else
 (ixI 8 v17_1).bind fun n132=>
 if(a0.Degrees.val.getD n132 0)=0 then
  if(a0.Levels.val.getD n132 0)=0 then
   (arE .u8 8 (arP a0.Diff.val (n132*8) 8) []).bind fun x139=>
   if x139=true then
    (F56 (a0.Degrees.val.getD n132 0) 0 5).bind fun x142=>
    if x142=true then
     (F56 (a0.Levels.val.getD n132 0) 0 5).bind fun x145=>
     if x145=true then
      (F195 a0 ⟨(arP a0.Diff.val (n132*8) 8)⟩).bind fun x148=>
      if x148=true then
       (forR 0 8 (F176_2_B a0 v17_1) (F176_2_D a0 v17_1) ()).bind fun t193=> match t193 with
        | .inl _=>
         some (.inl ())
        | .inr r194=> some (.inr (.inr r194))
      else
       some (.inr (.inr false))
     else
      some (.inr (.inr false))
    else
     some (.inr (.inr false))
   else
    some (.inr (.inr false))
  else
   some (.inr (.inr false))
 else
  some (.inr (.inr false))
def F176_1_D(a0:GDga)(v17_1:Int)(s:Unit):Option ((Unit)⊕Bool):=
 some (.inl ())
def F176(a0:GDga):Option Bool:=
 (F67 a0.Prime).bind fun x2=>
 if x2=true then
  (F56 a0.Size 1 8).bind fun x5=>
  if x5=true then
   (forR 0 8 (F176_1_B a0) (F176_1_D a0) ()).bind fun t195=> match t195 with
    | .inl _=>
     if(a0.Degrees.val.getD 0 0)=0 then
      some (decide ((a0.Levels.val.getD 0 0)=0))
     else
      some false
    | .inr r199=> some r199
  else
   some false
 else
  some false
def I176_2(a0:GDga)(v17_1:Int)(v106_2:Int)(s:Unit)(e:Env)(h:Heap):Prop:=
 ∃k37:Nat,h=⟨[(0,none)],k37⟩∧e.length=170∧e.at 1=V.iptr (ceGDga a0)∧e.at 3=V.int .i64 v17_1∧e.at 4=V.bool (decide (v17_1 < a0.Size))∧e.at 17=V.int .i64 v17_1∧e.at 106=V.int .i64 v106_2
def P176_2(a0:GDga)(v17_1:Int)(t:(Unit)⊕Bool)(x:Ex)(e:Env)(h:Heap):Prop:=
 match t with
 | .inl _=> x= .normal∧∃k37:Nat,h=⟨[(0,none)],k37⟩∧e.length=170∧e.at 1=V.iptr (ceGDga a0)∧e.at 17=V.int .i64 v17_1
 | .inr r=> x= .ret∧Fin p176 (Enc.enc r) .ret e h
set_option maxHeartbeats 8000000 in
theorem l176_2(a0:GDga)(v17_1:Int){lo:Int}{s:Unit}{t:(Unit)⊕Bool}(hF:forR lo 8 (F176_2_B a0 v17_1) (F176_2_D a0 v17_1) s=some t){e:Env}{h:Heap}(hI:I176_2 a0 v17_1 lo s e h):W A c176_2 e h (P176_2 a0 v17_1 t):=by
 show W A (.block 2 (.loop false b176_2)) e h _;rw[W_block];refine W_forR hF 1 (by obtain⟨_,rfl,_⟩:=hI; rfl) (I176_2 a0 v17_1) hI ?_ ?_
 ·rintro v106_2 _ e h ⟨k37,rfl,h_36⟩ hlt hw o ho
  unfold F176_2_B at ho;obtain⟨n39,gn39,ho⟩:=bS ho;obtain⟨w40a,w40b,w40c,w40d⟩:=ixI_w gn39;obtain⟨n41,gn41,ho⟩:=bS ho;obtain⟨w42a,w42b,w42c,w42d⟩:=ixI_w gn41;have w43:List.take 8 (List.drop (n41*8) (List.drop (n39*64) (List.drop 82 (ceGDga a0))))=arc .u8 8 (arP a0.Table.val (n39*64+n41*8) 8):=by first|exact ceGDga_Table_part (i:=n39*64+n41*8) (m:=8) (by omega) (by omega)|(simp only[List.drop_drop]; exact ceGDga_Table_part (i:=n39*64+n41*8) (m:=8) (by omega) (by omega))|(show List.take _ (List.drop 0 _)=_; exact ceGDga_Table_part (i:=n39*64+n41*8) (m:=8) (by omega) (by omega))
  have w43l:8≤List.length (List.drop (n41*8) (List.drop (n39*64) (List.drop 82 (ceGDga a0)))):=by simp only[List.length_drop,arc_len,ceGDga_len]; omega
  have w45:List.drop 8 (arc .u8 8 [])=[]:=List.drop_eq_nil_of_le (by rw[arc_len]; exact Nat.le_refl _);obtain⟨x47,gx47,ho⟩:=bS ho;have w48:ans A 195 [V.agg (ceGDga a0),V.agg (arc .u8 8 (arP a0.Table.val (n39*64+n41*8) 8))]=some (V.bool x47):=s195 a0 ⟨(arP a0.Table.val (n39*64+n41*8) 8)⟩ gx47;cases x47 with
  |true=>
   rw[if_pos rfl]at ho;by_cases c49:v17_1 < a0.Size
   ·rw[if_pos c49]at ho
    have w50:ofCells none (List.drop 1 (ceGDga a0))=some (V.int .i64 a0.Size):=by first|exact ceGDga_Size_one (a:=_) rfl|(simp only[List.drop_drop]; exact ceGDga_Size_one (by omega))|(show ofCells none (List.drop 0 _)=_; exact ceGDga_Size_one rfl)
    by_cases c51:a0.Size≤v106_2
    ·rw[if_pos c51]at ho
     obtain⟨x53,gx53,ho⟩:=bS ho;have w54:eqSV true 12 (Lay.arr 8 8 1 (Lay.int Go.IntKind.u8)) (V.agg (arc .u8 8 (arP a0.Table.val (n39*64+n41*8) 8))) (V.agg (arc .u8 8 []))=some (V.bool (!x53)):=eqS_arc1 gx53;cases x53 with
     |true=>
      rw[if_pos rfl]at ho;have w56:ofCells none (List.drop n39 (List.drop 2 (ceGDga a0)))=some (V.int .i64 (a0.Degrees.val.getD n39 0)):=by first|exact ceGDga_Degrees_one (i:=n39) (by omega) (by omega)|(simp only[List.drop_drop]; exact ceGDga_Degrees_one (i:=n39) (by omega) (by omega))|(show ofCells none (List.drop 0 _)=_; exact ceGDga_Degrees_one (i:=n39) (by omega) (by omega))
      have w57:ofCells none (List.drop n41 (List.drop 2 (ceGDga a0)))=some (V.int .i64 (a0.Degrees.val.getD n41 0)):=by first|exact ceGDga_Degrees_one (i:=n41) (by omega) (by omega)|(simp only[List.drop_drop]; exact ceGDga_Degrees_one (i:=n41) (by omega) (by omega))|(show ofCells none (List.drop 0 _)=_; exact ceGDga_Degrees_one (i:=n41) (by omega) (by omega))
      have w58:ofCells none (List.drop n39 (List.drop 10 (ceGDga a0)))=some (V.int .i64 (a0.Levels.val.getD n39 0)):=by first|exact ceGDga_Levels_one (i:=n39) (by omega) (by omega)|(simp only[List.drop_drop]; exact ceGDga_Levels_one (i:=n39) (by omega) (by omega))|(show ofCells none (List.drop 0 _)=_; exact ceGDga_Levels_one (i:=n39) (by omega) (by omega))
      have w59:ofCells none (List.drop n41 (List.drop 10 (ceGDga a0)))=some (V.int .i64 (a0.Levels.val.getD n41 0)):=by first|exact ceGDga_Levels_one (i:=n41) (by omega) (by omega)|(simp only[List.drop_drop]; exact ceGDga_Levels_one (i:=n41) (by omega) (by omega))|(show ofCells none (List.drop 0 _)=_; exact ceGDga_Levels_one (i:=n41) (by omega) (by omega))
      obtain⟨x60,gx60,ho⟩:=bS ho;have w61:ans A 196 [V.agg (ceGDga a0),V.agg (arc .u8 8 (arP a0.Table.val (n39*64+n41*8) 8)),V.int .i64 (Go.IntKind.wrap .i64 ((a0.Degrees.val.getD n39 0)+(a0.Degrees.val.getD n41 0))),V.int .i64 (Go.IntKind.wrap .i64 ((a0.Levels.val.getD n39 0)+(a0.Levels.val.getD n41 0)))]=some (V.bool x60):=s196 a0 ⟨(arP a0.Table.val (n39*64+n41*8) 8)⟩ (Go.IntKind.wrap .i64 ((a0.Degrees.val.getD n39 0)+(a0.Degrees.val.getD n41 0))) (Go.IntKind.wrap .i64 ((a0.Levels.val.getD n39 0)+(a0.Levels.val.getD n41 0))) gx60;cases x60 with
      |true=>
       rw[if_pos rfl]at ho;cases ho;simp only[simprocAttr, -Int.reduceNatCast',R0,b176_2,h_36,eq_true hlt,hw,w40a,w40b,w40c,w42a,w42b,w42c,w43,eq_true w43l,(show [V.int .u8 0,V.int .u8 0,V.int .u8 0,V.int .u8 0,V.int .u8 0,V.int .u8 0,V.int .u8 0,V.int .u8 0]=arc .u8 8 [] from rfl),w45,List.append_nil,w48,eq_true c49,w50,eq_true c51,w54,w56,w57,w58,w59,w61];refine ai rfl (ei _ (ai rfl ?_));simp only[simprocAttr, -Int.reduceNatCast',R0,h_36,eq_true hlt,hw,w40a,w40b,w40c,w42a,w42b,w42c,w43,eq_true w43l,(show [V.int .u8 0,V.int .u8 0,V.int .u8 0,V.int .u8 0,V.int .u8 0,V.int .u8 0,V.int .u8 0,V.int .u8 0]=arc .u8 8 [] from rfl),w45,List.append_nil,w48,eq_true c49,w50,eq_true c51,w54,w56,w57,w58,w59,w61]
      |false=>
       rw[if_neg Bool.false_ne_true]at ho;cases ho;simp only[simprocAttr, -Int.reduceNatCast',R0,b176_2,h_36,eq_true hlt,hw,w40a,w40b,w40c,w42a,w42b,w42c,w43,eq_true w43l,(show [V.int .u8 0,V.int .u8 0,V.int .u8 0,V.int .u8 0,V.int .u8 0,V.int .u8 0,V.int .u8 0,V.int .u8 0]=arc .u8 8 [] from rfl),w45,List.append_nil,w48,eq_true c49,w50,eq_true c51,w54,w56,w57,w58,w59,w61];intro ht; subst ht;simp only[simprocAttr, -Int.reduceNatCast',RR,RB];exact ai rfl (fin_ret (by simp only[simprocAttr, -Int.reduceNatCast',R0,fn_out,p176,Rs.ev,take_len_self,h_36,eq_true hlt,hw,w40a,w40b,w40c,w42a,w42b,w42c,w43,eq_true w43l,(show [V.int .u8 0,V.int .u8 0,V.int .u8 0,V.int .u8 0,V.int .u8 0,V.int .u8 0,V.int .u8 0,V.int .u8 0]=arc .u8 8 [] from rfl),w45,List.append_nil,w48,eq_true c49,w50,eq_true c51,w54,w56,w57,w58,w59,w61]))
     |false=>
      rw[if_neg Bool.false_ne_true]at ho;cases ho;simp only[simprocAttr, -Int.reduceNatCast',R0,b176_2,h_36,eq_true hlt,hw,w40a,w40b,w40c,w42a,w42b,w42c,w43,eq_true w43l,(show [V.int .u8 0,V.int .u8 0,V.int .u8 0,V.int .u8 0,V.int .u8 0,V.int .u8 0,V.int .u8 0,V.int .u8 0]=arc .u8 8 [] from rfl),w45,List.append_nil,w48,eq_true c49,w50,eq_true c51,w54];intro ht; subst ht;simp only[simprocAttr, -Int.reduceNatCast',RR,RB];exact ai rfl (fin_ret (by simp only[simprocAttr, -Int.reduceNatCast',R0,fn_out,p176,Rs.ev,take_len_self,h_36,eq_true hlt,hw,w40a,w40b,w40c,w42a,w42b,w42c,w43,eq_true w43l,(show [V.int .u8 0,V.int .u8 0,V.int .u8 0,V.int .u8 0,V.int .u8 0,V.int .u8 0,V.int .u8 0,V.int .u8 0]=arc .u8 8 [] from rfl),w45,List.append_nil,w48,eq_true c49,w50,eq_true c51,w54]))
    ·rw[if_neg c51]at ho
     have w63:ofCells none (List.drop n39 (List.drop 2 (ceGDga a0)))=some (V.int .i64 (a0.Degrees.val.getD n39 0)):=by first|exact ceGDga_Degrees_one (i:=n39) (by omega) (by omega)|(simp only[List.drop_drop]; exact ceGDga_Degrees_one (i:=n39) (by omega) (by omega))|(show ofCells none (List.drop 0 _)=_; exact ceGDga_Degrees_one (i:=n39) (by omega) (by omega))
     have w64:ofCells none (List.drop n41 (List.drop 2 (ceGDga a0)))=some (V.int .i64 (a0.Degrees.val.getD n41 0)):=by first|exact ceGDga_Degrees_one (i:=n41) (by omega) (by omega)|(simp only[List.drop_drop]; exact ceGDga_Degrees_one (i:=n41) (by omega) (by omega))|(show ofCells none (List.drop 0 _)=_; exact ceGDga_Degrees_one (i:=n41) (by omega) (by omega))
     have w65:ofCells none (List.drop n39 (List.drop 10 (ceGDga a0)))=some (V.int .i64 (a0.Levels.val.getD n39 0)):=by first|exact ceGDga_Levels_one (i:=n39) (by omega) (by omega)|(simp only[List.drop_drop]; exact ceGDga_Levels_one (i:=n39) (by omega) (by omega))|(show ofCells none (List.drop 0 _)=_; exact ceGDga_Levels_one (i:=n39) (by omega) (by omega))
     have w66:ofCells none (List.drop n41 (List.drop 10 (ceGDga a0)))=some (V.int .i64 (a0.Levels.val.getD n41 0)):=by first|exact ceGDga_Levels_one (i:=n41) (by omega) (by omega)|(simp only[List.drop_drop]; exact ceGDga_Levels_one (i:=n41) (by omega) (by omega))|(show ofCells none (List.drop 0 _)=_; exact ceGDga_Levels_one (i:=n41) (by omega) (by omega))
     obtain⟨x67,gx67,ho⟩:=bS ho;have w68:ans A 196 [V.agg (ceGDga a0),V.agg (arc .u8 8 (arP a0.Table.val (n39*64+n41*8) 8)),V.int .i64 (Go.IntKind.wrap .i64 ((a0.Degrees.val.getD n39 0)+(a0.Degrees.val.getD n41 0))),V.int .i64 (Go.IntKind.wrap .i64 ((a0.Levels.val.getD n39 0)+(a0.Levels.val.getD n41 0)))]=some (V.bool x67):=s196 a0 ⟨(arP a0.Table.val (n39*64+n41*8) 8)⟩ (Go.IntKind.wrap .i64 ((a0.Degrees.val.getD n39 0)+(a0.Degrees.val.getD n41 0))) (Go.IntKind.wrap .i64 ((a0.Levels.val.getD n39 0)+(a0.Levels.val.getD n41 0))) gx67;cases x67 with
     |true=>
      rw[if_pos rfl]at ho;cases ho;simp only[simprocAttr, -Int.reduceNatCast',R0,b176_2,h_36,eq_true hlt,hw,w40a,w40b,w40c,w42a,w42b,w42c,w43,eq_true w43l,(show [V.int .u8 0,V.int .u8 0,V.int .u8 0,V.int .u8 0,V.int .u8 0,V.int .u8 0,V.int .u8 0,V.int .u8 0]=arc .u8 8 [] from rfl),w45,List.append_nil,w48,eq_true c49,w50,eq_false c51,w63,w64,w65,w66,w68];refine ai rfl (ei _ (ai rfl ?_));simp only[simprocAttr, -Int.reduceNatCast',R0,h_36,eq_true hlt,hw,w40a,w40b,w40c,w42a,w42b,w42c,w43,eq_true w43l,(show [V.int .u8 0,V.int .u8 0,V.int .u8 0,V.int .u8 0,V.int .u8 0,V.int .u8 0,V.int .u8 0,V.int .u8 0]=arc .u8 8 [] from rfl),w45,List.append_nil,w48,eq_true c49,w50,eq_false c51,w63,w64,w65,w66,w68]
     |false=>
      rw[if_neg Bool.false_ne_true]at ho;cases ho;simp only[simprocAttr, -Int.reduceNatCast',R0,b176_2,h_36,eq_true hlt,hw,w40a,w40b,w40c,w42a,w42b,w42c,w43,eq_true w43l,(show [V.int .u8 0,V.int .u8 0,V.int .u8 0,V.int .u8 0,V.int .u8 0,V.int .u8 0,V.int .u8 0,V.int .u8 0]=arc .u8 8 [] from rfl),w45,List.append_nil,w48,eq_true c49,w50,eq_false c51,w63,w64,w65,w66,w68];intro ht; subst ht;simp only[simprocAttr, -Int.reduceNatCast',RR,RB];exact ai rfl (fin_ret (by simp only[simprocAttr, -Int.reduceNatCast',R0,fn_out,p176,Rs.ev,take_len_self,h_36,eq_true hlt,hw,w40a,w40b,w40c,w42a,w42b,w42c,w43,eq_true w43l,(show [V.int .u8 0,V.int .u8 0,V.int .u8 0,V.int .u8 0,V.int .u8 0,V.int .u8 0,V.int .u8 0,V.int .u8 0]=arc .u8 8 [] from rfl),w45,List.append_nil,w48,eq_true c49,w50,eq_false c51,w63,w64,w65,w66,w68]))
   ·rw[if_neg c49]at ho
    obtain⟨x70,gx70,ho⟩:=bS ho;have w71:eqSV true 12 (Lay.arr 8 8 1 (Lay.int Go.IntKind.u8)) (V.agg (arc .u8 8 (arP a0.Table.val (n39*64+n41*8) 8))) (V.agg (arc .u8 8 []))=some (V.bool (!x70)):=eqS_arc1 gx70;cases x70 with
    |true=>
     rw[if_pos rfl]at ho;have w73:ofCells none (List.drop n39 (List.drop 2 (ceGDga a0)))=some (V.int .i64 (a0.Degrees.val.getD n39 0)):=by first|exact ceGDga_Degrees_one (i:=n39) (by omega) (by omega)|(simp only[List.drop_drop]; exact ceGDga_Degrees_one (i:=n39) (by omega) (by omega))|(show ofCells none (List.drop 0 _)=_; exact ceGDga_Degrees_one (i:=n39) (by omega) (by omega))
     have w74:ofCells none (List.drop n41 (List.drop 2 (ceGDga a0)))=some (V.int .i64 (a0.Degrees.val.getD n41 0)):=by first|exact ceGDga_Degrees_one (i:=n41) (by omega) (by omega)|(simp only[List.drop_drop]; exact ceGDga_Degrees_one (i:=n41) (by omega) (by omega))|(show ofCells none (List.drop 0 _)=_; exact ceGDga_Degrees_one (i:=n41) (by omega) (by omega))
     have w75:ofCells none (List.drop n39 (List.drop 10 (ceGDga a0)))=some (V.int .i64 (a0.Levels.val.getD n39 0)):=by first|exact ceGDga_Levels_one (i:=n39) (by omega) (by omega)|(simp only[List.drop_drop]; exact ceGDga_Levels_one (i:=n39) (by omega) (by omega))|(show ofCells none (List.drop 0 _)=_; exact ceGDga_Levels_one (i:=n39) (by omega) (by omega))
     have w76:ofCells none (List.drop n41 (List.drop 10 (ceGDga a0)))=some (V.int .i64 (a0.Levels.val.getD n41 0)):=by first|exact ceGDga_Levels_one (i:=n41) (by omega) (by omega)|(simp only[List.drop_drop]; exact ceGDga_Levels_one (i:=n41) (by omega) (by omega))|(show ofCells none (List.drop 0 _)=_; exact ceGDga_Levels_one (i:=n41) (by omega) (by omega))
     obtain⟨x77,gx77,ho⟩:=bS ho;have w78:ans A 196 [V.agg (ceGDga a0),V.agg (arc .u8 8 (arP a0.Table.val (n39*64+n41*8) 8)),V.int .i64 (Go.IntKind.wrap .i64 ((a0.Degrees.val.getD n39 0)+(a0.Degrees.val.getD n41 0))),V.int .i64 (Go.IntKind.wrap .i64 ((a0.Levels.val.getD n39 0)+(a0.Levels.val.getD n41 0)))]=some (V.bool x77):=s196 a0 ⟨(arP a0.Table.val (n39*64+n41*8) 8)⟩ (Go.IntKind.wrap .i64 ((a0.Degrees.val.getD n39 0)+(a0.Degrees.val.getD n41 0))) (Go.IntKind.wrap .i64 ((a0.Levels.val.getD n39 0)+(a0.Levels.val.getD n41 0))) gx77;cases x77 with
     |true=>
      rw[if_pos rfl]at ho;cases ho;simp only[simprocAttr, -Int.reduceNatCast',R0,b176_2,h_36,eq_true hlt,hw,w40a,w40b,w40c,w42a,w42b,w42c,w43,eq_true w43l,(show [V.int .u8 0,V.int .u8 0,V.int .u8 0,V.int .u8 0,V.int .u8 0,V.int .u8 0,V.int .u8 0,V.int .u8 0]=arc .u8 8 [] from rfl),w45,List.append_nil,w48,eq_false c49,w71,w73,w74,w75,w76,w78];refine ai rfl (ei _ (ai rfl ?_));simp only[simprocAttr, -Int.reduceNatCast',R0,h_36,eq_true hlt,hw,w40a,w40b,w40c,w42a,w42b,w42c,w43,eq_true w43l,(show [V.int .u8 0,V.int .u8 0,V.int .u8 0,V.int .u8 0,V.int .u8 0,V.int .u8 0,V.int .u8 0,V.int .u8 0]=arc .u8 8 [] from rfl),w45,List.append_nil,w48,eq_false c49,w71,w73,w74,w75,w76,w78]
     |false=>
      rw[if_neg Bool.false_ne_true]at ho;cases ho;simp only[simprocAttr, -Int.reduceNatCast',R0,b176_2,h_36,eq_true hlt,hw,w40a,w40b,w40c,w42a,w42b,w42c,w43,eq_true w43l,(show [V.int .u8 0,V.int .u8 0,V.int .u8 0,V.int .u8 0,V.int .u8 0,V.int .u8 0,V.int .u8 0,V.int .u8 0]=arc .u8 8 [] from rfl),w45,List.append_nil,w48,eq_false c49,w71,w73,w74,w75,w76,w78];intro ht; subst ht;simp only[simprocAttr, -Int.reduceNatCast',RR,RB];exact ai rfl (fin_ret (by simp only[simprocAttr, -Int.reduceNatCast',R0,fn_out,p176,Rs.ev,take_len_self,h_36,eq_true hlt,hw,w40a,w40b,w40c,w42a,w42b,w42c,w43,eq_true w43l,(show [V.int .u8 0,V.int .u8 0,V.int .u8 0,V.int .u8 0,V.int .u8 0,V.int .u8 0,V.int .u8 0,V.int .u8 0]=arc .u8 8 [] from rfl),w45,List.append_nil,w48,eq_false c49,w71,w73,w74,w75,w76,w78]))
    |false=>
     rw[if_neg Bool.false_ne_true]at ho;cases ho;simp only[simprocAttr, -Int.reduceNatCast',R0,b176_2,h_36,eq_true hlt,hw,w40a,w40b,w40c,w42a,w42b,w42c,w43,eq_true w43l,(show [V.int .u8 0,V.int .u8 0,V.int .u8 0,V.int .u8 0,V.int .u8 0,V.int .u8 0,V.int .u8 0,V.int .u8 0]=arc .u8 8 [] from rfl),w45,List.append_nil,w48,eq_false c49,w71];intro ht; subst ht;simp only[simprocAttr, -Int.reduceNatCast',RR,RB];exact ai rfl (fin_ret (by simp only[simprocAttr, -Int.reduceNatCast',R0,fn_out,p176,Rs.ev,take_len_self,h_36,eq_true hlt,hw,w40a,w40b,w40c,w42a,w42b,w42c,w43,eq_true w43l,(show [V.int .u8 0,V.int .u8 0,V.int .u8 0,V.int .u8 0,V.int .u8 0,V.int .u8 0,V.int .u8 0,V.int .u8 0]=arc .u8 8 [] from rfl),w45,List.append_nil,w48,eq_false c49,w71]))
  |false=>
   rw[if_neg Bool.false_ne_true]at ho;cases ho;simp only[simprocAttr, -Int.reduceNatCast',R0,b176_2,h_36,eq_true hlt,hw,w40a,w40b,w40c,w42a,w42b,w42c,w43,eq_true w43l,(show [V.int .u8 0,V.int .u8 0,V.int .u8 0,V.int .u8 0,V.int .u8 0,V.int .u8 0,V.int .u8 0,V.int .u8 0]=arc .u8 8 [] from rfl),w45,List.append_nil,w48];intro ht; subst ht;simp only[simprocAttr, -Int.reduceNatCast',RR,RB];exact ai rfl (fin_ret (by simp only[simprocAttr, -Int.reduceNatCast',R0,fn_out,p176,Rs.ev,take_len_self,h_36,eq_true hlt,hw,w40a,w40b,w40c,w42a,w42b,w42c,w43,eq_true w43l,(show [V.int .u8 0,V.int .u8 0,V.int .u8 0,V.int .u8 0,V.int .u8 0,V.int .u8 0,V.int .u8 0,V.int .u8 0]=arc .u8 8 [] from rfl),w45,List.append_nil,w48]))
 ·rintro v106_2 _ e h ⟨k37,rfl,h_36⟩ hge t1 ho
  unfold F176_2_D at ho;cases ho;simp only[simprocAttr, -Int.reduceNatCast',R0,b176_2,h_36,eq_false hge];intro ht; subst ht;refine ai rfl (ei _ (ai rfl ?_));simp only[simprocAttr, -Int.reduceNatCast',R0,h_36,eq_false hge]
def I176_1(a0:GDga)(v17_1:Int)(s:Unit)(e:Env)(h:Heap):Prop:=
 ∃k8:Nat,h=⟨[(0,none)],k8⟩∧e.length=170∧e.at 1=V.iptr (ceGDga a0)∧e.at 17=V.int .i64 v17_1
def P176_1(a0:GDga)(t:(Unit)⊕Bool)(x:Ex)(e:Env)(h:Heap):Prop:=
 match t with
 | .inl _=> x= .normal∧∃k8:Nat,h=⟨[(0,none)],k8⟩∧e.length=170∧e.at 1=V.iptr (ceGDga a0)
 | .inr r=> x= .ret∧Fin p176 (Enc.enc r) .ret e h
set_option maxHeartbeats 8000000 in
theorem l176_1(a0:GDga){lo:Int}{s:Unit}{t:(Unit)⊕Bool}(hF:forR lo 8 (F176_1_B a0) (F176_1_D a0) s=some t){e:Env}{h:Heap}(hI:I176_1 a0 lo s e h):W A c176_1 e h (P176_1 a0 t):=by
 show W A (.block 0 (.loop false b176_1)) e h _;rw[W_block];refine W_forR hF 1 (by obtain⟨_,rfl,_⟩:=hI; rfl) (I176_1 a0) hI ?_ ?_
 ·rintro v17_1 _ e h ⟨k8,rfl,h_7⟩ hlt hw o ho
  unfold F176_1_B at ho;have w10:ofCells none (List.drop 1 (ceGDga a0))=some (V.int .i64 a0.Size):=by first|exact ceGDga_Size_one (a:=_) rfl|(simp only[List.drop_drop]; exact ceGDga_Size_one (by omega))|(show ofCells none (List.drop 0 _)=_; exact ceGDga_Size_one rfl)
  by_cases c11:v17_1 < a0.Size
  ·rw[if_pos c11]at ho
   obtain⟨n12,gn12,ho⟩:=bS ho;obtain⟨w13a,w13b,w13c,w13d⟩:=ixI_w gn12;have w14:ofCells none (List.drop n12 (List.drop 2 (ceGDga a0)))=some (V.int .i64 (a0.Degrees.val.getD n12 0)):=by first|exact ceGDga_Degrees_one (i:=n12) (by omega) (by omega)|(simp only[List.drop_drop]; exact ceGDga_Degrees_one (i:=n12) (by omega) (by omega))|(show ofCells none (List.drop 0 _)=_; exact ceGDga_Degrees_one (i:=n12) (by omega) (by omega))
   obtain⟨x15,gx15,ho⟩:=bS ho;have w16:ans A 56 [V.int .i64 (a0.Degrees.val.getD n12 0),V.int .i64 0,V.int .i64 5]=some (V.bool x15):=s56 (a0.Degrees.val.getD n12 0) 0 5 gx15;cases x15 with
   |true=>
    rw[if_pos rfl]at ho;have w17:ofCells none (List.drop n12 (List.drop 10 (ceGDga a0)))=some (V.int .i64 (a0.Levels.val.getD n12 0)):=by first|exact ceGDga_Levels_one (i:=n12) (by omega) (by omega)|(simp only[List.drop_drop]; exact ceGDga_Levels_one (i:=n12) (by omega) (by omega))|(show ofCells none (List.drop 0 _)=_; exact ceGDga_Levels_one (i:=n12) (by omega) (by omega))
    obtain⟨x18,gx18,ho⟩:=bS ho;have w19:ans A 56 [V.int .i64 (a0.Levels.val.getD n12 0),V.int .i64 0,V.int .i64 5]=some (V.bool x18):=s56 (a0.Levels.val.getD n12 0) 0 5 gx18;cases x18 with
    |true=>
     rw[if_pos rfl]at ho;have w20:List.take 8 (List.drop (n12*8) (List.drop 18 (ceGDga a0)))=arc .u8 8 (arP a0.Diff.val (n12*8) 8):=by first|exact ceGDga_Diff_part (i:=n12*8) (m:=8) (by omega) (by omega)|(simp only[List.drop_drop]; exact ceGDga_Diff_part (i:=n12*8) (m:=8) (by omega) (by omega))|(show List.take _ (List.drop 0 _)=_; exact ceGDga_Diff_part (i:=n12*8) (m:=8) (by omega) (by omega))
     have w20l:8≤List.length (List.drop (n12*8) (List.drop 18 (ceGDga a0))):=by simp only[List.length_drop,arc_len,ceGDga_len]; omega
     obtain⟨x21,gx21,ho⟩:=bS ho;have w22:ans A 195 [V.agg (ceGDga a0),V.agg (arc .u8 8 (arP a0.Diff.val (n12*8) 8))]=some (V.bool x21):=s195 a0 ⟨(arP a0.Diff.val (n12*8) 8)⟩ gx21;cases x21 with
     |true=>
      rw[if_pos rfl]at ho;by_cases c23:0 < v17_1
      ·rw[if_pos c23]at ho
       have w24:ofCells none (List.drop n12 (List.drop 2 (ceGDga a0)))=some (V.int .i64 (a0.Degrees.val.getD n12 0)):=by first|exact ceGDga_Degrees_one (i:=n12) (by omega) (by omega)|(simp only[List.drop_drop]; exact ceGDga_Degrees_one (i:=n12) (by omega) (by omega))|(show ofCells none (List.drop 0 _)=_; exact ceGDga_Degrees_one (i:=n12) (by omega) (by omega))
       obtain⟨x25,gx25,ho⟩:=bS ho;have wx25:=chk_w gx25;obtain⟨n26,gn26,ho⟩:=bS ho;obtain⟨w27a,w27b,w27c,w27d⟩:=ixI_w gn26;have w28:ofCells none (List.drop n26 (List.drop 2 (ceGDga a0)))=some (V.int .i64 (a0.Degrees.val.getD n26 0)):=by first|exact ceGDga_Degrees_one (i:=n26) (by omega) (by omega)|(simp only[List.drop_drop]; exact ceGDga_Degrees_one (i:=n26) (by omega) (by omega))|(show ofCells none (List.drop 0 _)=_; exact ceGDga_Degrees_one (i:=n26) (by omega) (by omega))
       by_cases c29:(a0.Degrees.val.getD n12 0) < (a0.Degrees.val.getD n26 0)
       ·rw[if_pos c29]at ho
        cases ho;simp only[simprocAttr, -Int.reduceNatCast',R0,b176_1,h_7,eq_true hlt,hw,w10,eq_true c11,w13a,w13b,w13c,w14,w16,w17,w19,w20,eq_true w20l,w22,eq_true c23,w24,wx25,w27a,w27b,w27c,w28,eq_true c29];intro ht; subst ht;simp only[simprocAttr, -Int.reduceNatCast',RR,RB];exact ai rfl (fin_ret (by simp only[simprocAttr, -Int.reduceNatCast',R0,fn_out,p176,Rs.ev,take_len_self,h_7,eq_true hlt,hw,w10,eq_true c11,w13a,w13b,w13c,w14,w16,w17,w19,w20,eq_true w20l,w22,eq_true c23,w24,wx25,w27a,w27b,w27c,w28,eq_true c29]))
       ·rw[if_neg c29]at ho
        have w30:List.take 8 (List.drop (n12*8) (List.drop 18 (ceGDga a0)))=arc .u8 8 (arP a0.Diff.val (n12*8) 8):=by first|exact ceGDga_Diff_part (i:=n12*8) (m:=8) (by omega) (by omega)|(simp only[List.drop_drop]; exact ceGDga_Diff_part (i:=n12*8) (m:=8) (by omega) (by omega))|(show List.take _ (List.drop 0 _)=_; exact ceGDga_Diff_part (i:=n12*8) (m:=8) (by omega) (by omega))
        have w30l:8≤List.length (List.drop (n12*8) (List.drop 18 (ceGDga a0))):=by simp only[List.length_drop,arc_len,ceGDga_len]; omega
        have w31:ofCells none (List.drop n12 (List.drop 2 (ceGDga a0)))=some (V.int .i64 (a0.Degrees.val.getD n12 0)):=by first|exact ceGDga_Degrees_one (i:=n12) (by omega) (by omega)|(simp only[List.drop_drop]; exact ceGDga_Degrees_one (i:=n12) (by omega) (by omega))|(show ofCells none (List.drop 0 _)=_; exact ceGDga_Degrees_one (i:=n12) (by omega) (by omega))
        obtain⟨x32,gx32,ho⟩:=bS ho;have wx32:=chk_w gx32;have w33:ofCells none (List.drop n12 (List.drop 10 (ceGDga a0)))=some (V.int .i64 (a0.Levels.val.getD n12 0)):=by first|exact ceGDga_Levels_one (i:=n12) (by omega) (by omega)|(simp only[List.drop_drop]; exact ceGDga_Levels_one (i:=n12) (by omega) (by omega))|(show ofCells none (List.drop 0 _)=_; exact ceGDga_Levels_one (i:=n12) (by omega) (by omega))
        obtain⟨x34,gx34,ho⟩:=bS ho;have w35:ans A 196 [V.agg (ceGDga a0),V.agg (arc .u8 8 (arP a0.Diff.val (n12*8) 8)),V.int .i64 x32,V.int .i64 (a0.Levels.val.getD n12 0)]=some (V.bool x34):=s196 a0 ⟨(arP a0.Diff.val (n12*8) 8)⟩ x32 (a0.Levels.val.getD n12 0) gx34;cases x34 with
        |true=>
         rw[if_pos rfl]at ho;obtain⟨t79,gt79,ho⟩:=bS ho;rcases t79 with _|r80
         ·dsimp only at ho
          simp only[simprocAttr, -Int.reduceNatCast',R0,b176_1,h_7,eq_true hlt,hw,w10,eq_true c11,w13a,w13b,w13c,w14,w16,w17,w19,w20,eq_true w20l,w22,eq_true c23,w24,wx25,w27a,w27b,w27c,w28,eq_false c29,w30,eq_true w30l,w31,wx32,w33,w35];refine W.mono (l176_2 a0 v17_1 gt79 (ei _ (ai rfl ?_))) ?_
          ·simp only[simprocAttr, -Int.reduceNatCast',R0,h_7,eq_true hlt,hw,w10,eq_true c11,w13a,w13b,w13c,w14,w16,w17,w19,w20,eq_true w20l,w22,eq_true c23,w24,wx25,w27a,w27b,w27c,w28,eq_false c29,w30,eq_true w30l,w31,wx32,w33,w35]
          rintro _ e _ ⟨rfl,k37,rfl,h_38⟩;cases ho;simp only[simprocAttr, -Int.reduceNatCast',R0,h_38,eq_true hlt,hw,eq_true c11,eq_true w20l,eq_true c23,eq_false c29,eq_true w30l];refine ai rfl (ei _ (ai rfl ?_));simp only[simprocAttr, -Int.reduceNatCast',R0,h_38,eq_true hlt,hw,eq_true c11,eq_true w20l,eq_true c23,eq_false c29,eq_true w30l]
         ·dsimp only at ho
          cases ho;simp only[simprocAttr, -Int.reduceNatCast',R0,b176_1,h_7,eq_true hlt,hw,w10,eq_true c11,w13a,w13b,w13c,w14,w16,w17,w19,w20,eq_true w20l,w22,eq_true c23,w24,wx25,w27a,w27b,w27c,w28,eq_false c29,w30,eq_true w30l,w31,wx32,w33,w35];refine W.mono (l176_2 a0 v17_1 gt79 (ei _ (ai rfl ?_))) ?_
          ·simp only[simprocAttr, -Int.reduceNatCast',R0,h_7,eq_true hlt,hw,w10,eq_true c11,w13a,w13b,w13c,w14,w16,w17,w19,w20,eq_true w20l,w22,eq_true c23,w24,wx25,w27a,w27b,w27c,w28,eq_false c29,w30,eq_true w30l,w31,wx32,w33,w35]
          rintro _ e h ⟨rfl,hq⟩;simp only[simprocAttr, -Int.reduceNatCast',RR,RB];intro ht; subst ht;simp only[simprocAttr, -Int.reduceNatCast',RR,RB];exact ai rfl hq
        |false=>
         rw[if_neg Bool.false_ne_true]at ho;cases ho;simp only[simprocAttr, -Int.reduceNatCast',R0,b176_1,h_7,eq_true hlt,hw,w10,eq_true c11,w13a,w13b,w13c,w14,w16,w17,w19,w20,eq_true w20l,w22,eq_true c23,w24,wx25,w27a,w27b,w27c,w28,eq_false c29,w30,eq_true w30l,w31,wx32,w33,w35];intro ht; subst ht;simp only[simprocAttr, -Int.reduceNatCast',RR,RB];exact ai rfl (fin_ret (by simp only[simprocAttr, -Int.reduceNatCast',R0,fn_out,p176,Rs.ev,take_len_self,h_7,eq_true hlt,hw,w10,eq_true c11,w13a,w13b,w13c,w14,w16,w17,w19,w20,eq_true w20l,w22,eq_true c23,w24,wx25,w27a,w27b,w27c,w28,eq_false c29,w30,eq_true w30l,w31,wx32,w33,w35]))
      ·rw[if_neg c23]at ho
       have w81:List.take 8 (List.drop (n12*8) (List.drop 18 (ceGDga a0)))=arc .u8 8 (arP a0.Diff.val (n12*8) 8):=by first|exact ceGDga_Diff_part (i:=n12*8) (m:=8) (by omega) (by omega)|(simp only[List.drop_drop]; exact ceGDga_Diff_part (i:=n12*8) (m:=8) (by omega) (by omega))|(show List.take _ (List.drop 0 _)=_; exact ceGDga_Diff_part (i:=n12*8) (m:=8) (by omega) (by omega))
       have w81l:8≤List.length (List.drop (n12*8) (List.drop 18 (ceGDga a0))):=by simp only[List.length_drop,arc_len,ceGDga_len]; omega
       have w82:ofCells none (List.drop n12 (List.drop 2 (ceGDga a0)))=some (V.int .i64 (a0.Degrees.val.getD n12 0)):=by first|exact ceGDga_Degrees_one (i:=n12) (by omega) (by omega)|(simp only[List.drop_drop]; exact ceGDga_Degrees_one (i:=n12) (by omega) (by omega))|(show ofCells none (List.drop 0 _)=_; exact ceGDga_Degrees_one (i:=n12) (by omega) (by omega))
       obtain⟨x83,gx83,ho⟩:=bS ho;have wx83:=chk_w gx83;have w84:ofCells none (List.drop n12 (List.drop 10 (ceGDga a0)))=some (V.int .i64 (a0.Levels.val.getD n12 0)):=by first|exact ceGDga_Levels_one (i:=n12) (by omega) (by omega)|(simp only[List.drop_drop]; exact ceGDga_Levels_one (i:=n12) (by omega) (by omega))|(show ofCells none (List.drop 0 _)=_; exact ceGDga_Levels_one (i:=n12) (by omega) (by omega))
       obtain⟨x85,gx85,ho⟩:=bS ho;have w86:ans A 196 [V.agg (ceGDga a0),V.agg (arc .u8 8 (arP a0.Diff.val (n12*8) 8)),V.int .i64 x83,V.int .i64 (a0.Levels.val.getD n12 0)]=some (V.bool x85):=s196 a0 ⟨(arP a0.Diff.val (n12*8) 8)⟩ x83 (a0.Levels.val.getD n12 0) gx85;cases x85 with
       |true=>
        rw[if_pos rfl]at ho;obtain⟨t130,gt130,ho⟩:=bS ho;rcases t130 with _|r131
        ·dsimp only at ho
         simp only[simprocAttr, -Int.reduceNatCast',R0,b176_1,h_7,eq_true hlt,hw,w10,eq_true c11,w13a,w13b,w13c,w14,w16,w17,w19,w20,eq_true w20l,w22,eq_false c23,w81,eq_true w81l,w82,wx83,w84,w86];refine W.mono (l176_2 a0 v17_1 gt130 (ei _ (ai rfl ?_))) ?_
         ·simp only[simprocAttr, -Int.reduceNatCast',R0,h_7,eq_true hlt,hw,w10,eq_true c11,w13a,w13b,w13c,w14,w16,w17,w19,w20,eq_true w20l,w22,eq_false c23,w81,eq_true w81l,w82,wx83,w84,w86]
         rintro _ e _ ⟨rfl,k88,rfl,h_89⟩;cases ho;simp only[simprocAttr, -Int.reduceNatCast',R0,h_89,eq_true hlt,hw,eq_true c11,eq_true w20l,eq_false c23,eq_true w81l];refine ai rfl (ei _ (ai rfl ?_));simp only[simprocAttr, -Int.reduceNatCast',R0,h_89,eq_true hlt,hw,eq_true c11,eq_true w20l,eq_false c23,eq_true w81l]
        ·dsimp only at ho
         cases ho;simp only[simprocAttr, -Int.reduceNatCast',R0,b176_1,h_7,eq_true hlt,hw,w10,eq_true c11,w13a,w13b,w13c,w14,w16,w17,w19,w20,eq_true w20l,w22,eq_false c23,w81,eq_true w81l,w82,wx83,w84,w86];refine W.mono (l176_2 a0 v17_1 gt130 (ei _ (ai rfl ?_))) ?_
         ·simp only[simprocAttr, -Int.reduceNatCast',R0,h_7,eq_true hlt,hw,w10,eq_true c11,w13a,w13b,w13c,w14,w16,w17,w19,w20,eq_true w20l,w22,eq_false c23,w81,eq_true w81l,w82,wx83,w84,w86]
         rintro _ e h ⟨rfl,hq⟩;simp only[simprocAttr, -Int.reduceNatCast',RR,RB];intro ht; subst ht;simp only[simprocAttr, -Int.reduceNatCast',RR,RB];exact ai rfl hq
       |false=>
        rw[if_neg Bool.false_ne_true]at ho;cases ho;simp only[simprocAttr, -Int.reduceNatCast',R0,b176_1,h_7,eq_true hlt,hw,w10,eq_true c11,w13a,w13b,w13c,w14,w16,w17,w19,w20,eq_true w20l,w22,eq_false c23,w81,eq_true w81l,w82,wx83,w84,w86];intro ht; subst ht;simp only[simprocAttr, -Int.reduceNatCast',RR,RB];exact ai rfl (fin_ret (by simp only[simprocAttr, -Int.reduceNatCast',R0,fn_out,p176,Rs.ev,take_len_self,h_7,eq_true hlt,hw,w10,eq_true c11,w13a,w13b,w13c,w14,w16,w17,w19,w20,eq_true w20l,w22,eq_false c23,w81,eq_true w81l,w82,wx83,w84,w86]))
     |false=>
      rw[if_neg Bool.false_ne_true]at ho;cases ho;simp only[simprocAttr, -Int.reduceNatCast',R0,b176_1,h_7,eq_true hlt,hw,w10,eq_true c11,w13a,w13b,w13c,w14,w16,w17,w19,w20,eq_true w20l,w22];intro ht; subst ht;simp only[simprocAttr, -Int.reduceNatCast',RR,RB];exact ai rfl (fin_ret (by simp only[simprocAttr, -Int.reduceNatCast',R0,fn_out,p176,Rs.ev,take_len_self,h_7,eq_true hlt,hw,w10,eq_true c11,w13a,w13b,w13c,w14,w16,w17,w19,w20,eq_true w20l,w22]))
    |false=>
     rw[if_neg Bool.false_ne_true]at ho;cases ho;simp only[simprocAttr, -Int.reduceNatCast',R0,b176_1,h_7,eq_true hlt,hw,w10,eq_true c11,w13a,w13b,w13c,w14,w16,w17,w19];intro ht; subst ht;simp only[simprocAttr, -Int.reduceNatCast',RR,RB];exact ai rfl (fin_ret (by simp only[simprocAttr, -Int.reduceNatCast',R0,fn_out,p176,Rs.ev,take_len_self,h_7,eq_true hlt,hw,w10,eq_true c11,w13a,w13b,w13c,w14,w16,w17,w19]))
   |false=>
    rw[if_neg Bool.false_ne_true]at ho;cases ho;simp only[simprocAttr, -Int.reduceNatCast',R0,b176_1,h_7,eq_true hlt,hw,w10,eq_true c11,w13a,w13b,w13c,w14,w16];intro ht; subst ht;simp only[simprocAttr, -Int.reduceNatCast',RR,RB];exact ai rfl (fin_ret (by simp only[simprocAttr, -Int.reduceNatCast',R0,fn_out,p176,Rs.ev,take_len_self,h_7,eq_true hlt,hw,w10,eq_true c11,w13a,w13b,w13c,w14,w16]))
  ·rw[if_neg c11]at ho
   obtain⟨n132,gn132,ho⟩:=bS ho;obtain⟨w133a,w133b,w133c,w133d⟩:=ixI_w gn132;have w134:ofCells none (List.drop n132 (List.drop 2 (ceGDga a0)))=some (V.int .i64 (a0.Degrees.val.getD n132 0)):=by first|exact ceGDga_Degrees_one (i:=n132) (by omega) (by omega)|(simp only[List.drop_drop]; exact ceGDga_Degrees_one (i:=n132) (by omega) (by omega))|(show ofCells none (List.drop 0 _)=_; exact ceGDga_Degrees_one (i:=n132) (by omega) (by omega))
   by_cases c135:(a0.Degrees.val.getD n132 0)=0
   ·rw[if_pos c135]at ho
    have w136:ofCells none (List.drop n132 (List.drop 10 (ceGDga a0)))=some (V.int .i64 (a0.Levels.val.getD n132 0)):=by first|exact ceGDga_Levels_one (i:=n132) (by omega) (by omega)|(simp only[List.drop_drop]; exact ceGDga_Levels_one (i:=n132) (by omega) (by omega))|(show ofCells none (List.drop 0 _)=_; exact ceGDga_Levels_one (i:=n132) (by omega) (by omega))
    by_cases c137:(a0.Levels.val.getD n132 0)=0
    ·rw[if_pos c137]at ho
     have w138:List.take 8 (List.drop (n132*8) (List.drop 18 (ceGDga a0)))=arc .u8 8 (arP a0.Diff.val (n132*8) 8):=by first|exact ceGDga_Diff_part (i:=n132*8) (m:=8) (by omega) (by omega)|(simp only[List.drop_drop]; exact ceGDga_Diff_part (i:=n132*8) (m:=8) (by omega) (by omega))|(show List.take _ (List.drop 0 _)=_; exact ceGDga_Diff_part (i:=n132*8) (m:=8) (by omega) (by omega))
     have w138l:8≤List.length (List.drop (n132*8) (List.drop 18 (ceGDga a0))):=by simp only[List.length_drop,arc_len,ceGDga_len]; omega
     obtain⟨x139,gx139,ho⟩:=bS ho;have w140:eqSV true 12 (Lay.arr 8 8 1 (Lay.int Go.IntKind.u8)) (V.agg (arc .u8 8 (arP a0.Diff.val (n132*8) 8))) (V.agg (arc .u8 8 []))=some (V.bool (!x139)):=eqS_arc1 gx139;cases x139 with
     |true=>
      rw[if_pos rfl]at ho;have w141:ofCells none (List.drop n132 (List.drop 2 (ceGDga a0)))=some (V.int .i64 (a0.Degrees.val.getD n132 0)):=by first|exact ceGDga_Degrees_one (i:=n132) (by omega) (by omega)|(simp only[List.drop_drop]; exact ceGDga_Degrees_one (i:=n132) (by omega) (by omega))|(show ofCells none (List.drop 0 _)=_; exact ceGDga_Degrees_one (i:=n132) (by omega) (by omega))
      obtain⟨x142,gx142,ho⟩:=bS ho;have w143:ans A 56 [V.int .i64 (a0.Degrees.val.getD n132 0),V.int .i64 0,V.int .i64 5]=some (V.bool x142):=s56 (a0.Degrees.val.getD n132 0) 0 5 gx142;cases x142 with
      |true=>
       rw[if_pos rfl]at ho;have w144:ofCells none (List.drop n132 (List.drop 10 (ceGDga a0)))=some (V.int .i64 (a0.Levels.val.getD n132 0)):=by first|exact ceGDga_Levels_one (i:=n132) (by omega) (by omega)|(simp only[List.drop_drop]; exact ceGDga_Levels_one (i:=n132) (by omega) (by omega))|(show ofCells none (List.drop 0 _)=_; exact ceGDga_Levels_one (i:=n132) (by omega) (by omega))
       obtain⟨x145,gx145,ho⟩:=bS ho;have w146:ans A 56 [V.int .i64 (a0.Levels.val.getD n132 0),V.int .i64 0,V.int .i64 5]=some (V.bool x145):=s56 (a0.Levels.val.getD n132 0) 0 5 gx145;cases x145 with
       |true=>
        rw[if_pos rfl]at ho;have w147:List.take 8 (List.drop (n132*8) (List.drop 18 (ceGDga a0)))=arc .u8 8 (arP a0.Diff.val (n132*8) 8):=by first|exact ceGDga_Diff_part (i:=n132*8) (m:=8) (by omega) (by omega)|(simp only[List.drop_drop]; exact ceGDga_Diff_part (i:=n132*8) (m:=8) (by omega) (by omega))|(show List.take _ (List.drop 0 _)=_; exact ceGDga_Diff_part (i:=n132*8) (m:=8) (by omega) (by omega))
        have w147l:8≤List.length (List.drop (n132*8) (List.drop 18 (ceGDga a0))):=by simp only[List.length_drop,arc_len,ceGDga_len]; omega
        obtain⟨x148,gx148,ho⟩:=bS ho;have w149:ans A 195 [V.agg (ceGDga a0),V.agg (arc .u8 8 (arP a0.Diff.val (n132*8) 8))]=some (V.bool x148):=s195 a0 ⟨(arP a0.Diff.val (n132*8) 8)⟩ gx148;cases x148 with
        |true=>
         rw[if_pos rfl]at ho;obtain⟨t193,gt193,ho⟩:=bS ho;rcases t193 with _|r194
         ·dsimp only at ho
          simp only[simprocAttr, -Int.reduceNatCast',R0,b176_1,h_7,eq_true hlt,hw,w10,eq_false c11,w133a,w133b,w133c,w134,eq_true c135,w136,eq_true c137,w138,eq_true w138l,(show [V.int .u8 0,V.int .u8 0,V.int .u8 0,V.int .u8 0,V.int .u8 0,V.int .u8 0,V.int .u8 0,V.int .u8 0]=arc .u8 8 [] from rfl),w140,w141,w143,w144,w146,w147,eq_true w147l,w149];refine W.mono (l176_2 a0 v17_1 gt193 (ei _ (ai rfl ?_))) ?_
          ·simp only[simprocAttr, -Int.reduceNatCast',R0,h_7,eq_true hlt,hw,w10,eq_false c11,w133a,w133b,w133c,w134,eq_true c135,w136,eq_true c137,w138,eq_true w138l,(show [V.int .u8 0,V.int .u8 0,V.int .u8 0,V.int .u8 0,V.int .u8 0,V.int .u8 0,V.int .u8 0,V.int .u8 0]=arc .u8 8 [] from rfl),w140,w141,w143,w144,w146,w147,eq_true w147l,w149]
          rintro _ e _ ⟨rfl,k151,rfl,h_152⟩;cases ho;simp only[simprocAttr, -Int.reduceNatCast',R0,h_152,eq_true hlt,hw,eq_false c11,eq_true c135,eq_true c137,eq_true w138l,eq_true w147l];refine ai rfl (ei _ (ai rfl ?_));simp only[simprocAttr, -Int.reduceNatCast',R0,h_152,eq_true hlt,hw,eq_false c11,eq_true c135,eq_true c137,eq_true w138l,eq_true w147l]
         ·dsimp only at ho
          cases ho;simp only[simprocAttr, -Int.reduceNatCast',R0,b176_1,h_7,eq_true hlt,hw,w10,eq_false c11,w133a,w133b,w133c,w134,eq_true c135,w136,eq_true c137,w138,eq_true w138l,(show [V.int .u8 0,V.int .u8 0,V.int .u8 0,V.int .u8 0,V.int .u8 0,V.int .u8 0,V.int .u8 0,V.int .u8 0]=arc .u8 8 [] from rfl),w140,w141,w143,w144,w146,w147,eq_true w147l,w149];refine W.mono (l176_2 a0 v17_1 gt193 (ei _ (ai rfl ?_))) ?_
          ·simp only[simprocAttr, -Int.reduceNatCast',R0,h_7,eq_true hlt,hw,w10,eq_false c11,w133a,w133b,w133c,w134,eq_true c135,w136,eq_true c137,w138,eq_true w138l,(show [V.int .u8 0,V.int .u8 0,V.int .u8 0,V.int .u8 0,V.int .u8 0,V.int .u8 0,V.int .u8 0,V.int .u8 0]=arc .u8 8 [] from rfl),w140,w141,w143,w144,w146,w147,eq_true w147l,w149]
          rintro _ e h ⟨rfl,hq⟩;simp only[simprocAttr, -Int.reduceNatCast',RR,RB];intro ht; subst ht;simp only[simprocAttr, -Int.reduceNatCast',RR,RB];exact ai rfl hq
        |false=>
         rw[if_neg Bool.false_ne_true]at ho;cases ho;simp only[simprocAttr, -Int.reduceNatCast',R0,b176_1,h_7,eq_true hlt,hw,w10,eq_false c11,w133a,w133b,w133c,w134,eq_true c135,w136,eq_true c137,w138,eq_true w138l,(show [V.int .u8 0,V.int .u8 0,V.int .u8 0,V.int .u8 0,V.int .u8 0,V.int .u8 0,V.int .u8 0,V.int .u8 0]=arc .u8 8 [] from rfl),w140,w141,w143,w144,w146,w147,eq_true w147l,w149];intro ht; subst ht;simp only[simprocAttr, -Int.reduceNatCast',RR,RB];exact ai rfl (fin_ret (by simp only[simprocAttr, -Int.reduceNatCast',R0,fn_out,p176,Rs.ev,take_len_self,h_7,eq_true hlt,hw,w10,eq_false c11,w133a,w133b,w133c,w134,eq_true c135,w136,eq_true c137,w138,eq_true w138l,(show [V.int .u8 0,V.int .u8 0,V.int .u8 0,V.int .u8 0,V.int .u8 0,V.int .u8 0,V.int .u8 0,V.int .u8 0]=arc .u8 8 [] from rfl),w140,w141,w143,w144,w146,w147,eq_true w147l,w149]))
       |false=>
        rw[if_neg Bool.false_ne_true]at ho;cases ho;simp only[simprocAttr, -Int.reduceNatCast',R0,b176_1,h_7,eq_true hlt,hw,w10,eq_false c11,w133a,w133b,w133c,w134,eq_true c135,w136,eq_true c137,w138,eq_true w138l,(show [V.int .u8 0,V.int .u8 0,V.int .u8 0,V.int .u8 0,V.int .u8 0,V.int .u8 0,V.int .u8 0,V.int .u8 0]=arc .u8 8 [] from rfl),w140,w141,w143,w144,w146];intro ht; subst ht;simp only[simprocAttr, -Int.reduceNatCast',RR,RB];exact ai rfl (fin_ret (by simp only[simprocAttr, -Int.reduceNatCast',R0,fn_out,p176,Rs.ev,take_len_self,h_7,eq_true hlt,hw,w10,eq_false c11,w133a,w133b,w133c,w134,eq_true c135,w136,eq_true c137,w138,eq_true w138l,(show [V.int .u8 0,V.int .u8 0,V.int .u8 0,V.int .u8 0,V.int .u8 0,V.int .u8 0,V.int .u8 0,V.int .u8 0]=arc .u8 8 [] from rfl),w140,w141,w143,w144,w146]))
      |false=>
       rw[if_neg Bool.false_ne_true]at ho;cases ho;simp only[simprocAttr, -Int.reduceNatCast',R0,b176_1,h_7,eq_true hlt,hw,w10,eq_false c11,w133a,w133b,w133c,w134,eq_true c135,w136,eq_true c137,w138,eq_true w138l,(show [V.int .u8 0,V.int .u8 0,V.int .u8 0,V.int .u8 0,V.int .u8 0,V.int .u8 0,V.int .u8 0,V.int .u8 0]=arc .u8 8 [] from rfl),w140,w141,w143];intro ht; subst ht;simp only[simprocAttr, -Int.reduceNatCast',RR,RB];exact ai rfl (fin_ret (by simp only[simprocAttr, -Int.reduceNatCast',R0,fn_out,p176,Rs.ev,take_len_self,h_7,eq_true hlt,hw,w10,eq_false c11,w133a,w133b,w133c,w134,eq_true c135,w136,eq_true c137,w138,eq_true w138l,(show [V.int .u8 0,V.int .u8 0,V.int .u8 0,V.int .u8 0,V.int .u8 0,V.int .u8 0,V.int .u8 0,V.int .u8 0]=arc .u8 8 [] from rfl),w140,w141,w143]))
     |false=>
      rw[if_neg Bool.false_ne_true]at ho;cases ho;simp only[simprocAttr, -Int.reduceNatCast',R0,b176_1,h_7,eq_true hlt,hw,w10,eq_false c11,w133a,w133b,w133c,w134,eq_true c135,w136,eq_true c137,w138,eq_true w138l,(show [V.int .u8 0,V.int .u8 0,V.int .u8 0,V.int .u8 0,V.int .u8 0,V.int .u8 0,V.int .u8 0,V.int .u8 0]=arc .u8 8 [] from rfl),w140];intro ht; subst ht;simp only[simprocAttr, -Int.reduceNatCast',RR,RB];exact ai rfl (fin_ret (by simp only[simprocAttr, -Int.reduceNatCast',R0,fn_out,p176,Rs.ev,take_len_self,h_7,eq_true hlt,hw,w10,eq_false c11,w133a,w133b,w133c,w134,eq_true c135,w136,eq_true c137,w138,eq_true w138l,(show [V.int .u8 0,V.int .u8 0,V.int .u8 0,V.int .u8 0,V.int .u8 0,V.int .u8 0,V.int .u8 0,V.int .u8 0]=arc .u8 8 [] from rfl),w140]))
    ·rw[if_neg c137]at ho
     cases ho;simp only[simprocAttr, -Int.reduceNatCast',R0,b176_1,h_7,eq_true hlt,hw,w10,eq_false c11,w133a,w133b,w133c,w134,eq_true c135,w136,eq_false c137];intro ht; subst ht;simp only[simprocAttr, -Int.reduceNatCast',RR,RB];exact ai rfl (fin_ret (by simp only[simprocAttr, -Int.reduceNatCast',R0,fn_out,p176,Rs.ev,take_len_self,h_7,eq_true hlt,hw,w10,eq_false c11,w133a,w133b,w133c,w134,eq_true c135,w136,eq_false c137]))
   ·rw[if_neg c135]at ho
    cases ho;simp only[simprocAttr, -Int.reduceNatCast',R0,b176_1,h_7,eq_true hlt,hw,w10,eq_false c11,w133a,w133b,w133c,w134,eq_false c135];intro ht; subst ht;simp only[simprocAttr, -Int.reduceNatCast',RR,RB];exact ai rfl (fin_ret (by simp only[simprocAttr, -Int.reduceNatCast',R0,fn_out,p176,Rs.ev,take_len_self,h_7,eq_true hlt,hw,w10,eq_false c11,w133a,w133b,w133c,w134,eq_false c135]))
 ·rintro v17_1 _ e h ⟨k8,rfl,h_7⟩ hge t1 ho
  unfold F176_1_D at ho;cases ho;simp only[simprocAttr, -Int.reduceNatCast',R0,b176_1,h_7,eq_false hge];intro ht; subst ht;refine ai rfl (ei _ (ai rfl ?_));simp only[simprocAttr, -Int.reduceNatCast',R0,h_7,eq_false hge]
theorem s176(a0:GDga){r:Bool}(hF:F176 a0=some r):ans A 176 [V.agg (ceGDga a0)]=some (Enc.enc r):=by
 refine ans_of (f:=p176) rfl rfl rfl fun e hl he=>?_;have h0_0:e.at 0=V.agg (ceGDga a0):=he 0 _ rfl;have hl_0:e.length=170:=hl;clear he hl;have h_0:=ai hl_0 h0_0;show W A b176 e ⟨[],0⟩ _;unfold F176 at hF;have w1:ofCells none (ceGDga a0)=some (V.int .i64 a0.Prime):=by first|exact ceGDga_Prime_one (a:=_) rfl|(simp only[List.drop_drop]; exact ceGDga_Prime_one (by omega))|(show ofCells none (List.drop 0 _)=_; exact ceGDga_Prime_one rfl)
 obtain⟨x2,gx2,hF⟩:=bS hF;have w3:ans A 67 [V.int .i64 a0.Prime]=some (V.bool x2):=s67 a0.Prime gx2;cases x2 with
 |true=>
  rw[if_pos rfl]at hF;have w4:ofCells none (List.drop 1 (ceGDga a0))=some (V.int .i64 a0.Size):=by first|exact ceGDga_Size_one (a:=_) rfl|(simp only[List.drop_drop]; exact ceGDga_Size_one (by omega))|(show ofCells none (List.drop 0 _)=_; exact ceGDga_Size_one rfl)
  obtain⟨x5,gx5,hF⟩:=bS hF;have w6:ans A 56 [V.int .i64 a0.Size,V.int .i64 1,V.int .i64 8]=some (V.bool x5):=s56 a0.Size 1 8 gx5;cases x5 with
  |true=>
   rw[if_pos rfl]at hF;obtain⟨t195,gt195,hF⟩:=bS hF;rcases t195 with _|r199
   ·dsimp only at hF
    simp only[simprocAttr,R0,b176,h_0,w1,w3,w4,w6];refine W.mono (l176_1 a0 gt195 (ei _ (ai rfl ?_))) ?_
    ·simp only[simprocAttr,R0,h_0,w1,w3,w4,w6]
    rintro _ e _ ⟨rfl,k8,rfl,h_9⟩;have w196:ofCells none (List.drop 2 (ceGDga a0))=some (V.int .i64 (a0.Degrees.val.getD 0 0)):=by first|exact ceGDga_Degrees_one (i:=0) (by omega) (by omega)|(simp only[List.drop_drop]; exact ceGDga_Degrees_one (i:=0) (by omega) (by omega))|(show ofCells none (List.drop 0 _)=_; exact ceGDga_Degrees_one (i:=0) (by omega) (by omega))
    by_cases c197:(a0.Degrees.val.getD 0 0)=0
    ·rw[if_pos c197]at hF
     have w198:ofCells none (List.drop 10 (ceGDga a0))=some (V.int .i64 (a0.Levels.val.getD 0 0)):=by first|exact ceGDga_Levels_one (i:=0) (by omega) (by omega)|(simp only[List.drop_drop]; exact ceGDga_Levels_one (i:=0) (by omega) (by omega))|(show ofCells none (List.drop 0 _)=_; exact ceGDga_Levels_one (i:=0) (by omega) (by omega))
     cases hF;simp only[simprocAttr,R0,h_9,(eq_true (show(0:Int) < ((8:Nat):Int) from by decide)),w196,eq_true c197,w198];exact fin_ret (by simp only[simprocAttr,R0,fn_out,p176,Rs.ev,take_len_self,h_9,(eq_true (show(0:Int) < ((8:Nat):Int) from by decide)),w196,eq_true c197,w198])
    ·rw[if_neg c197]at hF
     cases hF;simp only[simprocAttr,R0,h_9,(eq_true (show(0:Int) < ((8:Nat):Int) from by decide)),w196,eq_false c197];exact fin_ret (by simp only[simprocAttr,R0,fn_out,p176,Rs.ev,take_len_self,h_9,(eq_true (show(0:Int) < ((8:Nat):Int) from by decide)),w196,eq_false c197])
   ·dsimp only at hF
    cases hF;simp only[simprocAttr,R0,b176,h_0,w1,w3,w4,w6];refine W.mono (l176_1 a0 gt195 (ei _ (ai rfl ?_))) ?_
    ·simp only[simprocAttr,R0,h_0,w1,w3,w4,w6]
    rintro _ e h ⟨rfl,hq⟩;simp only[simprocAttr,RR,RB];exact hq
  |false=>
   rw[if_neg Bool.false_ne_true]at hF;cases hF;simp only[simprocAttr,R0,b176,h_0,w1,w3,w4,w6];exact fin_ret (by simp only[simprocAttr,R0,fn_out,p176,Rs.ev,take_len_self,h_0,w1,w3,w4,w6])
 |false=>
  rw[if_neg Bool.false_ne_true]at hF;cases hF;simp only[simprocAttr,R0,b176,h_0,w1,w3];exact fin_ret (by simp only[simprocAttr,R0,fn_out,p176,Rs.ev,take_len_self,h_0,w1,w3])
def F177_2_B(a0:GDga)(a1:Ar .u8 8)(a2:Ar .u8 8)(v14_1:Int)(n7:Nat)(v19_2:Int)(o4_2:(List Int)):Option (((List Int))⊕((List Int))):=
 (ixI 8 v19_2).bind fun n14=>
if(a1.val.getD n7 0)=0 then
 some (.inl o4_2)
else
 if(a2.val.getD n14 0)=0 then
  some (.inl o4_2)
 else
  (ixI 8 v14_1).bind fun n20=>
  (chk (a1.val.getD n7 0)).bind fun x23=>
  (chk (a2.val.getD n14 0)).bind fun x24=>
  (chk (x23*x24)).bind fun x25=>
  (F70 a0 ⟨o4_2⟩ ⟨(arP a0.Table.val (n20*64+n14*8) 8)⟩ x25).bind fun x26=>
  some (.inl x26.val)
def F177_2_D(a0:GDga)(a1:Ar .u8 8)(a2:Ar .u8 8)(v14_1:Int)(n7:Nat)(v19_2:Int)(o4_2:(List Int)):Option ((List Int)):=
 some o4_2
def F177_1_B(a0:GDga)(a1:Ar .u8 8)(a2:Ar .u8 8)(v14_1:Int)(o4_1:(List Int)):Option (((List Int))⊕((List Int))):=
 (ixI 8 v14_1).bind fun n7=>
(forR 0 8 (F177_2_B a0 a1 a2 v14_1 n7) (F177_2_D a0 a1 a2 v14_1 n7) o4_1).bind fun zo4_2=>
some (.inl zo4_2)
def F177_1_D(a0:GDga)(a1:Ar .u8 8)(a2:Ar .u8 8)(v14_1:Int)(o4_1:(List Int)):Option ((List Int)):=
 some o4_1
def F177(a0:GDga)(a1:Ar .u8 8)(a2:Ar .u8 8):Option (Ar .u8 8):=
 (forR 0 8 (F177_1_B a0 a1 a2) (F177_1_D a0 a1 a2) ([]:(List Int))).bind fun zo4_1=>
 some ⟨zo4_1⟩
def I177_2(a0:GDga)(a1:Ar .u8 8)(a2:Ar .u8 8)(v14_1:Int)(n7:Nat)(v19_2:Int)(o4_2:(List Int))(e:Env)(h:Heap):Prop:=
 ∃k12:Nat,h=⟨[(0,none),(0,none),(0,none),(3,some (arc .u8 8 [])),(4,some (arc .u8 8 o4_2))],k12⟩∧e.length=46∧e.at 3=V.iptr (ceGDga a0)∧e.at 5=V.iptr (arc .u8 8 a2.val)∧e.at 6=V.ptr 3 3 0∧e.at 7=V.ptr 4 4 0∧e.at 8=V.int .i64 v14_1∧e.at 9=V.int .u8 (a1.val.getD n7 0)∧e.at 13=V.agg (arc .u8 8 a1.val)∧e.at 14=V.int .i64 v14_1∧e.at 18=V.agg (arc .u8 8 a2.val)∧e.at 19=V.int .i64 v19_2
def P177_2(a0:GDga)(a1:Ar .u8 8)(a2:Ar .u8 8)(v14_1:Int)(n7:Nat)(zo4_2:(List Int))(x:Ex)(e:Env)(h:Heap):Prop:=
 x= .normal∧∃k12:Nat,h=⟨[(0,none),(0,none),(0,none),(3,some (arc .u8 8 [])),(4,some (arc .u8 8 zo4_2))],k12⟩∧e.length=46∧e.at 3=V.iptr (ceGDga a0)∧e.at 5=V.iptr (arc .u8 8 a2.val)∧e.at 6=V.ptr 3 3 0∧e.at 7=V.ptr 4 4 0∧e.at 13=V.agg (arc .u8 8 a1.val)∧e.at 14=V.int .i64 v14_1
theorem l177_2(a0:GDga)(a1:Ar .u8 8)(a2:Ar .u8 8)(v14_1:Int)(n7:Nat){lo:Int}{s:(List Int)}{t:(List Int)}(hF:forR lo 8 (F177_2_B a0 a1 a2 v14_1 n7) (F177_2_D a0 a1 a2 v14_1 n7) s=some t){e:Env}{h:Heap}(hI:I177_2 a0 a1 a2 v14_1 n7 lo s e h):W A c177_2 e h (P177_2 a0 a1 a2 v14_1 n7 t):=by
 show W A (.block 2 (.loop false b177_2)) e h _;rw[W_block];refine W_forR hF 5 (by obtain⟨_,rfl,_⟩:=hI; rfl) (I177_2 a0 a1 a2 v14_1 n7) hI ?_ ?_
 ·rintro v19_2 o4_2 e h ⟨k12,rfl,h_11⟩ hlt hw o ho
  unfold F177_2_B at ho;obtain⟨n14,gn14,ho⟩:=bS ho;obtain⟨w15a,w15b,w15c,w15d⟩:=ixI_w gn14;have w16:ofCells none (List.drop n14 (arc .u8 8 a2.val))=some (V.int .u8 (a2.val.getD n14 0)):=by first|exact arc_one' (i:=n14) (by omega) (by omega)|(simp only[List.drop_drop]; exact arc_one' (i:=n14) (by omega) (by omega))|(show ofCells none (List.drop 0 _)=_; exact arc_one' (i:=n14) (by omega) (by omega))
  by_cases c17:(a1.val.getD n7 0)=0
  ·rw[if_pos c17]at ho
   cases ho;simp only[simprocAttr, -Int.reduceNatCast',R0,b177_2,h_11,eq_true hlt,hw,w15a,w15b,w15c,w16,eq_true c17];refine ai rfl (ei _ (ai rfl ?_));simp only[simprocAttr, -Int.reduceNatCast',R0,h_11,eq_true hlt,hw,w15a,w15b,w15c,w16,eq_true c17]
  ·rw[if_neg c17]at ho
   by_cases c18:(a2.val.getD n14 0)=0
   ·rw[if_pos c18]at ho
    cases ho;simp only[simprocAttr, -Int.reduceNatCast',R0,b177_2,h_11,eq_true hlt,hw,w15a,w15b,w15c,w16,eq_false c17,eq_true c18];refine ai rfl (ei _ (ai rfl ?_));simp only[simprocAttr, -Int.reduceNatCast',R0,h_11,eq_true hlt,hw,w15a,w15b,w15c,w16,eq_false c17,eq_true c18]
   ·rw[if_neg c18]at ho
    obtain⟨n20,gn20,ho⟩:=bS ho;obtain⟨w21a,w21b,w21c,w21d⟩:=ixI_w gn20;have w22:List.take 8 (List.drop (n14*8) (List.drop (n20*64) (List.drop 82 (ceGDga a0))))=arc .u8 8 (arP a0.Table.val (n20*64+n14*8) 8):=by first|exact ceGDga_Table_part (i:=n20*64+n14*8) (m:=8) (by omega) (by omega)|(simp only[List.drop_drop]; exact ceGDga_Table_part (i:=n20*64+n14*8) (m:=8) (by omega) (by omega))|(show List.take _ (List.drop 0 _)=_; exact ceGDga_Table_part (i:=n20*64+n14*8) (m:=8) (by omega) (by omega))
    have w22l:8≤List.length (List.drop (n14*8) (List.drop (n20*64) (List.drop 82 (ceGDga a0)))):=by simp only[List.length_drop,arc_len,ceGDga_len]; omega
    obtain⟨x23,gx23,ho⟩:=bS ho;have wx23:=chk_w gx23;obtain⟨x24,gx24,ho⟩:=bS ho;have wx24:=chk_w gx24;obtain⟨x25,gx25,ho⟩:=bS ho;have wx25:=chk_w gx25;obtain⟨x26,gx26,ho⟩:=bS ho;have w27:ans A 70 [V.agg (ceGDga a0),V.agg (arc .u8 8 o4_2),V.agg (arc .u8 8 (arP a0.Table.val (n20*64+n14*8) 8)),V.int .i64 x25]=some (V.agg (arc .u8 8 x26.val)):=s70 a0 ⟨o4_2⟩ ⟨(arP a0.Table.val (n20*64+n14*8) 8)⟩ x25 gx26;have w29:List.drop 8 (arc .u8 8 o4_2)=[]:=List.drop_eq_nil_of_le (by rw[arc_len]; exact Nat.le_refl _);cases ho;simp only[simprocAttr, -Int.reduceNatCast',R0,b177_2,h_11,eq_true hlt,hw,w15a,w15b,w15c,w16,eq_false c17,eq_false c18,w21a,w21b,w21c,w22,eq_true w22l,wx23,wx24,wx25,w27,w29,List.append_nil];refine ai rfl (ei _ (ai rfl ?_));simp only[simprocAttr, -Int.reduceNatCast',R0,h_11,eq_true hlt,hw,w15a,w15b,w15c,w16,eq_false c17,eq_false c18,w21a,w21b,w21c,w22,eq_true w22l,wx23,wx24,wx25,w27,w29,List.append_nil]
 ·rintro v19_2 o4_2 e h ⟨k12,rfl,h_11⟩ hge t1 ho
  unfold F177_2_D at ho;cases ho;simp only[simprocAttr, -Int.reduceNatCast',R0,b177_2,h_11,eq_false hge];intro ht; subst ht;refine ai rfl (ei _ (ai rfl ?_));simp only[simprocAttr, -Int.reduceNatCast',R0,h_11,eq_false hge]
def I177_1(a0:GDga)(a1:Ar .u8 8)(a2:Ar .u8 8)(v14_1:Int)(o4_1:(List Int))(e:Env)(h:Heap):Prop:=
 ∃k5:Nat,h=⟨[(0,none),(0,none),(0,none),(3,some (arc .u8 8 [])),(4,some (arc .u8 8 o4_1))],k5⟩∧e.length=46∧e.at 3=V.iptr (ceGDga a0)∧e.at 5=V.iptr (arc .u8 8 a2.val)∧e.at 6=V.ptr 3 3 0∧e.at 7=V.ptr 4 4 0∧e.at 13=V.agg (arc .u8 8 a1.val)∧e.at 14=V.int .i64 v14_1
def P177_1(a0:GDga)(a1:Ar .u8 8)(a2:Ar .u8 8)(zo4_1:(List Int))(x:Ex)(e:Env)(h:Heap):Prop:=
 x= .normal∧∃k5:Nat,h=⟨[(0,none),(0,none),(0,none),(3,some (arc .u8 8 [])),(4,some (arc .u8 8 zo4_1))],k5⟩∧e.length=46∧e.at 6=V.ptr 3 3 0∧e.at 7=V.ptr 4 4 0
theorem l177_1(a0:GDga)(a1:Ar .u8 8)(a2:Ar .u8 8){lo:Int}{s:(List Int)}{t:(List Int)}(hF:forR lo 8 (F177_1_B a0 a1 a2) (F177_1_D a0 a1 a2) s=some t){e:Env}{h:Heap}(hI:I177_1 a0 a1 a2 lo s e h):W A c177_1 e h (P177_1 a0 a1 a2 t):=by
 show W A (.block 0 (.loop false b177_1)) e h _;rw[W_block];refine W_forR hF 5 (by obtain⟨_,rfl,_⟩:=hI; rfl) (I177_1 a0 a1 a2) hI ?_ ?_
 ·rintro v14_1 o4_1 e h ⟨k5,rfl,h_4⟩ hlt hw o ho
  unfold F177_1_B at ho;obtain⟨n7,gn7,ho⟩:=bS ho;obtain⟨w8a,w8b,w8c,w8d⟩:=ixI_w gn7;have w9:ofCells none (List.drop n7 (arc .u8 8 a1.val))=some (V.int .u8 (a1.val.getD n7 0)):=by first|exact arc_one' (i:=n7) (by omega) (by omega)|(simp only[List.drop_drop]; exact arc_one' (i:=n7) (by omega) (by omega))|(show ofCells none (List.drop 0 _)=_; exact arc_one' (i:=n7) (by omega) (by omega))
  obtain⟨zo4_2,gt30,ho⟩:=bS ho;simp only[simprocAttr,R0,b177_1,h_4,eq_true hlt,hw,w8a,w8b,w8c,w9];refine W.mono (l177_2 a0 a1 a2 v14_1 n7 gt30 (ei _ (ai rfl ?_))) ?_
  ·simp only[simprocAttr,R0,h_4,eq_true hlt,hw,w8a,w8b,w8c,w9]
  rintro _ e _ ⟨rfl,k12,rfl,h_13⟩;cases ho;simp only[simprocAttr,R0,h_13,eq_true hlt,hw];refine ai rfl (ei _ (ai rfl ?_));simp only[simprocAttr,R0,h_13,eq_true hlt,hw]
 ·rintro v14_1 o4_1 e h ⟨k5,rfl,h_4⟩ hge t1 ho
  unfold F177_1_D at ho;cases ho;simp only[simprocAttr,R0,b177_1,h_4,eq_false hge];intro ht; subst ht;refine ai rfl (ei _ (ai rfl ?_));simp only[simprocAttr,R0,h_4,eq_false hge]
theorem s177(a0:GDga)(a1:Ar .u8 8)(a2:Ar .u8 8){r:Ar .u8 8}(hF:F177 a0 a1 a2=some r):ans A 177 [V.agg (ceGDga a0),V.agg (arc .u8 8 a1.val),V.agg (arc .u8 8 a2.val)]=some (Enc.enc r):=by
 refine ans_of (f:=p177) rfl rfl rfl fun e hl he=>?_;have h0_0:e.at 0=V.agg (ceGDga a0):=he 0 _ rfl;have h1_0:e.at 1=V.agg (arc .u8 8 a1.val):=he 1 _ rfl;have h2_0:e.at 2=V.agg (arc .u8 8 a2.val):=he 2 _ rfl;have hl_0:e.length=46:=hl;clear he hl;show W A b177 e ⟨[],0⟩ _;unfold F177 at hF;have w2:List.drop 8 (arc .u8 8 [])=[]:=List.drop_eq_nil_of_le (by rw[arc_len]; exact Nat.le_refl _);obtain⟨zo4_1,gt31,hF⟩:=bS hF;simp only[simprocAttr,R0,b177,hl_0,h0_0,h1_0,h2_0,(show [V.int .u8 0,V.int .u8 0,V.int .u8 0,V.int .u8 0,V.int .u8 0,V.int .u8 0,V.int .u8 0,V.int .u8 0]=arc .u8 8 [] from rfl),w2,List.append_nil];refine W.mono (l177_1 a0 a1 a2 gt31 (ei _ (ai rfl ?_))) ?_
 ·simp only[simprocAttr,R0,hl_0,h0_0,h1_0,h2_0,(show [V.int .u8 0,V.int .u8 0,V.int .u8 0,V.int .u8 0,V.int .u8 0,V.int .u8 0,V.int .u8 0,V.int .u8 0]=arc .u8 8 [] from rfl),w2,List.append_nil]
 rintro _ e _ ⟨rfl,k5,rfl,h_6⟩;have w34:List.drop 8 (arc .u8 8 [])=[]:=List.drop_eq_nil_of_le (by rw[arc_len]; exact Nat.le_refl _);cases hF;simp only[simprocAttr,R0,h_6,w34,List.append_nil];exact fin_ret (by simp only[simprocAttr,R0,fn_out,p177,Rs.ev,take_len_self,h_6,w34,List.append_nil])
def F178_1_B(a0:GDga)(a1:Ar .u8 8)(v10_1:Int)(o3_1:(List Int)):Option (((List Int))⊕((List Int))):=
 (ixI 8 v10_1).bind fun n7=>
(chk (a1.val.getD n7 0)).bind fun x12=>
(F70 a0 ⟨o3_1⟩ ⟨(arP a0.Diff.val (n7*8) 8)⟩ x12).bind fun x13=>
some (.inl x13.val)
def F178_1_D(a0:GDga)(a1:Ar .u8 8)(v10_1:Int)(o3_1:(List Int)):Option ((List Int)):=
 some o3_1
def F178(a0:GDga)(a1:Ar .u8 8):Option (Ar .u8 8):=
 (forR 0 8 (F178_1_B a0 a1) (F178_1_D a0 a1) ([]:(List Int))).bind fun zo3_1=>
 some ⟨zo3_1⟩
def I178_1(a0:GDga)(a1:Ar .u8 8)(v10_1:Int)(o3_1:(List Int))(e:Env)(h:Heap):Prop:=
 ∃k5:Nat,h=⟨[(0,none),(0,none),(2,some (arc .u8 8 [])),(3,some (arc .u8 8 o3_1))],k5⟩∧e.length=25∧e.at 2=V.iptr (ceGDga a0)∧e.at 4=V.ptr 2 2 0∧e.at 5=V.ptr 3 3 0∧e.at 9=V.agg (arc .u8 8 a1.val)∧e.at 10=V.int .i64 v10_1
def P178_1(a0:GDga)(a1:Ar .u8 8)(zo3_1:(List Int))(x:Ex)(e:Env)(h:Heap):Prop:=
 x= .normal∧∃k5:Nat,h=⟨[(0,none),(0,none),(2,some (arc .u8 8 [])),(3,some (arc .u8 8 zo3_1))],k5⟩∧e.length=25∧e.at 4=V.ptr 2 2 0∧e.at 5=V.ptr 3 3 0
theorem l178_1(a0:GDga)(a1:Ar .u8 8){lo:Int}{s:(List Int)}{t:(List Int)}(hF:forR lo 8 (F178_1_B a0 a1) (F178_1_D a0 a1) s=some t){e:Env}{h:Heap}(hI:I178_1 a0 a1 lo s e h):W A c178_1 e h (P178_1 a0 a1 t):=by
 show W A (.block 0 (.loop false b178_1)) e h _;rw[W_block];refine W_forR hF 4 (by obtain⟨_,rfl,_⟩:=hI; rfl) (I178_1 a0 a1) hI ?_ ?_
 ·rintro v10_1 o3_1 e h ⟨k5,rfl,h_4⟩ hlt hw o ho
  unfold F178_1_B at ho;obtain⟨n7,gn7,ho⟩:=bS ho;obtain⟨w8a,w8b,w8c,w8d⟩:=ixI_w gn7;have w9:ofCells none (List.drop n7 (arc .u8 8 a1.val))=some (V.int .u8 (a1.val.getD n7 0)):=by first|exact arc_one' (i:=n7) (by omega) (by omega)|(simp only[List.drop_drop]; exact arc_one' (i:=n7) (by omega) (by omega))|(show ofCells none (List.drop 0 _)=_; exact arc_one' (i:=n7) (by omega) (by omega))
  have w11:List.take 8 (List.drop (n7*8) (List.drop 18 (ceGDga a0)))=arc .u8 8 (arP a0.Diff.val (n7*8) 8):=by first|exact ceGDga_Diff_part (i:=n7*8) (m:=8) (by omega) (by omega)|(simp only[List.drop_drop]; exact ceGDga_Diff_part (i:=n7*8) (m:=8) (by omega) (by omega))|(show List.take _ (List.drop 0 _)=_; exact ceGDga_Diff_part (i:=n7*8) (m:=8) (by omega) (by omega))
  have w11l:8≤List.length (List.drop (n7*8) (List.drop 18 (ceGDga a0))):=by simp only[List.length_drop,arc_len,ceGDga_len]; omega
  obtain⟨x12,gx12,ho⟩:=bS ho;have wx12:=chk_w gx12;obtain⟨x13,gx13,ho⟩:=bS ho;have w14:ans A 70 [V.agg (ceGDga a0),V.agg (arc .u8 8 o3_1),V.agg (arc .u8 8 (arP a0.Diff.val (n7*8) 8)),V.int .i64 x12]=some (V.agg (arc .u8 8 x13.val)):=s70 a0 ⟨o3_1⟩ ⟨(arP a0.Diff.val (n7*8) 8)⟩ x12 gx13;have w16:List.drop 8 (arc .u8 8 o3_1)=[]:=List.drop_eq_nil_of_le (by rw[arc_len]; exact Nat.le_refl _);cases ho;simp only[simprocAttr,R0,b178_1,h_4,eq_true hlt,hw,w8a,w8b,w8c,w9,w11,eq_true w11l,wx12,w14,w16,List.append_nil];refine ai rfl (ei _ (ai rfl ?_));simp only[simprocAttr,R0,h_4,eq_true hlt,hw,w8a,w8b,w8c,w9,w11,eq_true w11l,wx12,w14,w16,List.append_nil]
 ·rintro v10_1 o3_1 e h ⟨k5,rfl,h_4⟩ hge t1 ho
  unfold F178_1_D at ho;cases ho;simp only[simprocAttr,R0,b178_1,h_4,eq_false hge];intro ht; subst ht;refine ai rfl (ei _ (ai rfl ?_));simp only[simprocAttr,R0,h_4,eq_false hge]
theorem s178(a0:GDga)(a1:Ar .u8 8){r:Ar .u8 8}(hF:F178 a0 a1=some r):ans A 178 [V.agg (ceGDga a0),V.agg (arc .u8 8 a1.val)]=some (Enc.enc r):=by
 refine ans_of (f:=p178) rfl rfl rfl fun e hl he=>?_;have h0_0:e.at 0=V.agg (ceGDga a0):=he 0 _ rfl;have h1_0:e.at 1=V.agg (arc .u8 8 a1.val):=he 1 _ rfl;have hl_0:e.length=25:=hl;clear he hl;show W A b178 e ⟨[],0⟩ _;unfold F178 at hF;have w2:List.drop 8 (arc .u8 8 [])=[]:=List.drop_eq_nil_of_le (by rw[arc_len]; exact Nat.le_refl _);obtain⟨zo3_1,gt17,hF⟩:=bS hF;simp only[simprocAttr,R0,b178,hl_0,h0_0,h1_0,(show [V.int .u8 0,V.int .u8 0,V.int .u8 0,V.int .u8 0,V.int .u8 0,V.int .u8 0,V.int .u8 0,V.int .u8 0]=arc .u8 8 [] from rfl),w2,List.append_nil];refine W.mono (l178_1 a0 a1 gt17 (ei _ (ai rfl ?_))) ?_
 ·simp only[simprocAttr,R0,hl_0,h0_0,h1_0,(show [V.int .u8 0,V.int .u8 0,V.int .u8 0,V.int .u8 0,V.int .u8 0,V.int .u8 0,V.int .u8 0,V.int .u8 0]=arc .u8 8 [] from rfl),w2,List.append_nil]
 rintro _ e _ ⟨rfl,k5,rfl,h_6⟩;have w20:List.drop 8 (arc .u8 8 [])=[]:=List.drop_eq_nil_of_le (by rw[arc_len]; exact Nat.le_refl _);cases hF;simp only[simprocAttr,R0,h_6,w20,List.append_nil];exact fin_ret (by simp only[simprocAttr,R0,fn_out,p178,Rs.ev,take_len_self,h_6,w20,List.append_nil])
def F179(a0:Int):Option Int:=
 (remI a0 2).bind fun x1=>
 (chk (x1*2)).bind fun x3=>
 (chk (1 - x3)).bind fun x4=>
 some x4
theorem s179(a0:Int){r:Int}(hF:F179 a0=some r):ans A 179 [V.int .i64 a0]=some (Enc.enc r):=by
 refine ans_of (f:=p179) rfl rfl rfl fun e hl he=>?_;have h0_0:e.at 0=V.int .i64 a0:=he 0 _ rfl;have hl_0:e.length=7:=hl;clear he hl;show W A b179 e ⟨[],0⟩ _;unfold F179 at hF;obtain⟨x1,gx1,hF⟩:=bS hF;obtain⟨w2a,w2b⟩:=rem_w gx1;obtain⟨x3,gx3,hF⟩:=bS hF;have wx3:=chk_w gx3;obtain⟨x4,gx4,hF⟩:=bS hF;have wx4:=chk_w gx4;cases hF;simp only[simprocAttr,R0,b179,hl_0,h0_0,eq_false w2a,w2b,wx3,wx4];exact fin_ret (by simp only[simprocAttr,R0,fn_out,p179,Rs.ev,take_len_self,hl_0,h0_0,eq_false w2a,w2b,wx3,wx4])
def F157_3_B(a0:GDga)(v15_1:Int)(x7:Ar .u8 8)(v49_2:Int)(x36:Ar .u8 8)(x45:Ar .u8 8)(x60:Ar .u8 8)(v89_3:Int)(s:Unit):Option ((Unit)⊕((Unit)⊕Bool)):=
 (ixI 8 v15_1).bind fun n72=>
(ixI 8 v49_2).bind fun n74=>
(F69 a0 v89_3).bind fun x77=>
(F177 a0 ⟨(arP a0.Table.val (n72*64+n74*8) 8)⟩ x77).bind fun x79=>
(ixI 8 v89_3).bind fun n82=>
(F177 a0 x7 ⟨(arP a0.Table.val (n74*64+n82*8) 8)⟩).bind fun x85=>
(arE .u8 8 x79.val x85.val).bind fun x87=>
if x87=true then
 some (.inl ())
else
 some (.inr (.inr false))
def F157_3_D(a0:GDga)(v15_1:Int)(x7:Ar .u8 8)(v49_2:Int)(x36:Ar .u8 8)(x45:Ar .u8 8)(x60:Ar .u8 8)(v89_3:Int)(s:Unit):Option ((Unit)⊕Bool):=
 some (.inl ())
def F157_2_B(a0:GDga)(v15_1:Int)(x7:Ar .u8 8)(v49_2:Int)(s:Unit):Option ((Unit)⊕((Unit)⊕Bool)):=
 (F69 a0 v49_2).bind fun x36=>
(ixI 8 v15_1).bind fun n40=>
(ixI 8 v49_2).bind fun n42=>
(F178 a0 ⟨(arP a0.Table.val (n40*64+n42*8) 8)⟩).bind fun x45=>
(F177 a0 ⟨(arP a0.Diff.val (n40*8) 8)⟩ x36).bind fun x51=>
(F177 a0 x7 ⟨(arP a0.Diff.val (n42*8) 8)⟩).bind fun x55=>
(F179 (a0.Degrees.val.getD n40 0)).bind fun x58=>
(F70 a0 x51 x55 x58).bind fun x60=>
(arE .u8 8 x45.val x60.val).bind fun x66=>
if x66=true then
 (forR 0 a0.Size (F157_3_B a0 v15_1 x7 v49_2 x36 x45 x60) (F157_3_D a0 v15_1 x7 v49_2 x36 x45 x60) ()).bind fun t89=> match t89 with
  | .inl _=>
   some (.inl ())
  | .inr r90=> some (.inr (.inr r90))
else
 some (.inr (.inr false))
def F157_2_D(a0:GDga)(v15_1:Int)(x7:Ar .u8 8)(v49_2:Int)(s:Unit):Option ((Unit)⊕Bool):=
 some (.inl ())
def F157_1_B(a0:GDga)(v15_1:Int)(s:Unit):Option ((Unit)⊕((Unit)⊕Bool)):=
 (F69 a0 v15_1).bind fun x7=>
(F69 a0 0).bind fun x11=>
(F177 a0 x11 x7).bind fun x14=>
(arE .u8 8 x14.val x7.val).bind fun x17=>
if x17=true then
 (F177 a0 x7 x11).bind fun x20=>
 (arE .u8 8 x20.val x7.val).bind fun x23=>
 if x23=true then
  (ixI 8 v15_1).bind fun n25=>
  (F178 a0 ⟨(arP a0.Diff.val (n25*8) 8)⟩).bind fun x28=>
  (arE .u8 8 x28.val []).bind fun x30=>
  if x30=true then
   (forR 0 a0.Size (F157_2_B a0 v15_1 x7) (F157_2_D a0 v15_1 x7) ()).bind fun t91=> match t91 with
    | .inl _=>
     some (.inl ())
    | .inr r92=> some (.inr (.inr r92))
  else
   some (.inr (.inr false))
 else
  some (.inr (.inr false))
else
 some (.inr (.inr false))
def F157_1_D(a0:GDga)(v15_1:Int)(s:Unit):Option ((Unit)⊕Bool):=
 some (.inl ())
def F157(a0:GDga):Option Bool:=
 (F176 a0).bind fun x1=>
 if x1=true then
  (forR 0 a0.Size (F157_1_B a0) (F157_1_D a0) ()).bind fun t93=> match t93 with
   | .inl _=>
    some true
   | .inr r94=> some r94
 else
  some false
def I157_3(a0:GDga)(v15_1:Int)(x7:Ar .u8 8)(v49_2:Int)(x36:Ar .u8 8)(x45:Ar .u8 8)(x60:Ar .u8 8)(k5 k34:Nat)(v89_3:Int)(s:Unit)(e:Env)(h:Heap):Prop:=
 ∃k70:Nat,h=⟨[(0,none),(k5,some (arc .u8 8 x7.val)),(k34,some (arc .u8 8 x36.val)),((k34+1),some (arc .u8 8 x45.val)),((k34+2),some (arc .u8 8 x60.val))],k70⟩∧e.length=116∧e.at 1=V.iptr (ceGDga a0)∧e.at 3=V.int .i64 v15_1∧e.at 4=V.ptr 1 k5 0∧e.at 5=V.int .i64 v49_2∧e.at 14=V.int .i64 a0.Size∧e.at 15=V.int .i64 v15_1∧e.at 48=V.int .i64 a0.Size∧e.at 49=V.int .i64 v49_2∧e.at 88=V.int .i64 a0.Size∧e.at 89=V.int .i64 v89_3
def P157_3(a0:GDga)(v15_1:Int)(x7:Ar .u8 8)(v49_2:Int)(x36:Ar .u8 8)(x45:Ar .u8 8)(x60:Ar .u8 8)(k5 k34:Nat)(t:(Unit)⊕Bool)(x:Ex)(e:Env)(h:Heap):Prop:=
 match t with
 | .inl _=> x= .normal∧∃k70:Nat,h=⟨[(0,none),(k5,some (arc .u8 8 x7.val)),(k34,some (arc .u8 8 x36.val)),((k34+1),some (arc .u8 8 x45.val)),((k34+2),some (arc .u8 8 x60.val))],k70⟩∧e.length=116∧e.at 1=V.iptr (ceGDga a0)∧e.at 3=V.int .i64 v15_1∧e.at 4=V.ptr 1 k5 0∧e.at 14=V.int .i64 a0.Size∧e.at 15=V.int .i64 v15_1∧e.at 48=V.int .i64 a0.Size∧e.at 49=V.int .i64 v49_2
 | .inr r=> x= .ret∧Fin p157 (Enc.enc r) .ret e h
theorem l157_3(a0:GDga)(v15_1:Int)(x7:Ar .u8 8)(v49_2:Int)(x36:Ar .u8 8)(x45:Ar .u8 8)(x60:Ar .u8 8)(k5 k34:Nat){lo:Int}{s:Unit}{t:(Unit)⊕Bool}(hF:forR lo a0.Size (F157_3_B a0 v15_1 x7 v49_2 x36 x45 x60) (F157_3_D a0 v15_1 x7 v49_2 x36 x45 x60) s=some t){e:Env}{h:Heap}(hI:I157_3 a0 v15_1 x7 v49_2 x36 x45 x60 k5 k34 lo s e h):W A c157_3 e h (P157_3 a0 v15_1 x7 v49_2 x36 x45 x60 k5 k34 t):=by
 show W A (.block 4 (.loop false b157_3)) e h _;rw[W_block];refine W_forR hF 5 (by obtain⟨_,rfl,_⟩:=hI; rfl) (I157_3 a0 v15_1 x7 v49_2 x36 x45 x60 k5 k34) hI ?_ ?_
 ·rintro v89_3 _ e h ⟨k70,rfl,h_69⟩ hlt hw o ho
  unfold F157_3_B at ho;obtain⟨n72,gn72,ho⟩:=bS ho;obtain⟨w73a,w73b,w73c,w73d⟩:=ixI_w gn72;obtain⟨n74,gn74,ho⟩:=bS ho;obtain⟨w75a,w75b,w75c,w75d⟩:=ixI_w gn74;have w76:List.take 8 (List.drop (n74*8) (List.drop (n72*64) (List.drop 82 (ceGDga a0))))=arc .u8 8 (arP a0.Table.val (n72*64+n74*8) 8):=by first|exact ceGDga_Table_part (i:=n72*64+n74*8) (m:=8) (by omega) (by omega)|(simp only[List.drop_drop]; exact ceGDga_Table_part (i:=n72*64+n74*8) (m:=8) (by omega) (by omega))|(show List.take _ (List.drop 0 _)=_; exact ceGDga_Table_part (i:=n72*64+n74*8) (m:=8) (by omega) (by omega))
  have w76l:8≤List.length (List.drop (n74*8) (List.drop (n72*64) (List.drop 82 (ceGDga a0)))):=by simp only[List.length_drop,arc_len,ceGDga_len]; omega
  obtain⟨x77,gx77,ho⟩:=bS ho;have w78:ans A 69 [V.agg (ceGDga a0),V.int .i64 v89_3]=some (V.agg (arc .u8 8 x77.val)):=s69 a0 v89_3 gx77;obtain⟨x79,gx79,ho⟩:=bS ho;have w80:ans A 177 [V.agg (ceGDga a0),V.agg (arc .u8 8 (arP a0.Table.val (n72*64+n74*8) 8)),V.agg (arc .u8 8 x77.val)]=some (V.agg (arc .u8 8 x79.val)):=s177 a0 ⟨(arP a0.Table.val (n72*64+n74*8) 8)⟩ x77 gx79;obtain⟨n82,gn82,ho⟩:=bS ho;obtain⟨w83a,w83b,w83c,w83d⟩:=ixI_w gn82;have w84:List.take 8 (List.drop (n82*8) (List.drop (n74*64) (List.drop 82 (ceGDga a0))))=arc .u8 8 (arP a0.Table.val (n74*64+n82*8) 8):=by first|exact ceGDga_Table_part (i:=n74*64+n82*8) (m:=8) (by omega) (by omega)|(simp only[List.drop_drop]; exact ceGDga_Table_part (i:=n74*64+n82*8) (m:=8) (by omega) (by omega))|(show List.take _ (List.drop 0 _)=_; exact ceGDga_Table_part (i:=n74*64+n82*8) (m:=8) (by omega) (by omega))
  have w84l:8≤List.length (List.drop (n82*8) (List.drop (n74*64) (List.drop 82 (ceGDga a0)))):=by simp only[List.length_drop,arc_len,ceGDga_len]; omega
  obtain⟨x85,gx85,ho⟩:=bS ho;have w86:ans A 177 [V.agg (ceGDga a0),V.agg (arc .u8 8 x7.val),V.agg (arc .u8 8 (arP a0.Table.val (n74*64+n82*8) 8))]=some (V.agg (arc .u8 8 x85.val)):=s177 a0 x7 ⟨(arP a0.Table.val (n74*64+n82*8) 8)⟩ gx85;obtain⟨x87,gx87,ho⟩:=bS ho;have w88:eqSV true 12 (Lay.arr 8 8 1 (Lay.int Go.IntKind.u8)) (V.agg (arc .u8 8 x79.val)) (V.agg (arc .u8 8 x85.val))=some (V.bool (!x87)):=eqS_arc1 gx87;cases x87 with
  |true=>
   rw[if_pos rfl]at ho;cases ho;simp only[simprocAttr, -Int.reduceNatCast',R0,b157_3,h_69,eq_true hlt,hw,w73a,w73b,w73c,w75a,w75b,w75c,w76,eq_true w76l,w78,w80,w83a,w83b,w83c,w84,eq_true w84l,w86,w88];refine ai rfl (ei _ (ai rfl ?_));simp only[simprocAttr, -Int.reduceNatCast',R0,h_69,eq_true hlt,hw,w73a,w73b,w73c,w75a,w75b,w75c,w76,eq_true w76l,w78,w80,w83a,w83b,w83c,w84,eq_true w84l,w86,w88]
  |false=>
   rw[if_neg Bool.false_ne_true]at ho;cases ho;simp only[simprocAttr, -Int.reduceNatCast',R0,b157_3,h_69,eq_true hlt,hw,w73a,w73b,w73c,w75a,w75b,w75c,w76,eq_true w76l,w78,w80,w83a,w83b,w83c,w84,eq_true w84l,w86,w88];intro ht; subst ht;simp only[simprocAttr, -Int.reduceNatCast',RR,RB];exact ai rfl (fin_ret (by simp only[simprocAttr, -Int.reduceNatCast',R0,fn_out,p157,Rs.ev,take_len_self,h_69,eq_true hlt,hw,w73a,w73b,w73c,w75a,w75b,w75c,w76,eq_true w76l,w78,w80,w83a,w83b,w83c,w84,eq_true w84l,w86,w88]))
 ·rintro v89_3 _ e h ⟨k70,rfl,h_69⟩ hge t1 ho
  unfold F157_3_D at ho;cases ho;simp only[simprocAttr, -Int.reduceNatCast',R0,b157_3,h_69,eq_false hge];intro ht; subst ht;refine ai rfl (ei _ (ai rfl ?_));simp only[simprocAttr, -Int.reduceNatCast',R0,h_69,eq_false hge]
def I157_2(a0:GDga)(v15_1:Int)(x7:Ar .u8 8)(k5:Nat)(v49_2:Int)(s:Unit)(e:Env)(h:Heap):Prop:=
 ∃k34:Nat,h=⟨[(0,none),(k5,some (arc .u8 8 x7.val))],k34⟩∧e.length=116∧e.at 1=V.iptr (ceGDga a0)∧e.at 3=V.int .i64 v15_1∧e.at 4=V.ptr 1 k5 0∧e.at 14=V.int .i64 a0.Size∧e.at 15=V.int .i64 v15_1∧e.at 48=V.int .i64 a0.Size∧e.at 49=V.int .i64 v49_2
def P157_2(a0:GDga)(v15_1:Int)(x7:Ar .u8 8)(k5:Nat)(t:(Unit)⊕Bool)(x:Ex)(e:Env)(h:Heap):Prop:=
 match t with
 | .inl _=> x= .normal∧∃k34:Nat,h=⟨[(0,none),(k5,some (arc .u8 8 x7.val))],k34⟩∧e.length=116∧e.at 1=V.iptr (ceGDga a0)∧e.at 14=V.int .i64 a0.Size∧e.at 15=V.int .i64 v15_1
 | .inr r=> x= .ret∧Fin p157 (Enc.enc r) .ret e h
set_option maxHeartbeats 8000000 in
theorem l157_2(a0:GDga)(v15_1:Int)(x7:Ar .u8 8)(k5:Nat){lo:Int}{s:Unit}{t:(Unit)⊕Bool}(hF:forR lo a0.Size (F157_2_B a0 v15_1 x7) (F157_2_D a0 v15_1 x7) s=some t){e:Env}{h:Heap}(hI:I157_2 a0 v15_1 x7 k5 lo s e h):W A c157_2 e h (P157_2 a0 v15_1 x7 k5 t):=by
 show W A (.block 2 (.loop false b157_2)) e h _;rw[W_block];refine W_forR hF 2 (by obtain⟨_,rfl,_⟩:=hI; rfl) (I157_2 a0 v15_1 x7 k5) hI ?_ ?_
 ·rintro v49_2 _ e h ⟨k34,rfl,h_33⟩ hlt hw o ho
  unfold F157_2_B at ho;obtain⟨x36,gx36,ho⟩:=bS ho;have w37:ans A 69 [V.agg (ceGDga a0),V.int .i64 v49_2]=some (V.agg (arc .u8 8 x36.val)):=s69 a0 v49_2 gx36;have w39:List.drop 8 (arc .u8 8 [])=[]:=List.drop_eq_nil_of_le (by rw[arc_len]; exact Nat.le_refl _);obtain⟨n40,gn40,ho⟩:=bS ho;obtain⟨w41a,w41b,w41c,w41d⟩:=ixI_w gn40;obtain⟨n42,gn42,ho⟩:=bS ho;obtain⟨w43a,w43b,w43c,w43d⟩:=ixI_w gn42;have w44:List.take 8 (List.drop (n42*8) (List.drop (n40*64) (List.drop 82 (ceGDga a0))))=arc .u8 8 (arP a0.Table.val (n40*64+n42*8) 8):=by first|exact ceGDga_Table_part (i:=n40*64+n42*8) (m:=8) (by omega) (by omega)|(simp only[List.drop_drop]; exact ceGDga_Table_part (i:=n40*64+n42*8) (m:=8) (by omega) (by omega))|(show List.take _ (List.drop 0 _)=_; exact ceGDga_Table_part (i:=n40*64+n42*8) (m:=8) (by omega) (by omega))
  have w44l:8≤List.length (List.drop (n42*8) (List.drop (n40*64) (List.drop 82 (ceGDga a0)))):=by simp only[List.length_drop,arc_len,ceGDga_len]; omega
  obtain⟨x45,gx45,ho⟩:=bS ho;have w46:ans A 178 [V.agg (ceGDga a0),V.agg (arc .u8 8 (arP a0.Table.val (n40*64+n42*8) 8))]=some (V.agg (arc .u8 8 x45.val)):=s178 a0 ⟨(arP a0.Table.val (n40*64+n42*8) 8)⟩ gx45;have w48:List.drop 8 (arc .u8 8 [])=[]:=List.drop_eq_nil_of_le (by rw[arc_len]; exact Nat.le_refl _);have w49:List.take 8 (List.drop (n40*8) (List.drop 18 (ceGDga a0)))=arc .u8 8 (arP a0.Diff.val (n40*8) 8):=by first|exact ceGDga_Diff_part (i:=n40*8) (m:=8) (by omega) (by omega)|(simp only[List.drop_drop]; exact ceGDga_Diff_part (i:=n40*8) (m:=8) (by omega) (by omega))|(show List.take _ (List.drop 0 _)=_; exact ceGDga_Diff_part (i:=n40*8) (m:=8) (by omega) (by omega))
  have w49l:8≤List.length (List.drop (n40*8) (List.drop 18 (ceGDga a0))):=by simp only[List.length_drop,arc_len,ceGDga_len]; omega
  obtain⟨x51,gx51,ho⟩:=bS ho;have w52:ans A 177 [V.agg (ceGDga a0),V.agg (arc .u8 8 (arP a0.Diff.val (n40*8) 8)),V.agg (arc .u8 8 x36.val)]=some (V.agg (arc .u8 8 x51.val)):=s177 a0 ⟨(arP a0.Diff.val (n40*8) 8)⟩ x36 gx51;have w54:List.take 8 (List.drop (n42*8) (List.drop 18 (ceGDga a0)))=arc .u8 8 (arP a0.Diff.val (n42*8) 8):=by first|exact ceGDga_Diff_part (i:=n42*8) (m:=8) (by omega) (by omega)|(simp only[List.drop_drop]; exact ceGDga_Diff_part (i:=n42*8) (m:=8) (by omega) (by omega))|(show List.take _ (List.drop 0 _)=_; exact ceGDga_Diff_part (i:=n42*8) (m:=8) (by omega) (by omega))
  have w54l:8≤List.length (List.drop (n42*8) (List.drop 18 (ceGDga a0))):=by simp only[List.length_drop,arc_len,ceGDga_len]; omega
  obtain⟨x55,gx55,ho⟩:=bS ho;have w56:ans A 177 [V.agg (ceGDga a0),V.agg (arc .u8 8 x7.val),V.agg (arc .u8 8 (arP a0.Diff.val (n42*8) 8))]=some (V.agg (arc .u8 8 x55.val)):=s177 a0 x7 ⟨(arP a0.Diff.val (n42*8) 8)⟩ gx55;have w57:ofCells none (List.drop n40 (List.drop 2 (ceGDga a0)))=some (V.int .i64 (a0.Degrees.val.getD n40 0)):=by first|exact ceGDga_Degrees_one (i:=n40) (by omega) (by omega)|(simp only[List.drop_drop]; exact ceGDga_Degrees_one (i:=n40) (by omega) (by omega))|(show ofCells none (List.drop 0 _)=_; exact ceGDga_Degrees_one (i:=n40) (by omega) (by omega))
  obtain⟨x58,gx58,ho⟩:=bS ho;have w59:ans A 179 [V.int .i64 (a0.Degrees.val.getD n40 0)]=some (V.int .i64 x58):=s179 (a0.Degrees.val.getD n40 0) gx58;obtain⟨x60,gx60,ho⟩:=bS ho;have w61:ans A 70 [V.agg (ceGDga a0),V.agg (arc .u8 8 x51.val),V.agg (arc .u8 8 x55.val),V.int .i64 x58]=some (V.agg (arc .u8 8 x60.val)):=s70 a0 x51 x55 x58 gx60;have w63:List.drop 8 (arc .u8 8 [])=[]:=List.drop_eq_nil_of_le (by rw[arc_len]; exact Nat.le_refl _);obtain⟨x66,gx66,ho⟩:=bS ho;have w67:eqSV true 12 (Lay.arr 8 8 1 (Lay.int Go.IntKind.u8)) (V.agg (arc .u8 8 x45.val)) (V.agg (arc .u8 8 x60.val))=some (V.bool (!x66)):=eqS_arc1 gx66;cases x66 with
  |true=>
   rw[if_pos rfl]at ho;have w68:ofCells none (List.drop 1 (ceGDga a0))=some (V.int .i64 a0.Size):=by first|exact ceGDga_Size_one (a:=_) rfl|(simp only[List.drop_drop]; exact ceGDga_Size_one (by omega))|(show ofCells none (List.drop 0 _)=_; exact ceGDga_Size_one rfl)
   obtain⟨t89,gt89,ho⟩:=bS ho;rcases t89 with _|r90
   ·dsimp only at ho
    simp only[simprocAttr, -Int.reduceNatCast',R0,b157_2,h_33,eq_true hlt,hw,w37,(show [V.int .u8 0,V.int .u8 0,V.int .u8 0,V.int .u8 0,V.int .u8 0,V.int .u8 0,V.int .u8 0,V.int .u8 0]=arc .u8 8 [] from rfl),w39,List.append_nil,w41a,w41b,w41c,w43a,w43b,w43c,w44,eq_true w44l,w46,w48,List.append_nil,w49,eq_true w49l,w52,w54,eq_true w54l,w56,w57,w59,w61,w63,List.append_nil,w67,w68];refine W.mono (l157_3 a0 v15_1 x7 v49_2 x36 x45 x60 k5 k34 gt89 (ei _ (ai rfl ?_))) ?_
    ·simp only[simprocAttr, -Int.reduceNatCast',R0,h_33,eq_true hlt,hw,w37,(show [V.int .u8 0,V.int .u8 0,V.int .u8 0,V.int .u8 0,V.int .u8 0,V.int .u8 0,V.int .u8 0,V.int .u8 0]=arc .u8 8 [] from rfl),w39,List.append_nil,w41a,w41b,w41c,w43a,w43b,w43c,w44,eq_true w44l,w46,w48,List.append_nil,w49,eq_true w49l,w52,w54,eq_true w54l,w56,w57,w59,w61,w63,List.append_nil,w67,w68]
    rintro _ e _ ⟨rfl,k70,rfl,h_71⟩;cases ho;simp only[simprocAttr, -Int.reduceNatCast',R0,h_71,eq_true hlt,hw,eq_true w44l,eq_true w49l,eq_true w54l];refine ai rfl (ei _ (ai rfl ?_));simp only[simprocAttr, -Int.reduceNatCast',R0,h_71,eq_true hlt,hw,eq_true w44l,eq_true w49l,eq_true w54l]
   ·dsimp only at ho
    cases ho;simp only[simprocAttr, -Int.reduceNatCast',R0,b157_2,h_33,eq_true hlt,hw,w37,(show [V.int .u8 0,V.int .u8 0,V.int .u8 0,V.int .u8 0,V.int .u8 0,V.int .u8 0,V.int .u8 0,V.int .u8 0]=arc .u8 8 [] from rfl),w39,List.append_nil,w41a,w41b,w41c,w43a,w43b,w43c,w44,eq_true w44l,w46,w48,List.append_nil,w49,eq_true w49l,w52,w54,eq_true w54l,w56,w57,w59,w61,w63,List.append_nil,w67,w68];refine W.mono (l157_3 a0 v15_1 x7 v49_2 x36 x45 x60 k5 k34 gt89 (ei _ (ai rfl ?_))) ?_
    ·simp only[simprocAttr, -Int.reduceNatCast',R0,h_33,eq_true hlt,hw,w37,(show [V.int .u8 0,V.int .u8 0,V.int .u8 0,V.int .u8 0,V.int .u8 0,V.int .u8 0,V.int .u8 0,V.int .u8 0]=arc .u8 8 [] from rfl),w39,List.append_nil,w41a,w41b,w41c,w43a,w43b,w43c,w44,eq_true w44l,w46,w48,List.append_nil,w49,eq_true w49l,w52,w54,eq_true w54l,w56,w57,w59,w61,w63,List.append_nil,w67,w68]
    rintro _ e h ⟨rfl,hq⟩;simp only[simprocAttr, -Int.reduceNatCast',RR,RB];intro ht; subst ht;simp only[simprocAttr, -Int.reduceNatCast',RR,RB];exact ai rfl hq
  |false=>
   rw[if_neg Bool.false_ne_true]at ho;cases ho;simp only[simprocAttr, -Int.reduceNatCast',R0,b157_2,h_33,eq_true hlt,hw,w37,(show [V.int .u8 0,V.int .u8 0,V.int .u8 0,V.int .u8 0,V.int .u8 0,V.int .u8 0,V.int .u8 0,V.int .u8 0]=arc .u8 8 [] from rfl),w39,List.append_nil,w41a,w41b,w41c,w43a,w43b,w43c,w44,eq_true w44l,w46,w48,List.append_nil,w49,eq_true w49l,w52,w54,eq_true w54l,w56,w57,w59,w61,w63,List.append_nil,w67];intro ht; subst ht;simp only[simprocAttr, -Int.reduceNatCast',RR,RB];exact ai rfl (fin_ret (by simp only[simprocAttr, -Int.reduceNatCast',R0,fn_out,p157,Rs.ev,take_len_self,h_33,eq_true hlt,hw,w37,(show [V.int .u8 0,V.int .u8 0,V.int .u8 0,V.int .u8 0,V.int .u8 0,V.int .u8 0,V.int .u8 0,V.int .u8 0]=arc .u8 8 [] from rfl),w39,List.append_nil,w41a,w41b,w41c,w43a,w43b,w43c,w44,eq_true w44l,w46,w48,List.append_nil,w49,eq_true w49l,w52,w54,eq_true w54l,w56,w57,w59,w61,w63,List.append_nil,w67]))
 ·rintro v49_2 _ e h ⟨k34,rfl,h_33⟩ hge t1 ho
  unfold F157_2_D at ho;cases ho;simp only[simprocAttr, -Int.reduceNatCast',R0,b157_2,h_33,eq_false hge];intro ht; subst ht;refine ai rfl (ei _ (ai rfl ?_));simp only[simprocAttr, -Int.reduceNatCast',R0,h_33,eq_false hge]
def I157_1(a0:GDga)(v15_1:Int)(s:Unit)(e:Env)(h:Heap):Prop:=
 ∃k5:Nat,h=⟨[(0,none)],k5⟩∧e.length=116∧e.at 1=V.iptr (ceGDga a0)∧e.at 14=V.int .i64 a0.Size∧e.at 15=V.int .i64 v15_1
def P157_1(a0:GDga)(t:(Unit)⊕Bool)(x:Ex)(e:Env)(h:Heap):Prop:=
 match t with
 | .inl _=> x= .normal∧∃k5:Nat,h=⟨[(0,none)],k5⟩∧e.length=116
 | .inr r=> x= .ret∧Fin p157 (Enc.enc r) .ret e h
set_option maxHeartbeats 8000000 in
theorem l157_1(a0:GDga){lo:Int}{s:Unit}{t:(Unit)⊕Bool}(hF:forR lo a0.Size (F157_1_B a0) (F157_1_D a0) s=some t){e:Env}{h:Heap}(hI:I157_1 a0 lo s e h):W A c157_1 e h (P157_1 a0 t):=by
 show W A (.block 0 (.loop false b157_1)) e h _;rw[W_block];refine W_forR hF 1 (by obtain⟨_,rfl,_⟩:=hI; rfl) (I157_1 a0) hI ?_ ?_
 ·rintro v15_1 _ e h ⟨k5,rfl,h_4⟩ hlt hw o ho
  unfold F157_1_B at ho;obtain⟨x7,gx7,ho⟩:=bS ho;have w8:ans A 69 [V.agg (ceGDga a0),V.int .i64 v15_1]=some (V.agg (arc .u8 8 x7.val)):=s69 a0 v15_1 gx7;have w10:List.drop 8 (arc .u8 8 [])=[]:=List.drop_eq_nil_of_le (by rw[arc_len]; exact Nat.le_refl _);obtain⟨x11,gx11,ho⟩:=bS ho;have w12:ans A 69 [V.agg (ceGDga a0),V.int .i64 0]=some (V.agg (arc .u8 8 x11.val)):=s69 a0 0 gx11;obtain⟨x14,gx14,ho⟩:=bS ho;have w15:ans A 177 [V.agg (ceGDga a0),V.agg (arc .u8 8 x11.val),V.agg (arc .u8 8 x7.val)]=some (V.agg (arc .u8 8 x14.val)):=s177 a0 x11 x7 gx14;obtain⟨x17,gx17,ho⟩:=bS ho;have w18:eqSV true 12 (Lay.arr 8 8 1 (Lay.int Go.IntKind.u8)) (V.agg (arc .u8 8 x14.val)) (V.agg (arc .u8 8 x7.val))=some (V.bool (!x17)):=eqS_arc1 gx17;cases x17 with
  |true=>
   rw[if_pos rfl]at ho;obtain⟨x20,gx20,ho⟩:=bS ho;have w21:ans A 177 [V.agg (ceGDga a0),V.agg (arc .u8 8 x7.val),V.agg (arc .u8 8 x11.val)]=some (V.agg (arc .u8 8 x20.val)):=s177 a0 x7 x11 gx20;obtain⟨x23,gx23,ho⟩:=bS ho;have w24:eqSV true 12 (Lay.arr 8 8 1 (Lay.int Go.IntKind.u8)) (V.agg (arc .u8 8 x20.val)) (V.agg (arc .u8 8 x7.val))=some (V.bool (!x23)):=eqS_arc1 gx23;cases x23 with
   |true=>
    rw[if_pos rfl]at ho;obtain⟨n25,gn25,ho⟩:=bS ho;obtain⟨w26a,w26b,w26c,w26d⟩:=ixI_w gn25;have w27:List.take 8 (List.drop (n25*8) (List.drop 18 (ceGDga a0)))=arc .u8 8 (arP a0.Diff.val (n25*8) 8):=by first|exact ceGDga_Diff_part (i:=n25*8) (m:=8) (by omega) (by omega)|(simp only[List.drop_drop]; exact ceGDga_Diff_part (i:=n25*8) (m:=8) (by omega) (by omega))|(show List.take _ (List.drop 0 _)=_; exact ceGDga_Diff_part (i:=n25*8) (m:=8) (by omega) (by omega))
    have w27l:8≤List.length (List.drop (n25*8) (List.drop 18 (ceGDga a0))):=by simp only[List.length_drop,arc_len,ceGDga_len]; omega
    obtain⟨x28,gx28,ho⟩:=bS ho;have w29:ans A 178 [V.agg (ceGDga a0),V.agg (arc .u8 8 (arP a0.Diff.val (n25*8) 8))]=some (V.agg (arc .u8 8 x28.val)):=s178 a0 ⟨(arP a0.Diff.val (n25*8) 8)⟩ gx28;obtain⟨x30,gx30,ho⟩:=bS ho;have w31:eqSV true 12 (Lay.arr 8 8 1 (Lay.int Go.IntKind.u8)) (V.agg (arc .u8 8 x28.val)) (V.agg (arc .u8 8 []))=some (V.bool (!x30)):=eqS_arc1 gx30;cases x30 with
    |true=>
     rw[if_pos rfl]at ho;have w32:ofCells none (List.drop 1 (ceGDga a0))=some (V.int .i64 a0.Size):=by first|exact ceGDga_Size_one (a:=_) rfl|(simp only[List.drop_drop]; exact ceGDga_Size_one (by omega))|(show ofCells none (List.drop 0 _)=_; exact ceGDga_Size_one rfl)
     obtain⟨t91,gt91,ho⟩:=bS ho;rcases t91 with _|r92
     ·dsimp only at ho
      simp only[simprocAttr, -Int.reduceNatCast',R0,b157_1,h_4,eq_true hlt,hw,w8,(show [V.int .u8 0,V.int .u8 0,V.int .u8 0,V.int .u8 0,V.int .u8 0,V.int .u8 0,V.int .u8 0,V.int .u8 0]=arc .u8 8 [] from rfl),w10,List.append_nil,w12,w15,w18,w21,w24,w26a,w26b,w26c,w27,eq_true w27l,w29,w31,w32];refine W.mono (l157_2 a0 v15_1 x7 k5 gt91 (ei _ (ai rfl ?_))) ?_
      ·simp only[simprocAttr, -Int.reduceNatCast',R0,h_4,eq_true hlt,hw,w8,(show [V.int .u8 0,V.int .u8 0,V.int .u8 0,V.int .u8 0,V.int .u8 0,V.int .u8 0,V.int .u8 0,V.int .u8 0]=arc .u8 8 [] from rfl),w10,List.append_nil,w12,w15,w18,w21,w24,w26a,w26b,w26c,w27,eq_true w27l,w29,w31,w32]
      rintro _ e _ ⟨rfl,k34,rfl,h_35⟩;cases ho;simp only[simprocAttr, -Int.reduceNatCast',R0,h_35,eq_true hlt,hw,eq_true w27l];refine ai rfl (ei _ (ai rfl ?_));simp only[simprocAttr, -Int.reduceNatCast',R0,h_35,eq_true hlt,hw,eq_true w27l]
     ·dsimp only at ho
      cases ho;simp only[simprocAttr, -Int.reduceNatCast',R0,b157_1,h_4,eq_true hlt,hw,w8,(show [V.int .u8 0,V.int .u8 0,V.int .u8 0,V.int .u8 0,V.int .u8 0,V.int .u8 0,V.int .u8 0,V.int .u8 0]=arc .u8 8 [] from rfl),w10,List.append_nil,w12,w15,w18,w21,w24,w26a,w26b,w26c,w27,eq_true w27l,w29,w31,w32];refine W.mono (l157_2 a0 v15_1 x7 k5 gt91 (ei _ (ai rfl ?_))) ?_
      ·simp only[simprocAttr, -Int.reduceNatCast',R0,h_4,eq_true hlt,hw,w8,(show [V.int .u8 0,V.int .u8 0,V.int .u8 0,V.int .u8 0,V.int .u8 0,V.int .u8 0,V.int .u8 0,V.int .u8 0]=arc .u8 8 [] from rfl),w10,List.append_nil,w12,w15,w18,w21,w24,w26a,w26b,w26c,w27,eq_true w27l,w29,w31,w32]
      rintro _ e h ⟨rfl,hq⟩;simp only[simprocAttr, -Int.reduceNatCast',RR,RB];intro ht; subst ht;simp only[simprocAttr, -Int.reduceNatCast',RR,RB];exact ai rfl hq
    |false=>
     rw[if_neg Bool.false_ne_true]at ho;cases ho;simp only[simprocAttr, -Int.reduceNatCast',R0,b157_1,h_4,eq_true hlt,hw,w8,(show [V.int .u8 0,V.int .u8 0,V.int .u8 0,V.int .u8 0,V.int .u8 0,V.int .u8 0,V.int .u8 0,V.int .u8 0]=arc .u8 8 [] from rfl),w10,List.append_nil,w12,w15,w18,w21,w24,w26a,w26b,w26c,w27,eq_true w27l,w29,w31];intro ht; subst ht;simp only[simprocAttr, -Int.reduceNatCast',RR,RB];exact ai rfl (fin_ret (by simp only[simprocAttr, -Int.reduceNatCast',R0,fn_out,p157,Rs.ev,take_len_self,h_4,eq_true hlt,hw,w8,(show [V.int .u8 0,V.int .u8 0,V.int .u8 0,V.int .u8 0,V.int .u8 0,V.int .u8 0,V.int .u8 0,V.int .u8 0]=arc .u8 8 [] from rfl),w10,List.append_nil,w12,w15,w18,w21,w24,w26a,w26b,w26c,w27,eq_true w27l,w29,w31]))
   |false=>
    rw[if_neg Bool.false_ne_true]at ho;cases ho;simp only[simprocAttr, -Int.reduceNatCast',R0,b157_1,h_4,eq_true hlt,hw,w8,(show [V.int .u8 0,V.int .u8 0,V.int .u8 0,V.int .u8 0,V.int .u8 0,V.int .u8 0,V.int .u8 0,V.int .u8 0]=arc .u8 8 [] from rfl),w10,List.append_nil,w12,w15,w18,w21,w24];intro ht; subst ht;simp only[simprocAttr, -Int.reduceNatCast',RR,RB];exact ai rfl (fin_ret (by simp only[simprocAttr, -Int.reduceNatCast',R0,fn_out,p157,Rs.ev,take_len_self,h_4,eq_true hlt,hw,w8,(show [V.int .u8 0,V.int .u8 0,V.int .u8 0,V.int .u8 0,V.int .u8 0,V.int .u8 0,V.int .u8 0,V.int .u8 0]=arc .u8 8 [] from rfl),w10,List.append_nil,w12,w15,w18,w21,w24]))
  |false=>
   rw[if_neg Bool.false_ne_true]at ho;cases ho;simp only[simprocAttr, -Int.reduceNatCast',R0,b157_1,h_4,eq_true hlt,hw,w8,(show [V.int .u8 0,V.int .u8 0,V.int .u8 0,V.int .u8 0,V.int .u8 0,V.int .u8 0,V.int .u8 0,V.int .u8 0]=arc .u8 8 [] from rfl),w10,List.append_nil,w12,w15,w18];intro ht; subst ht;simp only[simprocAttr, -Int.reduceNatCast',RR,RB];exact ai rfl (fin_ret (by simp only[simprocAttr, -Int.reduceNatCast',R0,fn_out,p157,Rs.ev,take_len_self,h_4,eq_true hlt,hw,w8,(show [V.int .u8 0,V.int .u8 0,V.int .u8 0,V.int .u8 0,V.int .u8 0,V.int .u8 0,V.int .u8 0,V.int .u8 0]=arc .u8 8 [] from rfl),w10,List.append_nil,w12,w15,w18]))
 ·rintro v15_1 _ e h ⟨k5,rfl,h_4⟩ hge t1 ho
  unfold F157_1_D at ho;cases ho;simp only[simprocAttr, -Int.reduceNatCast',R0,b157_1,h_4,eq_false hge];intro ht; subst ht;refine ai rfl (ei _ (ai rfl ?_));simp only[simprocAttr, -Int.reduceNatCast',R0,h_4,eq_false hge]
theorem s157(a0:GDga){r:Bool}(hF:F157 a0=some r):ans A 157 [V.agg (ceGDga a0)]=some (Enc.enc r):=by
 refine ans_of (f:=p157) rfl rfl rfl fun e hl he=>?_;have h0_0:e.at 0=V.agg (ceGDga a0):=he 0 _ rfl;have hl_0:e.length=116:=hl;clear he hl;have h_0:=ai hl_0 h0_0;show W A b157 e ⟨[],0⟩ _;unfold F157 at hF;obtain⟨x1,gx1,hF⟩:=bS hF;have w2:ans A 176 [V.agg (ceGDga a0)]=some (V.bool x1):=s176 a0 gx1;cases x1 with
 |true=>
  rw[if_pos rfl]at hF;have w3:ofCells none (List.drop 1 (ceGDga a0))=some (V.int .i64 a0.Size):=by first|exact ceGDga_Size_one (a:=_) rfl|(simp only[List.drop_drop]; exact ceGDga_Size_one (by omega))|(show ofCells none (List.drop 0 _)=_; exact ceGDga_Size_one rfl)
  obtain⟨t93,gt93,hF⟩:=bS hF;rcases t93 with _|r94
  ·dsimp only at hF
   simp only[simprocAttr,R0,b157,h_0,w2,w3];refine W.mono (l157_1 a0 gt93 (ei _ (ai rfl ?_))) ?_
   ·simp only[simprocAttr,R0,h_0,w2,w3]
   rintro _ e _ ⟨rfl,k5,rfl,hl_6⟩;cases hF;simp only[simprocAttr,R0,hl_6];exact fin_ret (by simp only[simprocAttr,R0,fn_out,p157,Rs.ev,take_len_self,hl_6])
  ·dsimp only at hF
   cases hF;simp only[simprocAttr,R0,b157,h_0,w2,w3];refine W.mono (l157_1 a0 gt93 (ei _ (ai rfl ?_))) ?_
   ·simp only[simprocAttr,R0,h_0,w2,w3]
   rintro _ e h ⟨rfl,hq⟩;simp only[simprocAttr,RR,RB];exact hq
 |false=>
  rw[if_neg Bool.false_ne_true]at hF;cases hF;simp only[simprocAttr,R0,b157,h_0,w2];exact fin_ret (by simp only[simprocAttr,R0,fn_out,p157,Rs.ev,take_len_self,h_0,w2])
def F96(a0:List Int):Option (List Int):=app 8 [] a0
theorem t96(a0:List Int){r:List Int}(hF:F96 a0=some r):tans A 96 [1] [V.isl (a0.map Enc.enc)]=some (Enc.enc r):=clone_tans rfl hF
def F128_1_B(a0:List (List Int))(f1:(List Int)→Option Bool)(v8_1:Int)(s:Unit):Option ((Unit)⊕((Unit)⊕Int)):=
 (getI a0 v8_1).bind fun x4=>
(f1 x4).bind fun x6=>
if x6=true then
 some (.inr (.inr v8_1))
else
 some (.inl ())
def F128_1_D(a0:List (List Int))(f1:(List Int)→Option Bool)(v8_1:Int)(s:Unit):Option ((Unit)⊕Int):=
 some (.inl ())
def F128(a0:List (List Int))(f1:(List Int)→Option Bool):Option Int:=
 (forR 0 (a0.length:Int) (F128_1_B a0 f1) (F128_1_D a0 f1) ()).bind fun t8=> match t8 with
  | .inl _=>
   some (-1)
  | .inr r9=> some r9
def I128_1(a0:List (List Int))(f1:(List Int)→Option Bool)(vf1:V)(v8_1:Int)(s:Unit)(e:Env)(h:Heap):Prop:=
 ∃k2:Nat,h=⟨[],k2⟩∧e.length=19∧e.at 0=V.isl (a0.map Enc.enc)∧e.at 1=vf1∧e.at 7=V.int .i64 (a0.length:Int)∧e.at 8=V.int .i64 v8_1
def P128_1(a0:List (List Int))(f1:(List Int)→Option Bool)(vf1:V)(t:(Unit)⊕Int)(x:Ex)(e:Env)(h:Heap):Prop:=
 match t with
 | .inl _=> x= .normal∧∃k2:Nat,h=⟨[],k2⟩∧e.length=19
 | .inr r=> x= .ret∧Fin p128 (Enc.enc r) .ret e h
theorem l128_1(a0:List (List Int))(f1:(List Int)→Option Bool)(vf1:V)(hf1:Clo1 A vf1 f1){lo:Int}{s:Unit}{t:(Unit)⊕Int}(hF:forR lo (a0.length:Int) (F128_1_B a0 f1) (F128_1_D a0 f1) s=some t){e:Env}{h:Heap}(hI:I128_1 a0 f1 vf1 lo s e h):W A c128_1 e h (P128_1 a0 f1 vf1 t):=by
 obtain⟨g_f1,fs_f1,cs_f1,hv_f1,hc_f1⟩:=id hf1;show W A (.block 0 (.loop false b128_1)) e h _;rw[W_block];refine W_forR hF 0 (by obtain⟨_,rfl,_⟩:=hI; rfl) (I128_1 a0 f1 vf1) hI ?_ ?_
 ·rintro v8_1 _ e h ⟨k2,rfl,h_1⟩ hlt hw o ho
  unfold F128_1_B at ho;obtain⟨x4,gx4,ho⟩:=bS ho;obtain⟨w5a,w5b⟩:=getI_w gx4;obtain⟨x6,gx6,ho⟩:=bS ho;have w7a:∀h,mapO (frz h 16) (fs_f1++[V.isl (x4.map Enc.enc)]++cs_f1)=some (fs_f1++[V.isl (x4.map Enc.enc)]++cs_f1):=fun h=> hc_f1.zf x4 h;have w7b:List.all (fs_f1++[V.isl (x4.map Enc.enc)]++cs_f1) (refless 16)=true:=hc_f1.zr x4;have w7c:ans A g_f1 (fs_f1++[V.isl (x4.map Enc.enc)]++cs_f1)=some (V.bool x6):=hc_f1.ka x4 _ gx6;cases x6 with
  |true=>
   rw[if_pos rfl]at ho;cases ho;simp only[simprocAttr,R0,b128_1,h_1,eq_true hlt,hw,w5a,w5b,hv_f1,w7a,w7b,w7c];intro ht; subst ht;simp only[simprocAttr,RR,RB];exact ai rfl (fin_ret (by simp only[simprocAttr,R0,fn_out,p128,Rs.ev,take_len_self,h_1,eq_true hlt,hw,w5a,w5b,hv_f1,w7a,w7b,w7c]))
  |false=>
   rw[if_neg Bool.false_ne_true]at ho;cases ho;simp only[simprocAttr,R0,b128_1,h_1,eq_true hlt,hw,w5a,w5b,hv_f1,w7a,w7b,w7c];refine ai rfl (ei _ (ai rfl ?_));simp only[simprocAttr,R0,h_1,eq_true hlt,hw,w5a,w5b,hv_f1,w7a,w7b,w7c]
 ·rintro v8_1 _ e h ⟨k2,rfl,h_1⟩ hge t1 ho
  unfold F128_1_D at ho;cases ho;simp only[simprocAttr,R0,b128_1,h_1,eq_false hge];intro ht; subst ht;refine ai rfl (ei _ (ai rfl ?_));simp only[simprocAttr,R0,h_1,eq_false hge]
theorem s128(a0:List (List Int))(f1:(List Int)→Option Bool){vf1:V}(hf1:Clo1 A vf1 f1){r:Int}(hF:F128 a0 f1=some r):ans A 128 [V.isl (a0.map Enc.enc),vf1]=some (Enc.enc r):=by
 refine ans_of (f:=p128) rfl rfl rfl fun e hl he=>?_;have h0_0:e.at 0=V.isl (a0.map Enc.enc):=he 0 _ rfl;have h1_0:e.at 1=vf1:=he 1 _ rfl;obtain⟨g_f1,fs_f1,cs_f1,hv_f1,hc_f1⟩:=id hf1;have hl_0:e.length=19:=hl;clear he hl;have h_0:=ai hl_0 (ai h0_0 h1_0);show W A b128 e ⟨[],0⟩ _;unfold F128 at hF;obtain⟨t8,gt8,hF⟩:=bS hF;rcases t8 with _|r9
 ·dsimp only at hF
  simp only[simprocAttr,R0,b128,h_0];refine W.mono (l128_1 a0 f1 vf1 hf1 gt8 (ei _ (ai rfl ?_))) ?_
  ·simp only[simprocAttr,R0,h_0]
  rintro _ e _ ⟨rfl,k2,rfl,hl_3⟩;cases hF;simp only[simprocAttr,R0,hl_3];exact fin_ret (by simp only[simprocAttr,R0,fn_out,p128,Rs.ev,take_len_self,hl_3])
 ·dsimp only at hF
  cases hF;simp only[simprocAttr,R0,b128,h_0];refine W.mono (l128_1 a0 f1 vf1 hf1 gt8 (ei _ (ai rfl ?_))) ?_
  ·simp only[simprocAttr,R0,h_0]
  rintro _ e h ⟨rfl,hq⟩;simp only[simprocAttr,RR,RB];exact hq
def F137(a0:List Int)(d0:Int):Option Bool:=
 (getI a0 d0).bind fun x1=>
 some (!(decide (x1=0)))
theorem s137(a0:List Int)(d0:Int){r:Bool}(hF:F137 a0 d0=some r):ans A 137 [V.isl (a0.map Enc.enc),V.iptr [V.int .i64 d0]]=some (Enc.enc r):=by
 refine ans_of (f:=p137) rfl rfl rfl fun e hl he=>?_;have h0_0:e.at 0=V.isl (a0.map Enc.enc):=he 0 _ rfl;have h1_0:e.at 1=V.iptr [V.int .i64 d0]:=he 1 _ rfl;have hl_0:e.length=9:=hl;clear he hl;show W A b137 e ⟨[],0⟩ _;unfold F137 at hF;obtain⟨x1,gx1,hF⟩:=bS hF;obtain⟨w2a,w2b⟩:=getI_w gx1;cases hF;simp only[simprocAttr,R0,b137,hl_0,h0_0,h1_0,w2a,w2b];exact fin_ret (by simp only[simprocAttr,R0,fn_out,p137,Rs.ev,take_len_self,hl_0,h0_0,h1_0,w2a,w2b])
def F138_1_S(a0:Int)(a1:Int)(v5_1:Int):Option ((Int)⊕(Int)):=
 (chk (v5_1*a1)).bind fun x4=>
(remI x4 a0).bind fun x5=>
if x5=1 then
 some (.inr v5_1)
else
 (chk (v5_1+1)).bind fun x8=>
 some (.inl x8)
def F138(a0:Int)(a1:Int):Option Int:=
 (loopW (F138_1_S a0 a1) 1).bind fun zv5_1=>
 some zv5_1
def I138_1(a0:Int)(a1:Int)(v5_1:Int)(e:Env)(h:Heap):Prop:=
 ∃k2:Nat,h=⟨[],k2⟩∧e.length=15∧e.at 0=V.int .i64 a0∧e.at 1=V.int .i64 a1∧e.at 5=V.int .i64 v5_1
def P138_1(a0:Int)(a1:Int)(zv5_1:Int)(x:Ex)(e:Env)(h:Heap):Prop:=
 x= .normal∧∃k2:Nat,h=⟨[],k2⟩∧e.length=15∧e.at 5=V.int .i64 zv5_1
theorem l138_1(a0:Int)(a1:Int){s:Int}{t:Int}(hF:loopW (F138_1_S a0 a1) s=some t){e:Env}{h:Heap}(hI:I138_1 a0 a1 s e h):W A c138_1 e h (P138_1 a0 a1 t):=by
 show W A (.block 0 (.loop false b138_1)) e h _;rw[W_block];refine W_loop hF 0 (by obtain⟨_,rfl,_⟩:=hI; rfl) (I138_1 a0 a1) hI ?_
 ·rintro v5_1 e h ⟨k2,rfl,h_1⟩ o ho
  unfold F138_1_S at ho;obtain⟨x4,gx4,ho⟩:=bS ho;have wx4:=chk_w gx4;obtain⟨x5,gx5,ho⟩:=bS ho;obtain⟨w6a,w6b⟩:=rem_w gx5;by_cases c7:x5=1
  ·rw[if_pos c7]at ho
   cases ho;simp only[simprocAttr,R0,b138_1,h_1,wx4,eq_false w6a,w6b,eq_true c7];intro ht; subst ht;simp only[simprocAttr,RR,RB];refine ai rfl (ei _ (ai rfl ?_));simp only[simprocAttr,R0,h_1,wx4,eq_false w6a,w6b,eq_true c7]
  ·rw[if_neg c7]at ho
   obtain⟨x8,gx8,ho⟩:=bS ho;have wx8:=chk_w gx8;cases ho;simp only[simprocAttr,R0,b138_1,h_1,wx4,eq_false w6a,w6b,eq_false c7,wx8];refine ai rfl (ei _ (ai rfl ?_));simp only[simprocAttr,R0,h_1,wx4,eq_false w6a,w6b,eq_false c7,wx8]
theorem s138(a0:Int)(a1:Int){r:Int}(hF:F138 a0 a1=some r):ans A 138 [V.int .i64 a0,V.int .i64 a1]=some (Enc.enc r):=by
 refine ans_of (f:=p138) rfl rfl rfl fun e hl he=>?_;have h0_0:e.at 0=V.int .i64 a0:=he 0 _ rfl;have h1_0:e.at 1=V.int .i64 a1:=he 1 _ rfl;have hl_0:e.length=15:=hl;clear he hl;show W A b138 e ⟨[],0⟩ _;unfold F138 at hF;obtain⟨zv5_1,gt9,hF⟩:=bS hF;simp only[simprocAttr,R0,b138,hl_0,h0_0,h1_0];refine W.mono (l138_1 a0 a1 gt9 (ei _ (ai rfl ?_))) ?_
 ·simp only[simprocAttr,R0,hl_0,h0_0,h1_0]
 rintro _ e _ ⟨rfl,k2,rfl,h_3⟩;cases hF;simp only[simprocAttr,R0,h_3];exact fin_ret (by simp only[simprocAttr,R0,fn_out,p138,Rs.ev,take_len_self,h_3])
def F139_1_B(other:List Int)(p by_:Int)(i:Int)(row:List Int):Option (List Int⊕List Int):=
 (getI other i).bind fun y=>(getI row i).bind fun r=>(chk (p - by_)).bind fun q=>(chk (q*y)).bind fun m=>(chk (r+m)).bind fun s=>(remI s p).bind fun z=>(setI row i z).bind fun row'=> some (.inl row')
def F139_1_D(i:Int)(row:List Int):Option (List Int):=some row
def F139(row other:List Int)(p by_:Int):Option (List Int):=forR 0 (other.length:Int) (F139_1_B other p by_) F139_1_D row
theorem d139{row other row':List Int}{p by_:Int}(hF:F139 row other p by_=some row')(E:List (Nat×Option (List V)))(c:Nat){key uid key2 uid2:Nat}(g1:E[key]? =some (uid,some (row.map Enc.enc)))(g2:E[key2]? =some (uid2,some (other.map Enc.enc)))(hne:key2≠key):
  res A 139 [V.sl key uid 0 row.length 1,V.sl key2 uid2 0 other.length 1,V.int .i64 p,V.int .i64 by_] ⟨E,c⟩=some (V.undef,⟨E.set key (uid,some (List.map Enc.enc row')),c⟩)∧row'.length=row.length:=by
 have hk:key < E.length:=(List.getElem?_eq_some_iff.1 g1).1
 suffices∃h',res A 139 [V.sl key uid 0 row.length 1,V.sl key2 uid2 0 other.length 1,V.int .i64 p,V.int .i64 by_] ⟨E,c⟩=some (V.undef,h')∧h'=⟨E.set key (uid,some (List.map Enc.enc row')),c⟩∧row'.length=row.length by
  obtain⟨h',q1,rfl,q2⟩:=this;exact⟨q1,q2⟩
 refine res_ex (f:=p139) rfl rfl rfl fun e hl he=>?_;have h0_0:e.at 0=V.sl key uid 0 row.length 1:=he 0 _ rfl;have h1_0:e.at 1=V.sl key2 uid2 0 other.length 1:=he 1 _ rfl;have h2_0:e.at 2=V.int .i64 p:=he 2 _ rfl;have h3_0:e.at 3=V.int .i64 by_:=he 3 _ rfl;have hl_0:e.length=33:=hl;clear he hl;show W A b139 e ⟨E,c⟩ _;unfold F139 at hF;simp only[simprocAttr,R1,b139,hl_0,h0_0,h1_0,h2_0,h3_0];show W A (.block 0 (.loop true b139_1)) _ _ _;rw[W_block];refine W_forR hF _ rfl (fun i s e h=> s.length=row.length∧h=⟨E.set key (uid,some (s.map Enc.enc)),c⟩∧e.length=33∧e.at 0=V.sl key uid 0 row.length 1∧e.at 2=V.int .i64 p∧e.at 3=V.int .i64 by_∧e.at 10=V.sl key2 uid2 0 other.length 1∧e.at 11=V.int .i64 (other.length:Int)∧e.at 12=V.int .i64 i) ?_ ?_ ?_
 ·refine⟨rfl,?_,?_⟩
  ·rw[set_self g1]
  ·simp only[simprocAttr,R1,hl_0,h0_0,h1_0,h2_0,h3_0]
 ·clear hl_0 h0_0 h1_0 h2_0 h3_0
  rintro i s e h ⟨hs,rfl,h_1⟩ hlt hw s' ho;unfold F139_1_B at ho;obtain⟨y,gy,ho⟩:=bS ho;obtain⟨ya,yb⟩:=getI_w gy;have yc:=getI_lt gy;obtain⟨r,gr,ho⟩:=bS ho;obtain⟨ra,rb⟩:=getI_w gr;have rc:=getI_lt gr;obtain⟨q,gq,ho⟩:=bS ho;have wq:=chk_w gq;obtain⟨m,gm,ho⟩:=bS ho;have wm:=chk_w gm;obtain⟨t,gt,ho⟩:=bS ho;have wt:=chk_w gt;obtain⟨z,gz,ho⟩:=bS ho;obtain⟨wz0,wz⟩:=rem_w gz;obtain⟨row2,gs,ho⟩:=bS ho;obtain⟨s1,s2,s3,s4,s5⟩:=setI_w gs;cases ho;have oy:ofCells none (List.drop (Int.toNat i) (other.map Enc.enc))=some (V.int .i64 y):=ofCells_drop (by rw[List.getElem?_map,yb]; rfl);have orr:ofCells none (List.drop (Int.toNat i) (s.map Enc.enc))=some (V.int .i64 r):=ofCells_drop (by rw[List.getElem?_map,rb]; rfl);have n1:∀x,(E.set key x)[key]? =some x:=fun x=> set_app_key hk;have n2:∀x,(E.set key x)[key2]? =some (uid2,some (other.map Enc.enc)):=fun x=>(set_ne hne).trans g2;have s5':List.take (Int.toNat i) (s.map Enc.enc)++[V.int .i64 z]++List.drop (Int.toNat i+1) (s.map Enc.enc)=List.map Enc.enc row2:=s5;have rc':i < (row.length:Int):=by omega
  simp only[simprocAttr,R1,b139_1,h_1,eq_true hlt,hw,ya,eq_true yc,oy,ra,eq_true rc',orr,n1,n2,wq,wm,wt,wz0,wz,s3,s5',List.set_set];refine ai rfl ⟨by omega,rfl,?_⟩;simp only[simprocAttr,R1,h_1,hw]
 ·clear hl_0 h0_0 h1_0 h2_0 h3_0
  rintro i s e h ⟨hs,rfl,h_1⟩ hge t1 ho;unfold F139_1_D at ho;cases ho;simp only[simprocAttr,R1,b139_1,h_1,eq_false hge];intro ht; subst ht;refine ai (fun _=> trivial) ⟨?_,rfl,hs⟩;simp only[simprocAttr,R1,fn_out,p139,mapO];rfl
theorem i139{row other row':List Int}{p by_:Int}(hF:F139 row other p by_=some row')(E:List (Nat×Option (List V)))(c:Nat){key uid:Nat}(g1:E[key]? =some (uid,some (row.map Enc.enc))):
  res A 139 [V.sl key uid 0 row.length 1,V.isl (other.map Enc.enc),V.int .i64 p,V.int .i64 by_] ⟨E,c⟩=some (V.undef,⟨E.set key (uid,some (List.map Enc.enc row')),c⟩)∧row'.length=row.length:=by
 have hk:key < E.length:=(List.getElem?_eq_some_iff.1 g1).1
 suffices∃h',res A 139 [V.sl key uid 0 row.length 1,V.isl (other.map Enc.enc),V.int .i64 p,V.int .i64 by_] ⟨E,c⟩=some (V.undef,h')∧h'=⟨E.set key (uid,some (List.map Enc.enc row')),c⟩∧row'.length=row.length by
  obtain⟨h',q1,rfl,q2⟩:=this;exact⟨q1,q2⟩
 refine res_ex (f:=p139) rfl rfl rfl fun e hl he=>?_;have h0_0:e.at 0=V.sl key uid 0 row.length 1:=he 0 _ rfl;have h1_0:e.at 1=V.isl (other.map Enc.enc):=he 1 _ rfl;have h2_0:e.at 2=V.int .i64 p:=he 2 _ rfl;have h3_0:e.at 3=V.int .i64 by_:=he 3 _ rfl;have hl_0:e.length=33:=hl;clear he hl;show W A b139 e ⟨E,c⟩ _;unfold F139 at hF;simp only[simprocAttr,R1,b139,hl_0,h0_0,h1_0,h2_0,h3_0];show W A (.block 0 (.loop true b139_1)) _ _ _;rw[W_block];refine W_forR hF _ rfl (fun i s e h=> s.length=row.length∧h=⟨E.set key (uid,some (s.map Enc.enc)),c⟩∧e.length=33∧e.at 0=V.sl key uid 0 row.length 1∧e.at 2=V.int .i64 p∧e.at 3=V.int .i64 by_∧e.at 10=V.isl (other.map Enc.enc)∧e.at 11=V.int .i64 (other.length:Int)∧e.at 12=V.int .i64 i) ?_ ?_ ?_
 ·refine⟨rfl,?_,?_⟩
  ·rw[set_self g1]
  ·simp only[simprocAttr,R1,hl_0,h0_0,h1_0,h2_0,h3_0]
 ·clear hl_0 h0_0 h1_0 h2_0 h3_0
  rintro i s e h ⟨hs,rfl,h_1⟩ hlt hw s' ho;unfold F139_1_B at ho;obtain⟨y,gy,ho⟩:=bS ho;obtain⟨ya,yb⟩:=getI_w gy;have yc:=getI_lt gy;obtain⟨r,gr,ho⟩:=bS ho;obtain⟨ra,rb⟩:=getI_w gr;have rc:=getI_lt gr;obtain⟨q,gq,ho⟩:=bS ho;have wq:=chk_w gq;obtain⟨m,gm,ho⟩:=bS ho;have wm:=chk_w gm;obtain⟨t,gt,ho⟩:=bS ho;have wt:=chk_w gt;obtain⟨z,gz,ho⟩:=bS ho;obtain⟨wz0,wz⟩:=rem_w gz;obtain⟨row2,gs,ho⟩:=bS ho;obtain⟨s1,s2,s3,s4,s5⟩:=setI_w gs;cases ho;have orr:ofCells none (List.drop (Int.toNat i) (s.map Enc.enc))=some (V.int .i64 r):=ofCells_drop (by rw[List.getElem?_map,rb]; rfl);have n1:∀x,(E.set key x)[key]? =some x:=fun x=> set_app_key hk;have s5':List.take (Int.toNat i) (s.map Enc.enc)++[V.int .i64 z]++List.drop (Int.toNat i+1) (s.map Enc.enc)=List.map Enc.enc row2:=s5;have rc':i < (row.length:Int):=by omega
  simp only[simprocAttr,R1,b139_1,h_1,eq_true hlt,hw,ya,yb,ra,eq_true rc',orr,n1,wq,wm,wt,wz0,wz,s3,s5',List.set_set];refine ai rfl ⟨by omega,rfl,?_⟩;simp only[simprocAttr,R1,h_1,hw]
 ·clear hl_0 h0_0 h1_0 h2_0 h3_0
  rintro i s e h ⟨hs,rfl,h_1⟩ hge t1 ho;unfold F139_1_D at ho;cases ho;simp only[simprocAttr,R1,b139_1,h_1,eq_false hge];intro ht; subst ht;refine ai (fun _=> trivial) ⟨?_,rfl,hs⟩;simp only[simprocAttr,R1,fn_out,p139,mapO];rfl
end
end Rv
