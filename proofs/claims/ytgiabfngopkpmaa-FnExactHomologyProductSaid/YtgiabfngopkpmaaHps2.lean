/- What the abstract code answers: typed functions, part 3. -/
import Derived.Test.YtgiabfngopkpmaaHps1
namespace Rv
set_option linter.unusedVariables false
set_option linter.unusedSimpArgs false
set_option maxRecDepth 100000
noncomputable section
def F133_1_B(rows:List (List Int))(i:Int)(s:List (List Int)):Option (List (List Int)⊕List (List Int)):=(getI rows i).bind fun r=>(F96 r).bind fun d=>(app 24 s [d]).bind fun l=> some (.inl l)
def F133_1_D(i:Int)(s:List (List Int)):Option (List (List Int)):=some s
def F133_3_B(p b:Int)(k:Int)(row:List Int):Option (List Int⊕List Int):=(getI row k).bind fun x=>(chk (x*b)).bind fun m=>(remI m p).bind fun z=>(setI row k z).bind fun r=> some (.inl r)
def F133_3_D(k:Int)(row:List Int):Option (List Int):=some row
def F133_4_B(p c done:Int)(i:Int)(l:List (List Int)):Option (List (List Int)⊕List (List Int)):=
 if i=done then some (.inl l)else(getI l i).bind fun r=>(getI l done).bind fun o=>(getI r c).bind fun x=>(F139 r o p x).bind fun r'=>(setI l i r').bind fun l'=> some (.inl l')
def F133_4_D(i:Int)(l:List (List Int)):Option (List (List Int)):=some l
def F133_2_B(p:Int)(c:Int)(s:List (List Int)×Int):Option ((List (List Int)×Int)⊕(List (List Int)×Int)):=
 if 0≤s.2∧s.2≤s.1.length then
  (F128 (s.1.drop s.2.toNat) (fun r=> F137 r c)).bind fun at_=>
  if at_ < 0 then some (.inl s)else
  (chk (s.2+at_)).bind fun j=>(getI s.1 j).bind fun a=>(getI s.1 s.2).bind fun b=>(setI s.1 s.2 a).bind fun l1=>(setI l1 j b).bind fun l2=>
  (getI l2 s.2).bind fun row=>(getI row c).bind fun x=>(F138 p x).bind fun by_=>
  (forR 0 (row.length:Int) (F133_3_B p by_) F133_3_D row).bind fun row'=>(setI l2 s.2 row').bind fun l3=>
  (forR 0 (l3.length:Int) (F133_4_B p c s.2) F133_4_D l3).bind fun l4=>(chk (s.2+1)).bind fun d=> if d=(l4.length:Int)then some (.inr (l4,d))else some (.inl (l4,d))
 else none
def F133_2_D(c:Int)(s:List (List Int)×Int):Option (List (List Int)×Int):=some s
def F133(p:Int)(rows:List (List Int)):Option (List (List Int)):=
 (forR 0 (rows.length:Int) (F133_1_B rows) F133_1_D []).bind fun l=> if(l.length:Int)=0 then some l else(getI l 0).bind fun r0=>
 (forR 0 (r0.length:Int) (F133_2_B p) F133_2_D (l,0)).bind fun t=> if 0≤t.2∧t.2≤t.1.length then some (t.1.take t.2.toNat)else none
set_option maxHeartbeats 8000000 in
theorem d133(p:Int)(rows:List (List Int)){r:List (List Int)}(hF:F133 p rows=some r):∃v h',res A 133 [V.int .i64 p,V.isl (rows.map Enc.enc)] Heap.empty=some (v,h')∧
  ∃u vs l,v=V.sl 0 u 0 r.length 1∧h'.ents[0]? =some (u,some vs)∧MatAt h'.ents vs l (fun k=> 1≤k)∧r=l.take r.length:=by
 refine res_dp (f:=p133) rfl rfl rfl fun e hl he=>?_;have h0_0:e.at 0=V.int .i64 p:=he 0 _ rfl;have h1_0:e.at 1=V.isl (rows.map Enc.enc):=he 1 _ rfl;have hl_0:e.length=134:=hl;clear he hl;show W A b133 e ⟨[],0⟩ _;unfold F133 at hF;obtain⟨l0,gl0,hF⟩:=bS hF;simp only[simprocAttr, -Int.reduceNatCast',R1,b133,hl_0,h0_0,h1_0];show W A (.block 0 (.loop true b133_1)) _ _ _;rw[W_block];refine W_forR gl0 _ rfl (fun i s e h=>∃u vs,h.ents[0]? =some (u,some vs)∧MatAt h.ents vs s (fun k=> 1≤k)∧e.length=134∧e.at 0=V.int .i64 p∧e.at 5=V.sl 0 u 0 s.length 1∧e.at 15=V.isl (rows.map Enc.enc)∧e.at 16=V.int .i64 (rows.length:Int)∧e.at 17=V.int .i64 i) ?_ ?_ ?_
 ·refine⟨0,[],rfl,.nil,?_⟩
  simp only[simprocAttr, -Int.reduceNatCast',R1,hl_0,h0_0,h1_0]
 ·clear hl_0 h0_0 h1_0
  rintro i s e ⟨E,c⟩ ⟨u,vs,g1,g2,hl_1,h0_1,h5_1,h15_1,h16_1,h17_1⟩ hlt hw s' ho;unfold F133_1_B at ho;simp only at g1 g2;obtain⟨x,gx,ho⟩:=bS ho;obtain⟨xa,xb⟩:=getI_w gx;obtain⟨d,gd,ho⟩:=bS ho;have wd:=t96 x gd;obtain⟨l,gl,ho⟩:=bS ho;obtain⟨q1,q2,rfl⟩:=app_w gl;have hE:=Option.some.inj ho; subst hE;have hE0:0 < E.length:=(List.getElem?_eq_some_iff.1 g1).1;have w9:∀x y c',appendV 1 24 (.sl 0 u 0 s.length 1) 1 [V.sl E.length c 0 d.length 1] ⟨E++[x]++[y],c'⟩=_:=fun x y c'=> appendV_deep (E:=E++[x]++[y]) (vs:=vs) (by rw[List.append_assoc,List.getElem?_append_left hE0]; exact g1) g2.len (by simpa using q1) (by simpa using q2);simp only[simprocAttr, -Int.reduceNatCast',R1,b133_1,hl_1,h0_1,h5_1,h15_1,h16_1,h17_1,eq_true hlt,hw,xa,xb,wd,callM_tans,thaw_one,le1,get_last,ge2a,ge2b,w9];refine ai rfl ⟨_,_,set_app_key (by simp),?_,?_⟩
  ·refine(MatAt.snoc (k:=E.length) (u:=c) (r:=d) (E:=((E++[(c,some (d.map Enc.enc))]++[(c+1,some [V.sl E.length c 0 d.length 1])]).set 0 (c+1+1,some (vs++[V.sl E.length c 0 d.length 1])))) (g2.frame fun k hk hb=>?_) ?_ (by omega) fun i k' u' n hv e=>?_)
   ·rw[set_ne (by omega),List.append_assoc,List.getElem?_append_left hk]
   ·rw[set_ne (by omega)]; exact ge2a ..
   ·subst e
    obtain⟨r,hr⟩:∃r,s[i]? =some r:=⟨s[i]'(by have:=(List.getElem?_eq_some_iff.1 hv).1; have:=g2.len; omega),by simp⟩;obtain⟨k2,u2,e2,g,_⟩:=g2.row i _ r hv hr;cases e2;have:=(List.getElem?_eq_some_iff.1 g).1;omega
  ·simp only[simprocAttr, -Int.reduceNatCast',R1,hl_1,h0_1,h5_1,h15_1,h16_1,h17_1,hw,List.length_append]
 ·clear hl_0 h0_0 h1_0
  rintro i s e ⟨E,c⟩ ⟨u,vs,g1,g2,hl_1,h0_1,h5_1,h15_1,h16_1,h17_1⟩ hge t1 ho;unfold F133_1_D at ho;have hE:=Option.some.inj ho; subst hE;simp only at g1 g2;simp only[simprocAttr, -Int.reduceNatCast',R1,b133_1,hl_1,h0_1,h5_1,h15_1,h16_1,h17_1,eq_false hge];intro ht; subst ht;by_cases hz:(s.length:Int)=0
  ·rw[if_pos hz]at hF ⊢
   have hE:=Option.some.inj hF; subst hE;refine ai (fun _=> trivial) ⟨_,?_,u,vs,s,rfl,g1,g2,by rw[List.take_length]⟩;simp only[simprocAttr, -Int.reduceNatCast',R1,fn_out,p133,Rs.ev,hl_1,h5_1]
  ·rw[if_neg hz]at hF ⊢
   obtain⟨r0,gr0,hF⟩:=bS hF;obtain⟨ra,rb⟩:=getI_w gr0;have rc:=getI_lt gr0;obtain⟨t,gt,hF⟩:=bS hF;obtain⟨k0,u0,v1,v2,v3⟩:=g2.get rb;have o1:=ofCells_drop v1;simp only[Int.toNat_zero,List.drop_zero]at o1;simp only[simprocAttr, -Int.reduceNatCast',R1,hl_1,h0_1,h5_1,h15_1,h16_1,h17_1,eq_true rc,g1,o1,Int.toNat_zero,Int.le_refl];show W A (.block 2 (.loop true b133_2)) _ _ _;rw[W_block];refine W_forR gt _ rfl (fun i s e h=>∃u vs,h.ents[0]? =some (u,some vs)∧MatAt h.ents vs s.1 (fun k=> 1≤k)∧e.length=134∧e.at 0=V.int .i64 p∧e.at 5=V.sl 0 u 0 s.1.length 1∧e.at 8=V.int .i64 s.2∧e.at 34=V.int .i64 (r0.length:Int)∧e.at 35=V.int .i64 i) ?_ ?_ ?_
   ·refine⟨u,vs,g1,g2,?_⟩
    simp only[simprocAttr, -Int.reduceNatCast',R1,hl_1,h0_1,h5_1,h15_1,h16_1,h17_1]
   ·clear hl_1 h0_1 h5_1 h15_1 h16_1 h17_1 g1 g2 k0 u0 v1 v2 v3 o1
    rintro cc ⟨l,done⟩ e ⟨E,c⟩ ⟨u,vs,g1,g2,hl_1,h0_1,h5_1,h8_1,h34_1,h35_1⟩ hlt hw s' ho;unfold F133_2_B at ho;simp only at g1 g2 h5_1 h8_1 ho;have hE0:0 < E.length:=(List.getElem?_eq_some_iff.1 g1).1;split at ho
    case isFalse=> cases ho
    rename_i hdn;obtain⟨hd0,hd1⟩:=hdn;have hdn:done.toNat≤l.length:=by omega
    obtain⟨at_,gat,ho⟩:=bS ho;have wat:ans A 128 [V.isl (List.map Enc.enc (l.drop done.toNat)),V.fn 137 [] [V.iptr [V.int .i64 cc]]]=some (V.int .i64 at_):=s128 (l.drop done.toNat) (fun r=> F137 r cc)
     (Clo1.of (by intro h f; simp only[RZ,mapO]) (by intro h f; simp only[RZ,mapO]) (by intro f; simp only[RZ,RB]) (by intro f; simp only[RZ,RB]) (fun x _ hr=> s137 x cc hr)) gat
    have g1':∀x,(E++[x])[0]? =some (u,some vs):=fun x=>(List.getElem?_append_left hE0).trans g1;have g2':∀x,MatAt (E++[x]) vs l (fun k=> 1≤k∧k < E.length):=fun x=>(g2.mono (fun k hk h=> ai h hk)).frame fun k hk _=> List.getElem?_append_left hk;have wfz:∀x c,frz ⟨E++[x],c⟩ 16 (V.sl 0 u done.toNat (l.length - done.toNat) 1)=some (V.isl (List.map Enc.enc (l.drop done.toNat))):=fun x c=> by
     have:=(g2' x).fz c (g1' x) (off:=done.toNat) (n:=l.length - done.toNat) (by omega)
     rwa[List.take_of_length_le (by simp)]at this
    have wsl:=slice_lo (key:=0) (uid:=u) (n:=l.length) hd0 (by omega);by_cases hat:at_ < 0
    ·rw[if_pos hat]at ho
     have hE:=Option.some.inj ho; subst hE;simp only[simprocAttr, -Int.reduceNatCast',R1,b133_2,hl_1,h0_1,h5_1,h8_1,h34_1,h35_1,eq_true hlt,hw,Option.map_some,Option.map_none,wsl,wfz,wat,get_last,set_last,eq_true hat];refine ai rfl ⟨u,vs,g1' _,(g2' _).mono fun k _ h=> h.1,?_⟩;simp only[simprocAttr, -Int.reduceNatCast',R1,hl_1,h0_1,h5_1,h8_1,h34_1,h35_1,hw]
    ·rw[if_neg hat]at ho
     obtain⟨j,gj,ho⟩:=bS ho;have wj:=chk_w gj;obtain⟨a,ga,ho⟩:=bS ho;obtain⟨aa,ab⟩:=getI_w ga;have ac:=getI_lt ga;obtain⟨b,gb,ho⟩:=bS ho;obtain⟨ba,bb⟩:=getI_w gb;have bc:=getI_lt gb;obtain⟨l1,gl1,ho⟩:=bS ho;have e1:=setI_eq gl1;obtain⟨l2,gl2,ho⟩:=bS ho;have e2:=setI_eq gl2;subst e1; subst e2;obtain⟨row,grow,ho⟩:=bS ho;obtain⟨rowa,rowb⟩:=getI_w grow;obtain⟨x,gx,ho⟩:=bS ho;obtain⟨xa,xb⟩:=getI_w gx;have xc:=getI_lt gx;obtain⟨by_,gby,ho⟩:=bS ho;have wby:ans A 138 [V.int .i64 p,V.int .i64 x]=some (V.int .i64 by_):=s138 p x gby;obtain⟨row',gr',ho⟩:=bS ho;obtain⟨l3,gl3,ho⟩:=bS ho;have e3:=setI_eq gl3;subst e3;obtain⟨l4,gl4,ho⟩:=bS ho;obtain⟨d1,gd1,ho⟩:=bS ho;have wd1:=chk_w gd1;obtain⟨ka,ua,va1,va2,va3⟩:=(g2' (c,some [V.int .i64 cc])).get ab;obtain⟨kb,ub,vb1,vb2,vb3⟩:=(g2' (c,some [V.int .i64 cc])).get bb;have hml:=g2.len;have hsw:=(g2' (c,some [V.int .i64 cc])).swap vb1 va1 bb ab;generalize hvs2:(vs.set done.toNat (V.sl ka ua 0 a.length 1)).set j.toNat (V.sl kb ub 0 b.length 1)=vs2 at hsw;have hl2:((l.set done.toNat a).set j.toNat b).length=l.length:=by simp
     generalize hll2:(l.set done.toNat a).set j.toNat b=l2 at*;have oa:=ofCells_drop va1;have ob:=ofCells_drop vb1;have td1:List.take done.toNat vs++[V.sl ka ua 0 a.length 1]++List.drop (done.toNat+1) vs=vs.set done.toNat (V.sl ka ua 0 a.length 1):=tsd (by omega);have td2:List.take j.toNat (vs.set done.toNat (V.sl ka ua 0 a.length 1))++[V.sl kb ub 0 b.length 1]++List.drop (j.toNat+1) (vs.set done.toNat (V.sl ka ua 0 a.length 1))=vs2:=(tsd (by simp; omega)).trans hvs2;have hd1':done.toNat+1≤vs.length:=by omega
     have hj1':j.toNat+1≤vs.length:=by omega
     have n1:∀y z,((E++[y]).set 0 z)[0]? =some z:=fun y z=> set_app_key (by simp);have n2:∀y z,((E++[y]).set 0 z)[E.length]? =some y:=fun y z=>(set_ne (by omega)).trans (get_last _ _);have hsw2:∀z,MatAt ((E++[(c,some [V.int .i64 cc])]).set 0 z) vs2 l2 (fun k=> 1≤k∧k < E.length):=fun z=> hsw.frame fun k hk h=> set_ne (by omega);obtain⟨kr,ur,vr1,vr2,vr3⟩:=(hsw2 (u,some vs2)).get rowb;have orr:=ofCells_drop vr1;have ox:ofCells none (List.drop cc.toNat (row.map Enc.enc))=some (V.int .i64 x):=ofCells_drop (by rw[List.getElem?_map,xb]; rfl);have hvl:vs2.length=l.length:=by rw[hsw.len,hl2]
     simp only[simprocAttr, -Int.reduceNatCast',R1,b133_2,hl_1,h0_1,h5_1,h8_1,h34_1,h35_1,eq_true hlt,hw,Option.map_some,Option.map_none,wsl,wfz,wat,get_last,set_last,eq_false hat,wj,aa,eq_true ac,ba,eq_true bc,g1',oa,ob,List.length_set,eq_true hd1',eq_true hj1',td1,td2,List.set_set,n1,n2,orr,xa,eq_true xc,vr2,ox,wby];have hd1v:d1=done+1:=by
      unfold chk at gd1; split at gd1
      ·cases gd1; rfl
      ·cases gd1
     have kr0:1≤kr:=vr3.1;have krE:kr < E.length:=vr3.2;have m0:∀z,(((E++[(c,some [V.int .i64 cc])]).set 0 (u,some vs2)).set kr z)[0]? =some (u,some vs2):=fun z=>(set_ne (by omega)).trans (n1 _ _);have mk:∀z,(((E++[(c,some [V.int .i64 cc])]).set 0 (u,some vs2)).set kr z)[kr]? =some z:=fun z=> set_app_key (by simp; omega);have mN:∀z,(((E++[(c,some [V.int .i64 cc])]).set 0 (u,some vs2)).set kr z)[E.length]? =some (c,some [V.int .i64 cc]):=fun z=>(set_ne (by omega)).trans (n2 _ _);have hdl:done < (l.length:Int):=by omega
     show W A (.block 4 (.loop true b133_3)) _ _ _;rw[W_block];refine W_forR gr' _ rfl (fun k s e h=> s.length=row.length∧h=⟨((E++[(c,some [V.int .i64 cc])]).set 0 (u,some vs2)).set kr (ur,some (s.map Enc.enc)),c+1⟩∧e.length=134∧e.at 0=V.int .i64 p∧e.at 5=V.sl 0 u 0 l.length 1∧e.at 8=V.int .i64 done∧e.at 9=V.ptr E.length c 0∧e.at 11=V.int .i64 by_∧e.at 34=V.int .i64 (r0.length:Int)∧e.at 35=V.int .i64 cc∧e.at 76=V.int .i64 (row.length:Int)∧e.at 77=V.int .i64 k) ?_ ?_ ?_
     ·refine⟨rfl,by rw[set_self vr2],?_⟩
      simp only[simprocAttr, -Int.reduceNatCast',R1,hl_1,h0_1,h5_1,h8_1,h34_1,h35_1]
     ·clear hl_1 h0_1 h5_1 h8_1 h34_1 h35_1
      rintro k q e h ⟨hq,rfl,hl_1,h0_1,h5_1,h8_1,h9_1,h11_1,h34_1,h35_1,h76_1,h77_1⟩ hlt3 hw3 s3 ho3;unfold F133_3_B at ho3;obtain⟨x3,gx3,ho3⟩:=bS ho3;obtain⟨x3a,x3b⟩:=getI_w gx3;obtain⟨m3,gm3,ho3⟩:=bS ho3;have wm3:=chk_w gm3;obtain⟨z3,gz3,ho3⟩:=bS ho3;obtain⟨wz30,wz3⟩:=rem_w gz3;obtain⟨q2,gq2,ho3⟩:=bS ho3;obtain⟨s31,s32,s33,s34,s35⟩:=setI_w gq2;have hE:=Option.some.inj ho3; subst hE;have o3:ofCells none (List.drop k.toNat (q.map Enc.enc))=some (V.int .i64 x3):=ofCells_drop (by rw[List.getElem?_map,x3b]; rfl);have hk3:k < (row.length:Int):=hlt3;have s35':List.take k.toNat (q.map Enc.enc)++[V.int .i64 z3]++List.drop (k.toNat+1) (q.map Enc.enc)=List.map Enc.enc q2:=s35;simp only[simprocAttr, -Int.reduceNatCast',R1,b133_3,hl_1,h0_1,h5_1,h8_1,h9_1,h11_1,h34_1,h35_1,h76_1,h77_1,hw3,eq_true hlt3,hd0,eq_true hdl,m0,mk,orr,x3a,o3,wm3,wz30,wz3,s33,s35',List.set_set];refine ai rfl ⟨by omega,rfl,?_⟩;simp only[simprocAttr, -Int.reduceNatCast',R1,hl_1,h0_1,h5_1,h8_1,h9_1,h11_1,h34_1,h35_1,h76_1,h77_1,hw3]
     ·clear hl_1 h0_1 h5_1 h8_1 h34_1 h35_1
      rintro k q e h ⟨hq,rfl,hl_1,h0_1,h5_1,h8_1,h9_1,h11_1,h34_1,h35_1,h76_1,h77_1⟩ hge3 t3 ho3;unfold F133_3_D at ho3;have hE:=Option.some.inj ho3; subst hE;simp only[simprocAttr, -Int.reduceNatCast',R1,b133_3,hl_1,h0_1,h5_1,h8_1,h9_1,h11_1,h34_1,h35_1,h76_1,h77_1,eq_false hge3];intro ht; subst ht;have hmw:=MatAt.write (hsw2 (u,some vs2)) rowb vr1 hq;have hl3:((l2.set done.toNat q).length:Int)=(l.length:Int):=by rw[List.length_set,hl2]
      rw[hl3]at gl4;show W A (.block 6 (.loop true b133_4)) _ _ _;rw[W_block];refine W_forR gl4 _ rfl (fun i s e h=> s.length=l.length∧h.ents[0]? =some (u,some vs2)∧MatAt h.ents vs2 s (fun k=> 1≤k∧k < E.length)∧h.ents[E.length]? =some (c,some [V.int .i64 cc])∧e.length=134∧e.at 0=V.int .i64 p∧e.at 5=V.sl 0 u 0 l.length 1∧e.at 8=V.int .i64 done∧e.at 9=V.ptr E.length c 0∧e.at 34=V.int .i64 (r0.length:Int)∧e.at 35=V.int .i64 cc∧e.at 99=V.int .i64 (l.length:Int)∧e.at 100=V.int .i64 i) ?_ ?_ ?_
      ·refine⟨by omega,m0 _,hmw,mN _,?_⟩
       simp only[simprocAttr, -Int.reduceNatCast',R1,hl_1,h0_1,h5_1,h8_1,h9_1,h11_1,h34_1,h35_1,h76_1,h77_1]
      ·clear hl_1 h0_1 h5_1 h8_1 h9_1 h11_1 h34_1 h35_1 h76_1 h77_1
       rintro i q4 e ⟨E4,c4⟩ ⟨hq4,f1,f2,f3,hl_1,h0_1,h5_1,h8_1,h9_1,h34_1,h35_1,h99_1,h100_1⟩ hlt4 hw4 s4 ho4;unfold F133_4_B at ho4;simp only at f1 f2 f3;by_cases hi:i=done
       ·rw[if_pos hi]at ho4
        have hE:=Option.some.inj ho4; subst hE;simp only[simprocAttr, -Int.reduceNatCast',R1,b133_4,hl_1,h0_1,h5_1,h8_1,h9_1,h34_1,h35_1,h99_1,h100_1,hw4,eq_true hlt4,eq_true hi];refine ai rfl ⟨hq4,f1,f2,f3,?_⟩;simp only[simprocAttr, -Int.reduceNatCast',R1,hl_1,h0_1,h5_1,h8_1,h9_1,h34_1,h35_1,h99_1,h100_1,hw4]
       ·rw[if_neg hi]at ho4
        obtain⟨ri,gri,ho4⟩:=bS ho4;obtain⟨ria,rib⟩:=getI_w gri;obtain⟨oi,goi,ho4⟩:=bS ho4;obtain⟨oia,oib⟩:=getI_w goi;obtain⟨xi,gxi,ho4⟩:=bS ho4;obtain⟨xia,xib⟩:=getI_w gxi;have xic:=getI_lt gxi;obtain⟨r',gr'',ho4⟩:=bS ho4;obtain⟨l',gl',ho4⟩:=bS ho4;have e4:=setI_eq gl';subst e4;have hE:=Option.some.inj ho4; subst hE;obtain⟨ki,ui,vi1,vi2,vi3⟩:=f2.get rib;obtain⟨ko,uo,vo1,vo2,vo3⟩:=f2.get oib;have hko:ko≠ki:=fun q=> hi (by have:=f2.inj _ _ _ _ _ _ _ _ vo1 vi1 q; omega);have oi1:=ofCells_drop vi1;have oo1:=ofCells_drop vo1;have ox1:ofCells none (List.drop cc.toNat (ri.map Enc.enc))=some (V.int .i64 xi):=ofCells_drop (by rw[List.getElem?_map,xib]; rfl);obtain⟨wc,wcl⟩:=d139 gr'' E4 c4 vi2 vo2 hko;have hi4:i < (l.length:Int):=hlt4;simp only[simprocAttr, -Int.reduceNatCast',R1,b133_4,hl_1,h0_1,h5_1,h8_1,h9_1,h34_1,h35_1,h99_1,h100_1,hw4,eq_true hlt4,eq_false hi,hd0,eq_true hdl,ria,f1,f3,oi1,oo1,vi2,xia,eq_true xic,ox1,callM_plain_eq,wc];refine ai rfl ⟨by rw[List.length_set]; exact hq4,(set_ne (by omega)).trans f1,f2.write rib vi1 wcl,(set_ne (by omega)).trans f3,?_⟩;simp only[simprocAttr, -Int.reduceNatCast',R1,hl_1,h0_1,h5_1,h8_1,h9_1,h34_1,h35_1,h99_1,h100_1,hw4]
      ·clear hl_1 h0_1 h5_1 h8_1 h9_1 h11_1 h34_1 h35_1 h76_1 h77_1
       rintro i q4 e ⟨E4,c4⟩ ⟨hq4,f1,f2,f3,hl_1,h0_1,h5_1,h8_1,h9_1,h34_1,h35_1,h99_1,h100_1⟩ hge4 t4 ho4;unfold F133_4_D at ho4;have hE:=Option.some.inj ho4; subst hE;simp only at f1 f2 f3;have wd1':Go.IntKind.wrap .i64 (done+1)=d1:=wd1;by_cases hb:d1=(q4.length:Int)
       ·have hb':d1=(l.length:Int):=by omega
        have wsh:=slice_hi (key:=0) (uid:=u) (n:=l.length) (d:=d1) (by omega) (by omega);simp only[simprocAttr, -Int.reduceNatCast',R1,b133_4,hl_1,h0_1,h5_1,h8_1,h9_1,h34_1,h35_1,h99_1,h100_1,eq_false hge4,wd1',eq_true hb',Option.map_some,Option.map_none,wsh];intro ht; subst ht;rw[if_pos hb]at ho;have hE:=Option.some.inj ho; subst hE;intro ht; subst ht;simp only[simprocAttr, -Int.reduceNatCast',R1,hl_1,h0_1,h5_1,h8_1,h9_1,h34_1,h35_1,h99_1,h100_1,Option.map_some,Option.map_none,wsh];simp only at hF;rw[if_pos ⟨by omega,by omega⟩]at hF;have hE:=Option.some.inj hF; subst hE;have hrl:(q4.take d1.toNat).length=d1.toNat:=by simp; omega
        refine ai (fun _=> trivial) ⟨_,?_,u,vs2,q4,rfl,f1,f2.mono fun k _ h=> h.1,by rw[hrl]⟩;simp only[simprocAttr, -Int.reduceNatCast',R1,fn_out,p133,Rs.ev,hl_1,hrl]
       ·have hb':¬d1=(l.length:Int):=by omega
        simp only[simprocAttr, -Int.reduceNatCast',R1,b133_4,hl_1,h0_1,h5_1,h8_1,h9_1,h34_1,h35_1,h99_1,h100_1,eq_false hge4,wd1',eq_false hb',hw];intro ht; subst ht;rw[if_neg hb]at ho;have hE:=Option.some.inj ho; subst hE;refine ai rfl ⟨u,vs2,f1,f2.mono fun k _ h=> h.1,?_⟩;simp only[simprocAttr, -Int.reduceNatCast',R1,hl_1,h0_1,h5_1,h8_1,h9_1,h34_1,h35_1,h99_1,h100_1,hq4]
   ·clear hl_1 h0_1 h5_1 h15_1 h16_1 h17_1 g1 g2 k0 u0 v1 v2 v3 o1
    rintro cc ⟨l,done⟩ e ⟨E,c⟩ ⟨u,vs,g1,g2,hl_1,h0_1,h5_1,h8_1,h34_1,h35_1⟩ hge t1 ho;unfold F133_2_D at ho;have hE:=Option.some.inj ho; subst hE;simp only at g1 g2 h5_1 h8_1;simp only[simprocAttr, -Int.reduceNatCast',R1,b133_2,hl_1,h0_1,h5_1,h8_1,h34_1,h35_1,eq_false hge,Option.map_some,Option.map_none];intro ht; subst ht;simp only at hF;split at hF
    case isFalse=> cases hF
    rename_i hdn;have wsh:=slice_hi (key:=0) (uid:=u) (n:=l.length) (d:=done) hdn.1 (by omega);have hE:=Option.some.inj hF; subst hE;have hrl:(l.take done.toNat).length=done.toNat:=by simp; omega
    simp only[simprocAttr, -Int.reduceNatCast',R1,hl_1,wsh];refine ai (fun _=> trivial) ⟨_,?_,u,vs,l,rfl,g1,g2,by rw[hrl]⟩;simp only[simprocAttr, -Int.reduceNatCast',R1,fn_out,p133,Rs.ev,hl_1,hrl]
theorem s133(p:Int)(rows:List (List Int)){r:List (List Int)}(hF:F133 p rows=some r):ans A 133 [V.int .i64 p,V.isl (rows.map Enc.enc)]=some (Enc.enc r):=by
 obtain⟨_,h',h1,u,vs,l,rfl,h2,h3,h4⟩:=d133 p rows hF;have hl:r.length≤l.length:=by have:=congrArg List.length h4; simp at this; omega
 have:=h3.fz h'.clk (key:=0) (uid:=u) (off:=0) (n:=r.length) h2 (by omega);rw[List.drop_zero,←h4]at this;unfold ans;rw[h1];exact this
theorem mtk133(f:Nat):∀ (ws:List V) (q:List (List Int)) (h:Heap),ws.length=q.length→(∀ (i:Nat) v r,ws[i]? =some v→q[i]? =some r→∃k u,v= .sl k u 0 r.length 1∧h.ents[k]? =some (u,some (r.map Enc.enc)))→
  (∀ (i j k u n k' u' n':Nat),ws[i]? =some (.sl k u 0 n 1)→ws[j]? =some (.sl k' u' 0 n' 1)→k=k'→i=j)→∃h',mapS (take (f+2) [1]) ws h=some (q.map Enc.enc,h')
 | [],[],h,_,_,_=>⟨h,rfl⟩
 |v::ws,r::q,h,hl,hr,hi=> by
  obtain⟨k,u,rfl,g⟩:=hr 0 v r rfl rfl;have e:(List.map (Enc.enc:Int→V) r).take r.length=r.map Enc.enc:=List.take_of_length_le (by simp);have ht:take (f+2) [1] (.sl k u 0 r.length 1) h=some (Enc.enc r,h.kill k):=by
   simp only[take,get_of g,Nat.mul_one,Nat.zero_add,List.drop_zero,List.tail_cons];rw[if_pos ⟨by simp,by omega,by simp[hdOk]⟩,e,take_ints f []];simp only[chunk_1];rfl
  obtain⟨h',h2⟩:=mtk133 f ws q (h.kill k) (by simpa using hl) (fun i v' r' a b=> by
   obtain⟨k',u',e',g'⟩:=hr (i+1) v' r' (by simpa using a) (by simpa using b);refine⟨k',u',e',?_⟩;rw[kill_ne h fun q=>?_]
   ·exact g'
   ·subst e'; subst q
    have:=hi (i+1) 0 _ _ _ _ _ _ (by simpa using a) rfl rfl;omega) (fun i j k1 u1 n1 k2 u2 n2 a b c=> by
   have:=hi (i+1) (j+1) _ _ _ _ _ _ (by simpa using a) (by simpa using b) c;omega)
  exact⟨h',by simp only[mapS,ht,h2,List.map_cons]⟩
theorem mtt133{E:List (Nat×Option (List V))}{vs:List V}{l:List (List Int)}{B:Ks}(m:MatAt E vs l B)(c:Nat){key uid n:Nat}(hk:E[key]? =some (uid,some vs))(hB:¬B key)(hn:n≤l.length):∃h',take 16 [1,1] (.sl key uid 0 n 1) ⟨E,c⟩=some (.isl ((l.take n).map Enc.enc),h'):=by
 have hl:=m.len;obtain⟨h',h2⟩:=mtk133 13 (vs.take n) (l.take n) ((⟨E,c⟩:Heap).kill key) (by simp[hl]) (fun i v r a b=> by
  rw[List.getElem?_take]at a b;split at a
  ·rename_i hi
   rw[if_pos hi]at b;obtain⟨k,u,e,g,hb⟩:=m.row i v r a b;exact⟨k,u,e,by rw[kill_ne _ fun q=> by subst q; exact hB hb]; exact g⟩
  ·cases a) (fun i j k u n1 k' u' n2 a b e=> by
  rw[List.getElem?_take]at a b;split at a
  ·split at b
   ·exact m.inj i j _ _ _ _ _ _ a b e
   ·cases b
  ·cases a)
 refine⟨h',?_⟩;simp only[take,get_of (h:=⟨E,c⟩) hk,Nat.mul_one,Nat.zero_add,List.drop_zero,List.tail_cons];rw[if_pos ⟨by omega,by omega,by simp[hdOk]⟩,h2];simp only[chunk_1]
theorem x133(p:Int)(rows:List (List Int)){r:List (List Int)}(hF:F133 p rows=some r):tans A 133 [1,1] [V.int .i64 p,V.isl (rows.map Enc.enc)]=some (Enc.enc r):=by
 obtain⟨_,h',h1,u,vs,l,rfl,h2,h3,h4⟩:=d133 p rows hF;have hl:r.length≤l.length:=by have:=congrArg List.length h4; simp at this; omega
 obtain⟨h2',q⟩:=mtt133 h3 h'.clk (key:=0) (uid:=u) (n:=r.length) h2 (by decide) hl;rw[←h4]at q;unfold tans;rw[h1];show(match take 16 [1,1] (V.sl 0 u 0 r.length 1) ⟨h'.ents,h'.clk⟩with|some (t,_)=> some t|none=> none)=_;rw[q];rfl
def F186(a0:GComplex)(a1:Int):Option (List (List Int)):=
 if a1 < 0 then
  some ([]:List (List Int))
 else
  (F86 a0).bind fun x2=>
  if x2≤a1 then
   some ([]:List (List Int))
  else
   (getI a0.Maps a1).bind fun x5=>
   (F133 a0.Prime x5).bind fun x7=>
   some x7
theorem s186(a0:GComplex)(a1:Int){r:List (List Int)}(hF:F186 a0 a1=some r):ans A 186 [(eC a0),V.int .i64 a1]=some (Enc.enc r):=by
 refine ans_of (f:=p186) rfl rfl rfl fun e hl he=>?_;have h0_0:e.at 0=(eC a0):=he 0 _ rfl;have h1_0:e.at 1=V.int .i64 a1:=he 1 _ rfl;have hl_0:e.length=21:=hl;clear he hl;have h_0:=ai hl_0 (ai h0_0 h1_0);show W A b186 e ⟨[],0⟩ _;unfold F186 at hF;by_cases c1:a1 < 0
 ·rw[if_pos c1]at hF
  cases hF;simp only[simprocAttr,R0,b186,h_0,eq_true c1];exact fin_ret (by simp only[simprocAttr,R0,fn_out,p186,Rs.ev,take_len_self,h_0,eq_true c1])
 ·rw[if_neg c1]at hF
  obtain⟨x2,gx2,hF⟩:=bS hF;have w3:ans A 86 [(eC a0)]=some (V.int .i64 x2):=s86 a0 gx2;by_cases c4:x2≤a1
  ·rw[if_pos c4]at hF
   cases hF;simp only[simprocAttr,R0,b186,h_0,eq_false c1,w3,eq_true c4];exact fin_ret (by simp only[simprocAttr,R0,fn_out,p186,Rs.ev,take_len_self,h_0,eq_false c1,w3,eq_true c4])
  ·rw[if_neg c4]at hF
   obtain⟨x5,gx5,hF⟩:=bS hF;obtain⟨w6a,w6b⟩:=getI_w gx5;obtain⟨x7,gx7,hF⟩:=bS hF;have w8:ans A 133 [V.int .i64 a0.Prime,V.isl (x5.map Enc.enc)]=some (V.isl (x7.map Enc.enc)):=s133 a0.Prime x5 gx7;cases hF;simp only[simprocAttr,R0,b186,h_0,eq_false c1,w3,eq_false c4,w6a,w6b,w8];exact fin_ret (by simp only[simprocAttr,R0,fn_out,p186,Rs.ev,take_len_self,h_0,eq_false c1,w3,eq_false c4,w6a,w6b,w8])
def F115_1_B(a0:List Int)(f1:Int→Option Bool)(v8_1:Int)(s:Unit):Option ((Unit)⊕((Unit)⊕Int)):=
 (getI a0 v8_1).bind fun x4=>
(f1 x4).bind fun x6=>
if x6=true then
 some (.inr (.inr v8_1))
else
 some (.inl ())
def F115_1_D(a0:List Int)(f1:Int→Option Bool)(v8_1:Int)(s:Unit):Option ((Unit)⊕Int):=
 some (.inl ())
def F115(a0:List Int)(f1:Int→Option Bool):Option Int:=
 (forR 0 (a0.length:Int) (F115_1_B a0 f1) (F115_1_D a0 f1) ()).bind fun t8=> match t8 with
  | .inl _=>
   some (-1)
  | .inr r9=> some r9
def I115_1(a0:List Int)(f1:Int→Option Bool)(vf1:V)(v8_1:Int)(s:Unit)(e:Env)(h:Heap):Prop:=
 ∃k2:Nat,h=⟨[],k2⟩∧e.length=19∧e.at 0=V.isl (a0.map Enc.enc)∧e.at 1=vf1∧e.at 7=V.int .i64 (a0.length:Int)∧e.at 8=V.int .i64 v8_1
def P115_1(a0:List Int)(f1:Int→Option Bool)(vf1:V)(t:(Unit)⊕Int)(x:Ex)(e:Env)(h:Heap):Prop:=
 match t with
 | .inl _=> x= .normal∧∃k2:Nat,h=⟨[],k2⟩∧e.length=19
 | .inr r=> x= .ret∧Fin p115 (Enc.enc r) .ret e h
theorem l115_1(a0:List Int)(f1:Int→Option Bool)(vf1:V)(hf1:Clo1 A vf1 f1){lo:Int}{s:Unit}{t:(Unit)⊕Int}(hF:forR lo (a0.length:Int) (F115_1_B a0 f1) (F115_1_D a0 f1) s=some t){e:Env}{h:Heap}(hI:I115_1 a0 f1 vf1 lo s e h):W A c115_1 e h (P115_1 a0 f1 vf1 t):=by
 obtain⟨g_f1,fs_f1,cs_f1,hv_f1,hc_f1⟩:=id hf1;show W A (.block 0 (.loop false b115_1)) e h _;rw[W_block];refine W_forR hF 0 (by obtain⟨_,rfl,_⟩:=hI; rfl) (I115_1 a0 f1 vf1) hI ?_ ?_
 ·rintro v8_1 _ e h ⟨k2,rfl,h_1⟩ hlt hw o ho
  unfold F115_1_B at ho;obtain⟨x4,gx4,ho⟩:=bS ho;obtain⟨w5a,w5b⟩:=getI_w gx4;obtain⟨x6,gx6,ho⟩:=bS ho;have w7a:∀h,mapO (frz h 16) (fs_f1++[V.int .i64 x4]++cs_f1)=some (fs_f1++[V.int .i64 x4]++cs_f1):=fun h=> hc_f1.zf x4 h;have w7b:List.all (fs_f1++[V.int .i64 x4]++cs_f1) (refless 16)=true:=hc_f1.zr x4;have w7c:ans A g_f1 (fs_f1++[V.int .i64 x4]++cs_f1)=some (V.bool x6):=hc_f1.ka x4 _ gx6;cases x6 with
  |true=>
   rw[if_pos rfl]at ho;cases ho;simp only[simprocAttr,R0,b115_1,h_1,eq_true hlt,hw,w5a,w5b,hv_f1,w7a,w7b,w7c];intro ht; subst ht;simp only[simprocAttr,RR,RB];exact ai rfl (fin_ret (by simp only[simprocAttr,R0,fn_out,p115,Rs.ev,take_len_self,h_1,eq_true hlt,hw,w5a,w5b,hv_f1,w7a,w7b,w7c]))
  |false=>
   rw[if_neg Bool.false_ne_true]at ho;cases ho;simp only[simprocAttr,R0,b115_1,h_1,eq_true hlt,hw,w5a,w5b,hv_f1,w7a,w7b,w7c];refine ai rfl (ei _ (ai rfl ?_));simp only[simprocAttr,R0,h_1,eq_true hlt,hw,w5a,w5b,hv_f1,w7a,w7b,w7c]
 ·rintro v8_1 _ e h ⟨k2,rfl,h_1⟩ hge t1 ho
  unfold F115_1_D at ho;cases ho;simp only[simprocAttr,R0,b115_1,h_1,eq_false hge];intro ht; subst ht;refine ai rfl (ei _ (ai rfl ?_));simp only[simprocAttr,R0,h_1,eq_false hge]
theorem s115(a0:List Int)(f1:Int→Option Bool){vf1:V}(hf1:Clo1 A vf1 f1){r:Int}(hF:F115 a0 f1=some r):ans A 115 [V.isl (a0.map Enc.enc),vf1]=some (Enc.enc r):=by
 refine ans_of (f:=p115) rfl rfl rfl fun e hl he=>?_;have h0_0:e.at 0=V.isl (a0.map Enc.enc):=he 0 _ rfl;have h1_0:e.at 1=vf1:=he 1 _ rfl;obtain⟨g_f1,fs_f1,cs_f1,hv_f1,hc_f1⟩:=id hf1;have hl_0:e.length=19:=hl;clear he hl;have h_0:=ai hl_0 (ai h0_0 h1_0);show W A b115 e ⟨[],0⟩ _;unfold F115 at hF;obtain⟨t8,gt8,hF⟩:=bS hF;rcases t8 with _|r9
 ·dsimp only at hF
  simp only[simprocAttr,R0,b115,h_0];refine W.mono (l115_1 a0 f1 vf1 hf1 gt8 (ei _ (ai rfl ?_))) ?_
  ·simp only[simprocAttr,R0,h_0]
  rintro _ e _ ⟨rfl,k2,rfl,hl_3⟩;cases hF;simp only[simprocAttr,R0,hl_3];exact fin_ret (by simp only[simprocAttr,R0,fn_out,p115,Rs.ev,take_len_self,hl_3])
 ·dsimp only at hF
  cases hF;simp only[simprocAttr,R0,b115,h_0];refine W.mono (l115_1 a0 f1 vf1 hf1 gt8 (ei _ (ai rfl ?_))) ?_
  ·simp only[simprocAttr,R0,h_0]
  rintro _ e h ⟨rfl,hq⟩;simp only[simprocAttr,RR,RB];exact hq
def F123(a0:Int):Option Bool:=
 some (!(decide (a0=0)))
theorem s123(a0:Int){r:Bool}(hF:F123 a0=some r):ans A 123 [V.int .i64 a0]=some (Enc.enc r):=by
 refine ans_of (f:=p123) rfl rfl rfl fun e hl he=>?_;have h0_0:e.at 0=V.int .i64 a0:=he 0 _ rfl;have hl_0:e.length=5:=hl;clear he hl;show W A b123 e ⟨[],0⟩ _;unfold F123 at hF;cases hF;simp only[simprocAttr,R0,b123,hl_0,h0_0];exact fin_ret (by simp only[simprocAttr,R0,fn_out,p123,Rs.ev,take_len_self,hl_0,h0_0])
def F101_1_B(a0:List (List Int))(v9_1:Int)(o0_1:(List Int)):Option (((List Int))⊕((List Int))):=
 (getI a0 v9_1).bind fun x5=>
(F115 x5 (fun x=> F123 x)).bind fun x7=>
(app 8 o0_1 [x7]).bind fun l10=>
some (.inl l10)
def F101_1_D(a0:List (List Int))(v9_1:Int)(o0_1:(List Int)):Option ((List Int)):=
 some o0_1
def F101(a0:List (List Int)):Option (List Int):=
 (forR 0 (a0.length:Int) (F101_1_B a0) (F101_1_D a0) ([]:(List Int))).bind fun zo0_1=>
 some zo0_1
def I101_1(a0:List (List Int))(v9_1:Int)(o0_1:(List Int))(e:Env)(h:Heap):Prop:=
 ∃u2 k3:Nat,h=⟨[(u2,some (o0_1.map Enc.enc))],k3⟩∧e.length=20∧e.at 3=V.sl 0 u2 0 o0_1.length 1∧e.at 7=V.isl (a0.map Enc.enc)∧e.at 8=V.int .i64 (a0.length:Int)∧e.at 9=V.int .i64 v9_1
def P101_1(a0:List (List Int))(zo0_1:(List Int))(x:Ex)(e:Env)(h:Heap):Prop:=
 x= .normal∧∃u2 k3:Nat,h=⟨[(u2,some (zo0_1.map Enc.enc))],k3⟩∧e.length=20∧e.at 3=V.sl 0 u2 0 zo0_1.length 1
theorem l101_1(a0:List (List Int)){lo:Int}{s:(List Int)}{t:(List Int)}(hF:forR lo (a0.length:Int) (F101_1_B a0) (F101_1_D a0) s=some t){e:Env}{h:Heap}(hI:I101_1 a0 lo s e h):W A c101_1 e h (P101_1 a0 t):=by
 show W A (.block 0 (.loop false b101_1)) e h _;rw[W_block];refine W_forR hF 1 (by obtain⟨_,_,rfl,_⟩:=hI; rfl) (I101_1 a0) hI ?_ ?_
 ·rintro v9_1 o0_1 e h ⟨u2,k3,rfl,h_1⟩ hlt hw o ho
  unfold F101_1_B at ho;obtain⟨x5,gx5,ho⟩:=bS ho;obtain⟨w6a,w6b⟩:=getI_w gx5;obtain⟨x7,gx7,ho⟩:=bS ho;have w8:ans A 115 [V.isl (x5.map Enc.enc),V.fn 123 [] []]=some (V.int .i64 x7):=s115 x5 (fun x=> F123 x) (Clo1.of (by intro h f; simp only[RZ,mapO]) (by intro h f; simp only[RZ,mapO]) (by intro f; simp only[RZ,RB]) (by intro f; simp only[RZ,RB]) (fun x _ hr=> s123 x hr)) gx7;obtain⟨l10,gl10,ho⟩:=bS ho;have w9:=fun a b c d e=> appendV_w (α:=Int) (n:=o0_1.length) (m:=1) (ds:=[V.int .i64 x7]) gl10 (by first|rfl|simp) (by first|rfl|simp) rfl a b c d e;have w9l:=app_len gl10;cases ho;simp only[simprocAttr,R0,b101_1,h_1,eq_true hlt,hw,w6a,w6b,w8,w9];refine ai rfl (ei _ (ei _ (ai rfl ?_)));simp only[simprocAttr,R0,h_1,eq_true hlt,hw,w6a,w6b,w8,w9]
 ·rintro v9_1 o0_1 e h ⟨u2,k3,rfl,h_1⟩ hge t1 ho
  unfold F101_1_D at ho;cases ho;simp only[simprocAttr,R0,b101_1,h_1,eq_false hge];intro ht; subst ht;refine ai rfl (ei _ (ei _ (ai rfl ?_)));simp only[simprocAttr,R0,h_1,eq_false hge]
theorem s101(a0:List (List Int)){r:List Int}(hF:F101 a0=some r):ans A 101 [V.isl (a0.map Enc.enc)]=some (Enc.enc r):=by
 refine ans_of (f:=p101) rfl rfl rfl fun e hl he=>?_;have h0_0:e.at 0=V.isl (a0.map Enc.enc):=he 0 _ rfl;have hl_0:e.length=20:=hl;clear he hl;show W A b101 e ⟨[],0⟩ _;unfold F101 at hF;obtain⟨zo0_1,gt11,hF⟩:=bS hF;simp only[simprocAttr, -Int.reduceNatCast',R0,b101,hl_0,h0_0];refine W.mono (l101_1 a0 gt11 (ei _ (ei _ (ai rfl ?_)))) ?_
 ·simp only[simprocAttr, -Int.reduceNatCast',R0,hl_0,h0_0]
 rintro _ e _ ⟨rfl,u2,k3,rfl,hl_4,h3_4⟩;have hE:=Option.some.inj hF; subst hE;simp only[simprocAttr, -Int.reduceNatCast',R0,hl_4,h3_4];exact fin_ret (by simp only[simprocAttr, -Int.reduceNatCast',R0,fn_out,p101,Rs.ev,take_len_self,hl_4,h3_4,frzs (α:=Int) zo0_1,takes (α:=Int) zo0_1])
def F205_1_B(p:Int)(rows:List (List Int))(ls:List Int)(i:Int)(out:List Int):Option (List Int⊕List Int):=(getI ls i).bind fun a=>(getI rows i).bind fun r=>(getI out a).bind fun x=>(F139 out r p x).bind fun o=> some (.inl o)
def F205_1_D(i:Int)(out:List Int):Option (List Int):=some out
def F205(p:Int)(v:List Int)(rows:List (List Int)):Option (List Int):=(F96 v).bind fun d=>(F101 rows).bind fun ls=> forR 0 (ls.length:Int) (F205_1_B p rows ls) F205_1_D d
theorem d205(p:Int)(v:List Int)(rows:List (List Int)){r:List Int}(hF:F205 p v rows=some r):∃w h',res A 205 [V.int .i64 p,V.isl (v.map Enc.enc),V.isl (rows.map Enc.enc)] Heap.empty=some (w,h')∧∃K,Deep.rep h' w r K:=by
 refine res_dp (f:=p205) rfl rfl rfl fun e hl he=>?_;have h0_0:e.at 0=V.int .i64 p:=he 0 _ rfl;have h1_0:e.at 1=V.isl (v.map Enc.enc):=he 1 _ rfl;have h2_0:e.at 2=V.isl (rows.map Enc.enc):=he 2 _ rfl;have hl_0:e.length=33:=hl;clear he hl;show W A b205 e ⟨[],0⟩ _;unfold F205 at hF;obtain⟨d,gd,hF⟩:=bS hF;have wd:=t96 v gd;obtain⟨ls,gls,hF⟩:=bS hF;have wls:ans A 101 [V.isl (rows.map Enc.enc)]=some (V.isl (ls.map Enc.enc)):=s101 rows gls;simp only[simprocAttr,R1,b205,hl_0,h0_0,h1_0,h2_0,wd,wls,callM_tans,thaw_one];show W A (.block 0 (.loop true b205_1)) _ _ _;rw[W_block];refine W_forR hF _ rfl (fun i q e h=>∃k u,h.ents[k]? =some (u,some (q.map Enc.enc))∧e.length=33∧e.at 0=V.int .i64 p∧e.at 2=V.isl (rows.map Enc.enc)∧e.at 7=V.sl k u 0 q.length 1∧e.at 13=V.isl (ls.map Enc.enc)∧e.at 14=V.int .i64 (ls.length:Int)∧e.at 15=V.int .i64 i) ?_ ?_ ?_
 ·refine⟨0,0,rfl,?_⟩
  simp only[simprocAttr,R1,hl_0,h0_0,h1_0,h2_0]
 ·clear hl_0 h0_0 h1_0 h2_0
  rintro i q e ⟨E,c⟩ ⟨k,u,g1,h_1⟩ hlt hw s' ho;unfold F205_1_B at ho;simp only at g1;obtain⟨a,ga,ho⟩:=bS ho;obtain⟨aa,ab⟩:=getI_w ga;obtain⟨x,gx,ho⟩:=bS ho;obtain⟨xa,xb⟩:=getI_w gx;obtain⟨y,gy,ho⟩:=bS ho;obtain⟨ya,yb⟩:=getI_w gy;have yc:=getI_lt gy;obtain⟨o,go,ho⟩:=bS ho;cases ho;obtain⟨w1,w2⟩:=i139 go E c g1;have oy:ofCells none (List.drop a.toNat (q.map Enc.enc))=some (V.int .i64 y):=ofCells_drop (by rw[List.getElem?_map,yb]; rfl);simp only[simprocAttr,R1,b205_1,h_1,eq_true hlt,hw,aa,ab,xa,xb,ya,eq_true yc,g1,oy,callM_plain_eq,w1];refine ai rfl ⟨k,u,set_app_key (List.getElem?_eq_some_iff.1 g1).1,?_⟩;simp only[simprocAttr,R1,h_1,hw,w2]
 ·clear hl_0 h0_0 h1_0 h2_0
  rintro i q e ⟨E,c⟩ ⟨k,u,g1,h_1⟩ hge t1 ho;unfold F205_1_D at ho;cases ho;simp only at g1;simp only[simprocAttr,R1,b205_1,h_1,eq_false hge];intro ht; subst ht;refine ai (fun _=> trivial) ⟨_,?_,fun x=> x=k,int_row (l:=q) g1 fun x=> Iff.rfl⟩;simp only[simprocAttr,R1,fn_out,p205,Rs.ev,h_1]
theorem t205(p:Int)(v:List Int)(rows:List (List Int)){r:List Int}(hF:F205 p v rows=some r):tans A 205 [1] [V.int .i64 p,V.isl (v.map Enc.enc),V.isl (rows.map Enc.enc)]=some (Enc.enc r):=tans_of_deep (α:=List Int) (by decide) (d205 p v rows hF)
theorem s205(p:Int)(v:List Int)(rows:List (List Int)){r:List Int}(hF:F205 p v rows=some r):ans A 205 [V.int .i64 p,V.isl (v.map Enc.enc),V.isl (rows.map Enc.enc)]=some (Enc.enc r):=ans_of_deep (α:=List Int) (by decide) (d205 p v rows hF)
def F188_1_B(x1:List Int)(x3:List Int)(v20_1:Int)(o0_1:(List Int)):Option (((List Int))⊕((List Int))):=
 (getI x3 v20_1).bind fun x9=>
(getI x1 x9).bind fun x11=>
(app 8 o0_1 [x11]).bind fun l14=>
some (.inl l14)
def F188_1_D(x1:List Int)(x3:List Int)(v20_1:Int)(o0_1:(List Int)):Option ((List Int)):=
 some o0_1
def F188(a0:Int)(a1:List Int)(a2:List (List Int))(a3:List (List Int)):Option (List Int):=
 (F205 a0 a1 a3).bind fun x1=>
 (F101 a2).bind fun x3=>
 (forR 0 (x3.length:Int) (F188_1_B x1 x3) (F188_1_D x1 x3) ([]:(List Int))).bind fun zo0_1=>
 some zo0_1
def I188_1(x1:List Int)(x3:List Int)(v20_1:Int)(o0_1:(List Int))(e:Env)(h:Heap):Prop:=
 ∃u6 k7:Nat,h=⟨[(u6,some (o0_1.map Enc.enc))],k7⟩∧e.length=33∧e.at 1=V.isl (x1.map Enc.enc)∧e.at 9=V.sl 0 u6 0 o0_1.length 1∧e.at 18=V.isl (x3.map Enc.enc)∧e.at 19=V.int .i64 (x3.length:Int)∧e.at 20=V.int .i64 v20_1
def P188_1(x1:List Int)(x3:List Int)(zo0_1:(List Int))(x:Ex)(e:Env)(h:Heap):Prop:=
 x= .normal∧∃u6 k7:Nat,h=⟨[(u6,some (zo0_1.map Enc.enc))],k7⟩∧e.length=33∧e.at 9=V.sl 0 u6 0 zo0_1.length 1
theorem l188_1(x1:List Int)(x3:List Int){lo:Int}{s:(List Int)}{t:(List Int)}(hF:forR lo (x3.length:Int) (F188_1_B x1 x3) (F188_1_D x1 x3) s=some t){e:Env}{h:Heap}(hI:I188_1 x1 x3 lo s e h):W A c188_1 e h (P188_1 x1 x3 t):=by
 show W A (.block 0 (.loop false b188_1)) e h _;rw[W_block];refine W_forR hF 1 (by obtain⟨_,_,rfl,_⟩:=hI; rfl) (I188_1 x1 x3) hI ?_ ?_
 ·rintro v20_1 o0_1 e h ⟨u6,k7,rfl,h_5⟩ hlt hw o ho
  unfold F188_1_B at ho;obtain⟨x9,gx9,ho⟩:=bS ho;obtain⟨w10a,w10b⟩:=getI_w gx9;obtain⟨x11,gx11,ho⟩:=bS ho;obtain⟨w12a,w12b⟩:=getI_w gx11;obtain⟨l14,gl14,ho⟩:=bS ho;have w13:=fun a b c d e=> appendV_w (α:=Int) (n:=o0_1.length) (m:=1) (ds:=[V.int .i64 x11]) gl14 (by first|rfl|simp) (by first|rfl|simp) rfl a b c d e;have w13l:=app_len gl14;cases ho;simp only[simprocAttr,R0,b188_1,h_5,eq_true hlt,hw,w10a,w10b,w12a,w12b,w13];refine ai rfl (ei _ (ei _ (ai rfl ?_)));simp only[simprocAttr,R0,h_5,eq_true hlt,hw,w10a,w10b,w12a,w12b,w13]
 ·rintro v20_1 o0_1 e h ⟨u6,k7,rfl,h_5⟩ hge t1 ho
  unfold F188_1_D at ho;cases ho;simp only[simprocAttr,R0,b188_1,h_5,eq_false hge];intro ht; subst ht;refine ai rfl (ei _ (ei _ (ai rfl ?_)));simp only[simprocAttr,R0,h_5,eq_false hge]
theorem t188(a0:Int)(a1:List Int)(a2:List (List Int))(a3:List (List Int)){r:List Int}(hF:F188 a0 a1 a2 a3=some r):tans A 188 [1] [V.int .i64 a0,V.isl (a1.map Enc.enc),V.isl (a2.map Enc.enc),V.isl (a3.map Enc.enc)]=some (Enc.enc r):=by
 refine tans_of (f:=p188) rfl rfl rfl fun e hl he=>?_;have h0_0:e.at 0=V.int .i64 a0:=he 0 _ rfl;have h1_0:e.at 1=V.isl (a1.map Enc.enc):=he 1 _ rfl;have h2_0:e.at 2=V.isl (a2.map Enc.enc):=he 2 _ rfl;have h3_0:e.at 3=V.isl (a3.map Enc.enc):=he 3 _ rfl;have hl_0:e.length=33:=hl;clear he hl;show W A b188 e ⟨[],0⟩ _;unfold F188 at hF;obtain⟨x1,gx1,hF⟩:=bS hF;have w2:ans A 205 [V.int .i64 a0,V.isl (a1.map Enc.enc),V.isl (a3.map Enc.enc)]=some (V.isl (x1.map Enc.enc)):=s205 a0 a1 a3 gx1;obtain⟨x3,gx3,hF⟩:=bS hF;have w4:ans A 101 [V.isl (a2.map Enc.enc)]=some (V.isl (x3.map Enc.enc)):=s101 a2 gx3;obtain⟨zo0_1,gt15,hF⟩:=bS hF;simp only[simprocAttr, -Int.reduceNatCast',R0,b188,hl_0,h0_0,h1_0,h2_0,h3_0,w2,w4];refine W.mono (l188_1 x1 x3 gt15 (ei _ (ei _ (ai rfl ?_)))) ?_
 ·simp only[simprocAttr, -Int.reduceNatCast',R0,hl_0,h0_0,h1_0,h2_0,h3_0,w2,w4]
 rintro _ e _ ⟨rfl,u6,k7,rfl,hl_8,h9_8⟩;have hE:=Option.some.inj hF; subst hE;simp only[simprocAttr, -Int.reduceNatCast',R0,hl_8,h9_8];exact tfin_ret (by simp only[simprocAttr, -Int.reduceNatCast',R0,fn_out,p188,Rs.ev,take_len_self,hl_8,h9_8,frzs (α:=Int) zo0_1,takes (α:=Int) zo0_1])
def F102(a0:GComplex)(a1:Int):Option Int:=
 (F86 a0).bind fun x1=>
 (F56 a1 0 x1).bind fun x3=>
 if x3=true then
  (getI a0.Dims a1).bind fun x5=>
  some x5
 else
  some 0
theorem s102(a0:GComplex)(a1:Int){r:Int}(hF:F102 a0 a1=some r):ans A 102 [(eC a0),V.int .i64 a1]=some (Enc.enc r):=by
 refine ans_of (f:=p102) rfl rfl rfl fun e hl he=>?_;have h0_0:e.at 0=(eC a0):=he 0 _ rfl;have h1_0:e.at 1=V.int .i64 a1:=he 1 _ rfl;have hl_0:e.length=15:=hl;clear he hl;have h_0:=ai hl_0 (ai h0_0 h1_0);show W A b102 e ⟨[],0⟩ _;unfold F102 at hF;obtain⟨x1,gx1,hF⟩:=bS hF;have w2:ans A 86 [(eC a0)]=some (V.int .i64 x1):=s86 a0 gx1;obtain⟨x3,gx3,hF⟩:=bS hF;have w4:ans A 56 [V.int .i64 a1,V.int .i64 0,V.int .i64 x1]=some (V.bool x3):=s56 a1 0 x1 gx3;cases x3 with
 |true=>
  rw[if_pos rfl]at hF;obtain⟨x5,gx5,hF⟩:=bS hF;obtain⟨w6a,w6b⟩:=getI_w gx5;cases hF;simp only[simprocAttr,R0,b102,h_0,w2,w4,w6a,w6b];exact fin_ret (by simp only[simprocAttr,R0,fn_out,p102,Rs.ev,take_len_self,h_0,w2,w4,w6a,w6b])
 |false=>
  rw[if_neg Bool.false_ne_true]at hF;cases hF;simp only[simprocAttr,R0,b102,h_0,w2,w4];exact fin_ret (by simp only[simprocAttr,R0,fn_out,p102,Rs.ev,take_len_self,h_0,w2,w4])
def F132(a0:Int)(a1:Int):Option (List Int):=
 (mkL 8 a0 0).bind fun l1=>
 (getI l1 a1).bind fun x3=>
 (setI l1 a1 1).bind fun l5=>
 some l5
theorem t132(a0:Int)(a1:Int){r:List Int}(hF:F132 a0 a1=some r):tans A 132 [1] [V.int .i64 a0,V.int .i64 a1]=some (Enc.enc r):=by
 refine tans_of (f:=p132) rfl rfl rfl fun e hl he=>?_;have h0_0:e.at 0=V.int .i64 a0:=he 0 _ rfl;have h1_0:e.at 1=V.int .i64 a1:=he 1 _ rfl;have hl_0:e.length=12:=hl;clear he hl;show W A b132 e ⟨[],0⟩ _;unfold F132 at hF;obtain⟨l1,gl1,hF⟩:=bS hF;obtain⟨w2a,w2b,w2c,w2d,w2e⟩:=mkL_w gl1;replace w2e:(List.replicate (Int.toNat a0) [V.int .i64 0]).flatten=List.map Enc.enc l1:=w2e;obtain⟨x3,gx3,hF⟩:=bS hF;obtain⟨w4a,w4b⟩:=getI_w gx3;have w4c:=getI_lt gx3;replace w4c:a1 < (((Int.toNat a0):Nat):Int):=by first|exact w4c|(simp only[w2d]at w4c ⊢; exact w4c)
 have w4d:List.drop (Int.toNat a1) (l1.map Enc.enc)=(V.int .i64 x3)::List.drop ((Int.toNat a1)+1) (l1.map Enc.enc):=drop_enc w4b;obtain⟨l5,gl5,hF⟩:=bS hF;obtain⟨w6a,w6b,w6c,w6d,w6e⟩:=setI_w gl5;replace w6e:List.take (Int.toNat a1) (l1.map Enc.enc)++[V.int .i64 1]++List.drop (Int.toNat a1+1) (l1.map Enc.enc)=List.map Enc.enc l5:=w6e;have hE:=Option.some.inj hF; subst hE;simp only[simprocAttr, -Int.reduceNatCast',R0,b132,hl_0,h0_0,h1_0,w2a,w2b,w2c,w2e,w4a,w4b,w4c,w4d,w6a,w6b,w6c,w6e];exact tfin_ret (by simp only[simprocAttr, -Int.reduceNatCast',R0,fn_out,p132,Rs.ev,take_len_self,hl_0,h0_0,h1_0,w2a,w2b,w2c,w2e,w4a,w4b,w4c,w4d,w6a,w6b,w6c,w6e,frzs (α:=Int) l5,takes (α:=Int) l5,take_len (α:=Int) (l:=l5) (n:=(Int.toNat a0)) (by first|rfl|simp only[w2d,w6d]),w2d,w6d])
def F124_1_B(a0:Int)(v7_1:Int)(o0_1:(List (List Int))):Option (((List (List Int)))⊕((List (List Int)))):=
 (F132 a0 v7_1).bind fun x5=>
(app 24 o0_1 [x5]).bind fun l8=>
some (.inl l8)
def F124_1_D(a0:Int)(v7_1:Int)(o0_1:(List (List Int))):Option ((List (List Int))):=
 some o0_1
def F124(a0:Int):Option (List (List Int)):=
 (forR 0 a0 (F124_1_B a0) (F124_1_D a0) ([]:(List (List Int)))).bind fun zo0_1=>
 some zo0_1
theorem d124(a0:Int){r:List (List Int)}(hF:F124 a0=some r):∃v h',res A 124 [V.int .i64 a0] Heap.empty=some (v,h')∧∃K,Deep.rep h' v r K:=by
 refine res_dp (f:=p124) rfl rfl rfl fun e hl he=>?_;have h0_0:e.at 0=V.int .i64 a0:=he 0 _ rfl;have hl_0:e.length=18:=hl;clear he hl;show W A b124 e ⟨[],0⟩ _;unfold F124 at hF;obtain⟨zo0_1,gt9,hF⟩:=bS hF;have hE:=Option.some.inj hF; subst hE;simp only[simprocAttr, -Int.reduceNatCast',R1,b124,hl_0,h0_0];show W A (.block 0 (.loop true b124_1)) _ _ _;rw[W_block];refine W_forR gt9 _ rfl (fun i l e h=>∃u vs K,h.ents[0]? =some (u,some vs)∧reps h vs l K∧¬K 0∧e.length=18∧e.at 0=V.int .i64 a0∧e.at 3=V.sl 0 u 0 l.length 1∧e.at 6=V.int .i64 a0∧e.at 7=V.int .i64 i) ?_ ?_ ?_
 ·refine⟨0,[],fun _=> False,rfl,fun _ x=> x,fun x=> x,?_⟩
  simp only[simprocAttr, -Int.reduceNatCast',R1,hl_0,h0_0]
 ·rintro i l e ⟨E,c⟩ ⟨u,vs,K,g1,g2,g3,hl_1,h0_1,h3_1,h6_1,h7_1⟩ hlt hw o ho
  unfold F124_1_B at ho;obtain⟨x7,gx7,ho⟩:=bS ho;have w8:=t132 a0 i gx7;obtain⟨l10,gl10,ho⟩:=bS ho;obtain⟨q1,q2,rfl⟩:=app_w gl10;have hE:=Option.some.inj ho; subst hE;have hln:=g2.len;have hE0:0 < E.length:=(List.getElem?_eq_some_iff.1 g1).1;have w9:∀x y c',appendV 1 24 (.sl 0 u 0 l.length 1) 1 [V.sl E.length c 0 x7.length 1] ⟨E++[x]++[y],c'⟩=_:=fun x y c'=> appendV_deep (E:=E++[x]++[y]) (vs:=vs) (by rw[List.getElem?_append_left (by simp),List.getElem?_append_left hE0]; exact g1) hln (by simpa using q1) (by simpa using q2);simp only[simprocAttr, -Int.reduceNatCast',R1,b124_1,hl_1,h0_1,h3_1,h6_1,h7_1,eq_true hlt,hw,w8,callM_tans,thaw_one,get_last,w9];have r1:=deep_round (h:=⟨E,c⟩) (h1:=⟨E++[(c,some (x7.map Enc.enc))],c+1⟩) (h2:=⟨(E++[(c,some (x7.map Enc.enc))]++[(c+1,some [V.sl E.length c 0 x7.length 1])]).set 0 (c+1+1,some (vs++[V.sl E.length c 0 x7.length 1])),c+1+1+1⟩) g2
   (int_row (l:=x7) (K:=fun k=> k=E.length) (get_last _ _) fun k=> Iff.rfl) (fun k q=> by show E.length≤k; omega) (fun k q=> List.getElem?_append_left q) (fun k p q=> set_app_new (fun e=> by subst e; exact q.elim g3 (fun q=> by omega)) p) (by simp)
  refine ai rfl ⟨_,_,_,set_app_key (by simp),r1,fun q=> q.elim g3 (fun q=> by omega),?_⟩;simp only[simprocAttr, -Int.reduceNatCast',R1,hl_1,h0_1,h3_1,h6_1,h7_1,eq_true hlt,hw,w8,List.length_append]
 ·rintro i l e ⟨E,c⟩ ⟨u,vs,K,g1,g2,g3,hl_1,h0_1,h3_1,h6_1,h7_1⟩ hge t1 ho
  unfold F124_1_D at ho;have hE:=Option.some.inj ho; subst hE;simp only[simprocAttr, -Int.reduceNatCast',R1,b124_1,hl_1,h0_1,h3_1,h6_1,h7_1,eq_false hge];intro ht; subst ht;refine ai (fun _=> trivial) ⟨_,by simp only[simprocAttr, -Int.reduceNatCast',R1,fn_out,p124,Rs.ev,hl_1],fun k=> k=0∨K k,.inr ⟨0,u,vs,K,rfl,g1,g2,g3,fun k=> Iff.rfl⟩⟩
theorem s124(a0:Int){r:List (List Int)}(hF:F124 a0=some r):ans A 124 [V.int .i64 a0]=some (Enc.enc r):=ans_of_deep (by decide) (d124 a0 hF)
theorem x124(a0:Int){r:List (List Int)}(hF:F124 a0=some r):tans A 124 [1,1] [V.int .i64 a0]=some (Enc.enc r):=tans_of_deep (α:=List (List Int)) (by decide) (d124 a0 hF)
def F82(a0:List Int)(f1:Int→Option Bool):Option Bool:=
 (F115 a0 f1).bind fun x1=>
 some (decide (0≤x1))
theorem s82(a0:List Int)(f1:Int→Option Bool){vf1:V}(hf1:Clo1 A vf1 f1){r:Bool}(hF:F82 a0 f1=some r):ans A 82 [V.isl (a0.map Enc.enc),vf1]=some (Enc.enc r):=by
 refine ans_of (f:=p82) rfl rfl rfl fun e hl he=>?_;have h0_0:e.at 0=V.isl (a0.map Enc.enc):=he 0 _ rfl;have h1_0:e.at 1=vf1:=he 1 _ rfl;obtain⟨g_f1,fs_f1,cs_f1,hv_f1,hc_f1⟩:=id hf1;have hl_0:e.length=9:=hl;clear he hl;show W A b82 e ⟨[],0⟩ _;unfold F82 at hF;obtain⟨x1,gx1,hF⟩:=bS hF;have w2:ans A 115 [V.isl (a0.map Enc.enc),vf1]=some (V.int .i64 x1):=s115 a0 f1 hf1 gx1;cases hF;simp only[simprocAttr,R0,b82,hl_0,h0_0,h1_0,hf1.fz,hf1.rl,w2];exact fin_ret (by simp only[simprocAttr,R0,fn_out,p82,Rs.ev,take_len_self,hl_0,h0_0,h1_0,hf1.fz,hf1.rl,w2])
def F118(a0:Int):Option Bool:=
 some (!(decide (a0=0)))
theorem s118(a0:Int){r:Bool}(hF:F118 a0=some r):ans A 118 [V.int .i64 a0]=some (Enc.enc r):=by
 refine ans_of (f:=p118) rfl rfl rfl fun e hl he=>?_;have h0_0:e.at 0=V.int .i64 a0:=he 0 _ rfl;have hl_0:e.length=5:=hl;clear he hl;show W A b118 e ⟨[],0⟩ _;unfold F118 at hF;cases hF;simp only[simprocAttr,R0,b118,hl_0,h0_0];exact fin_ret (by simp only[simprocAttr,R0,fn_out,p118,Rs.ev,take_len_self,hl_0,h0_0])
def F92(a0:List Int):Option Bool:=
 (F82 a0 (fun x=> F118 x)).bind fun x1=>
 some (!x1)
theorem s92(a0:List Int){r:Bool}(hF:F92 a0=some r):ans A 92 [V.isl (a0.map Enc.enc)]=some (Enc.enc r):=by
 refine ans_of (f:=p92) rfl rfl rfl fun e hl he=>?_;have h0_0:e.at 0=V.isl (a0.map Enc.enc):=he 0 _ rfl;have hl_0:e.length=6:=hl;clear he hl;show W A b92 e ⟨[],0⟩ _;unfold F92 at hF;obtain⟨x1,gx1,hF⟩:=bS hF;have w2:ans A 82 [V.isl (a0.map Enc.enc),V.fn 118 [] []]=some (V.bool x1):=s82 a0 (fun x=> F118 x) (Clo1.of (by intro h f; simp only[RZ,mapO]) (by intro h f; simp only[RZ,mapO]) (by intro f; simp only[RZ,RB]) (by intro f; simp only[RZ,RB]) (fun x _ hr=> s118 x hr)) gx1;cases hF;simp only[simprocAttr,R0,b92,hl_0,h0_0,w2];exact fin_ret (by simp only[simprocAttr,R0,fn_out,p92,Rs.ev,take_len_self,hl_0,h0_0,w2])
def F125_1_B(a0:Int)(a1:List (List Int))(x2:List Int)(v25_1:Int)(o0_1:(List (List Int))):Option (((List (List Int)))⊕((List (List Int)))):=
 (getI a1 v25_1).bind fun x8=>
(F96 x8).bind fun x10=>
(appZ 8 x10 (a1.length:Int) 0).bind fun l13=>
(chk ((x2.length:Int)+v25_1)).bind fun x14=>
(getI l13 x14).bind fun x15=>
(setI l13 x14 1).bind fun l17=>
(app 24 o0_1 [l17]).bind fun l20=>
some (.inl l20)
def F125_1_D(a0:Int)(a1:List (List Int))(x2:List Int)(v25_1:Int)(o0_1:(List (List Int))):Option ((List (List Int))):=
 some o0_1
def F125_2_B(a0:Int)(x2:List Int)(x22:List (List Int))(v49_2:Int)(o1_2:(List (List Int))):Option (((List (List Int)))⊕((List (List Int)))):=
 (getI x22 v49_2).bind fun x28=>
(slI x28 0 (x2.length:Int)).bind fun l30=>
(F92 l30).bind fun x32=>
if x32=true then
 (slI x28 (x2.length:Int) (x28.length:Int)).bind fun l34=>
 (app 24 o1_2 [l34]).bind fun l37=>
 some (.inl l37)
else
 some (.inl o1_2)
def F125_2_D(a0:Int)(x2:List Int)(x22:List (List Int))(v49_2:Int)(o1_2:(List (List Int))):Option ((List (List Int))):=
 some o1_2
def F125(a0:Int)(a1:List (List Int)):Option (List (List Int)):=
 if(a1.length:Int)=0 then
  some ([]:List (List Int))
 else
  (getI a1 0).bind fun x2=>
  (forR 0 (a1.length:Int) (F125_1_B a0 a1 x2) (F125_1_D a0 a1 x2) ([]:(List (List Int)))).bind fun zo0_1=>
  (F133 a0 zo0_1).bind fun x22=>
  (forR 0 (x22.length:Int) (F125_2_B a0 x2 x22) (F125_2_D a0 x2 x22) ([]:(List (List Int)))).bind fun zo1_2=>
  (F133 a0 zo1_2).bind fun x39=>
  some x39
def I125_1(a0:Int)(a1:List (List Int))(x2:List Int)(v25_1:Int)(o0_1:(List (List Int)))(e:Env)(h:Heap):Prop:=
 ∃u5 k6:Nat,h=⟨[(u5,some (o0_1.map Enc.enc))],k6⟩∧e.length=67∧e.at 0=V.int .i64 a0∧e.at 5=V.int .i64 (a1.length:Int)∧e.at 6=V.int .i64 (x2.length:Int)∧e.at 7=V.sl 0 u5 0 o0_1.length 1∧e.at 23=V.isl (a1.map Enc.enc)∧e.at 24=V.int .i64 (a1.length:Int)∧e.at 25=V.int .i64 v25_1
def P125_1(a0:Int)(a1:List (List Int))(x2:List Int)(zo0_1:(List (List Int)))(x:Ex)(e:Env)(h:Heap):Prop:=
 x= .normal∧∃u5 k6:Nat,h=⟨[(u5,some (zo0_1.map Enc.enc))],k6⟩∧e.length=67∧e.at 0=V.int .i64 a0∧e.at 6=V.int .i64 (x2.length:Int)∧e.at 7=V.sl 0 u5 0 zo0_1.length 1
theorem l125_1(a0:Int)(a1:List (List Int))(x2:List Int){lo:Int}{s:(List (List Int))}{t:(List (List Int))}(hF:forR lo (a1.length:Int) (F125_1_B a0 a1 x2) (F125_1_D a0 a1 x2) s=some t){e:Env}{h:Heap}(hI:I125_1 a0 a1 x2 lo s e h):W A c125_1 e h (P125_1 a0 a1 x2 t):=by
 show W A (.block 0 (.loop false b125_1)) e h _;rw[W_block];refine W_forR hF 1 (by obtain⟨_,_,rfl,_⟩:=hI; rfl) (I125_1 a0 a1 x2) hI ?_ ?_
 ·rintro v25_1 o0_1 e h ⟨u5,k6,rfl,h_4⟩ hlt hw o ho
  unfold F125_1_B at ho;obtain⟨x8,gx8,ho⟩:=bS ho;obtain⟨w9a,w9b⟩:=getI_w gx8;obtain⟨x10,gx10,ho⟩:=bS ho;have w11:tans A 96 [1] [V.isl (x8.map Enc.enc)]=some (V.isl (x10.map Enc.enc)):=t96 x8 gx10;have w11t:=thaw_one (α:=Int) x10;obtain⟨l13,gl13,ho⟩:=bS ho;obtain⟨w12a,w12b,w12c,w12d,w12e,w12f⟩:=appZ_w gl13;replace w12f:List.map Enc.enc (List.replicate (Int.toNat (a1.length:Int)) (0:Int))=(List.replicate (Int.toNat (a1.length:Int)) [V.int .i64 0]).flatten:=w12f;have w12:=fun a b c d e=> appendV_w (α:=Int) (n:=x10.length) (m:=(Int.toNat (a1.length:Int))) (ds:=(List.replicate (Int.toNat (a1.length:Int)) [V.int .i64 0]).flatten) w12d (by first|rfl|simp) w12e w12f a b c d e;have w12l:=app_len w12d;obtain⟨x14,gx14,ho⟩:=bS ho;have wx14:=chk_w gx14;obtain⟨x15,gx15,ho⟩:=bS ho;obtain⟨w16a,w16b⟩:=getI_w gx15;have w16c:=getI_lt gx15;have w16d:List.drop (Int.toNat x14) (l13.map Enc.enc)=(V.int .i64 x15)::List.drop ((Int.toNat x14)+1) (l13.map Enc.enc):=drop_enc w16b;obtain⟨l17,gl17,ho⟩:=bS ho;obtain⟨w18a,w18b,w18c,w18d,w18e⟩:=setI_w gl17;replace w18e:List.take (Int.toNat x14) (l13.map Enc.enc)++[V.int .i64 1]++List.drop (Int.toNat x14+1) (l13.map Enc.enc)=List.map Enc.enc l17:=w18e;obtain⟨l20,gl20,ho⟩:=bS ho;have w19:=fun a b c d e=> appendV_w (α:=List Int) (n:=o0_1.length) (m:=1) (ds:=[V.isl (l17.map Enc.enc)]) gl20 (by first|rfl|simp only[w18d]) (by first|rfl|simp only[w18d]) rfl a b c d e;have w19l:=app_len gl20;cases ho;simp only[simprocAttr, -Int.reduceNatCast',R0,b125_1,h_4,eq_true hlt,hw,w9a,w9b,w11,w11t,w12a,w12b,w12c,w12,wx14,w16a,w16b,w16c,w16d,w18a,w18b,w18c,w18e,takes (α:=Int) l17,take_len (α:=Int) (l:=l17) (n:=l13.length) (by first|rfl|simp only[w18d]),le_of_len (α:=Int) (l:=l17) (n:=l13.length) (by first|rfl|simp only[w18d]),w19];refine ai rfl (ei _ (ei _ (ai rfl ?_)));simp only[simprocAttr, -Int.reduceNatCast',R0,h_4,eq_true hlt,hw,w9a,w9b,w11,w11t,w12a,w12b,w12c,w12,wx14,w16a,w16b,w16c,w16d,w18a,w18b,w18c,w18e,takes (α:=Int) l17,take_len (α:=Int) (l:=l17) (n:=l13.length) (by first|rfl|simp only[w18d]),le_of_len (α:=Int) (l:=l17) (n:=l13.length) (by first|rfl|simp only[w18d]),w19,w18d]
 ·rintro v25_1 o0_1 e h ⟨u5,k6,rfl,h_4⟩ hge t1 ho
  unfold F125_1_D at ho;cases ho;simp only[simprocAttr, -Int.reduceNatCast',R0,b125_1,h_4,eq_false hge];intro ht; subst ht;refine ai rfl (ei _ (ei _ (ai rfl ?_)));simp only[simprocAttr, -Int.reduceNatCast',R0,h_4,eq_false hge]
def I125_2(a0:Int)(x2:List Int)(x22:List (List Int))(v49_2:Int)(o1_2:(List (List Int)))(e:Env)(h:Heap):Prop:=
 ∃u25 k26:Nat,h=⟨[(0,none),(u25,some (o1_2.map Enc.enc))],k26⟩∧e.length=67∧e.at 0=V.int .i64 a0∧e.at 6=V.int .i64 (x2.length:Int)∧e.at 11=V.sl 1 u25 0 o1_2.length 1∧e.at 47=V.isl (x22.map Enc.enc)∧e.at 48=V.int .i64 (x22.length:Int)∧e.at 49=V.int .i64 v49_2
def P125_2(a0:Int)(x2:List Int)(x22:List (List Int))(zo1_2:(List (List Int)))(x:Ex)(e:Env)(h:Heap):Prop:=
 x= .normal∧∃u25 k26:Nat,h=⟨[(0,none),(u25,some (zo1_2.map Enc.enc))],k26⟩∧e.length=67∧e.at 0=V.int .i64 a0∧e.at 11=V.sl 1 u25 0 zo1_2.length 1
theorem l125_2(a0:Int)(x2:List Int)(x22:List (List Int)){lo:Int}{s:(List (List Int))}{t:(List (List Int))}(hF:forR lo (x22.length:Int) (F125_2_B a0 x2 x22) (F125_2_D a0 x2 x22) s=some t){e:Env}{h:Heap}(hI:I125_2 a0 x2 x22 lo s e h):W A c125_2 e h (P125_2 a0 x2 x22 t):=by
 show W A (.block 2 (.loop false b125_2)) e h _;rw[W_block];refine W_forR hF 2 (by obtain⟨_,_,rfl,_⟩:=hI; rfl) (I125_2 a0 x2 x22) hI ?_ ?_
 ·rintro v49_2 o1_2 e h ⟨u25,k26,rfl,h_24⟩ hlt hw o ho
  unfold F125_2_B at ho;obtain⟨x28,gx28,ho⟩:=bS ho;obtain⟨w29a,w29b⟩:=getI_w gx28;obtain⟨l30,gl30,ho⟩:=bS ho;have w31:sliceV 1 (V.isl (x28.map Enc.enc)) none (some (V.int .i64 (x2.length:Int)))=some (V.isl (l30.map Enc.enc)):=sliceV_w (α:=Int) One.one gl30 (.inl ⟨rfl,rfl⟩) (.inr rfl);obtain⟨x32,gx32,ho⟩:=bS ho;have w33:ans A 92 [V.isl (l30.map Enc.enc)]=some (V.bool x32):=s92 l30 gx32;cases x32 with
  |true=>
   rw[if_pos rfl]at ho;obtain⟨l34,gl34,ho⟩:=bS ho;have w35:sliceV 1 (V.isl (x28.map Enc.enc)) (some (V.int .i64 (x2.length:Int))) none=some (V.isl (l34.map Enc.enc)):=sliceV_w (α:=Int) One.one gl34 (.inr rfl) (.inl ⟨rfl,rfl⟩);obtain⟨l37,gl37,ho⟩:=bS ho;have w36:=fun a b c d e=> appendV_w (α:=List Int) (n:=o1_2.length) (m:=1) (ds:=[V.isl (l34.map Enc.enc)]) gl37 (by first|rfl|simp) (by first|rfl|simp) rfl a b c d e;have w36l:=app_len gl37;cases ho;simp only[simprocAttr,R0,b125_2,h_24,eq_true hlt,hw,w29a,w29b,w31,w33,w35,w36];refine ai rfl (ei _ (ei _ (ai rfl ?_)));simp only[simprocAttr,R0,h_24,eq_true hlt,hw,w29a,w29b,w31,w33,w35,w36]
  |false=>
   rw[if_neg Bool.false_ne_true]at ho;cases ho;simp only[simprocAttr,R0,b125_2,h_24,eq_true hlt,hw,w29a,w29b,w31,w33];refine ai rfl (ei _ (ei _ (ai rfl ?_)));simp only[simprocAttr,R0,h_24,eq_true hlt,hw,w29a,w29b,w31,w33]
 ·rintro v49_2 o1_2 e h ⟨u25,k26,rfl,h_24⟩ hge t1 ho
  unfold F125_2_D at ho;cases ho;simp only[simprocAttr,R0,b125_2,h_24,eq_false hge];intro ht; subst ht;refine ai rfl (ei _ (ei _ (ai rfl ?_)));simp only[simprocAttr,R0,h_24,eq_false hge]
theorem s125(a0:Int)(a1:List (List Int)){r:List (List Int)}(hF:F125 a0 a1=some r):ans A 125 [V.int .i64 a0,V.isl (a1.map Enc.enc)]=some (Enc.enc r):=by
 refine ans_of (f:=p125) rfl rfl rfl fun e hl he=>?_;have h0_0:e.at 0=V.int .i64 a0:=he 0 _ rfl;have h1_0:e.at 1=V.isl (a1.map Enc.enc):=he 1 _ rfl;have hl_0:e.length=67:=hl;clear he hl;have h_0:=ai hl_0 (ai h0_0 h1_0);show W A b125 e ⟨[],0⟩ _;unfold F125 at hF;by_cases c1:(a1.length:Int)=0
 ·rw[if_pos c1]at hF
  cases hF;simp only[simprocAttr,R0,b125,h_0,eq_true c1];exact fin_ret (by simp only[simprocAttr,R0,fn_out,p125,Rs.ev,take_len_self,h_0,eq_true c1])
 ·rw[if_neg c1]at hF
  obtain⟨x2,gx2,hF⟩:=bS hF;obtain⟨w3a,w3b⟩:=getI_w gx2;replace w3b:a1[0]? =some x2:=w3b;obtain⟨zo0_1,gt21,hF⟩:=bS hF;simp only[simprocAttr,R0,b125,h_0,eq_false c1,w3a,w3b];refine W.mono (l125_1 a0 a1 x2 gt21 (ei _ (ei _ (ai rfl ?_)))) ?_
  ·simp only[simprocAttr,R0,h_0,eq_false c1,w3a,w3b]
  rintro _ e _ ⟨rfl,u5,k6,rfl,h_7⟩;obtain⟨x22,gx22,hF⟩:=bS hF;have w23:ans A 133 [V.int .i64 a0,V.isl (zo0_1.map Enc.enc)]=some (V.isl (x22.map Enc.enc)):=s133 a0 zo0_1 gx22;obtain⟨zo1_2,gt38,hF⟩:=bS hF;simp only[simprocAttr,R0,h_7,eq_false c1,takes (α:=List Int) zo0_1,w23];refine W.mono (l125_2 a0 x2 x22 gt38 (ei _ (ei _ (ai rfl ?_)))) ?_
  ·simp only[simprocAttr,R0,h_7,eq_false c1,takes (α:=List Int) zo0_1,w23]
  rintro _ e _ ⟨rfl,u25,k26,rfl,h_27⟩;obtain⟨x39,gx39,hF⟩:=bS hF;have w40:ans A 133 [V.int .i64 a0,V.isl (zo1_2.map Enc.enc)]=some (V.isl (x39.map Enc.enc)):=s133 a0 zo1_2 gx39;cases hF;simp only[simprocAttr,R0,h_27,eq_false c1,takes (α:=List Int) zo1_2,w40];exact fin_ret (by simp only[simprocAttr,R0,fn_out,p125,Rs.ev,take_len_self,h_27,eq_false c1,takes (α:=List Int) zo1_2,w40])
def F100(a0:GComplex)(a1:Int):Option (List (List Int)):=
 if a1≤0 then
  (F102 a0 a1).bind fun x2=>
  (F124 x2).bind fun x4=>
  some x4
 else
  (F86 a0).bind fun x6=>
  if x6 < a1 then
   (F102 a0 a1).bind fun x9=>
   (F124 x9).bind fun x11=>
   some x11
  else
   (chk (a1 - 1)).bind fun x13=>
   (getI a0.Maps x13).bind fun x14=>
   (F125 a0.Prime x14).bind fun x16=>
   some x16
theorem s100(a0:GComplex)(a1:Int){r:List (List Int)}(hF:F100 a0 a1=some r):ans A 100 [(eC a0),V.int .i64 a1]=some (Enc.enc r):=by
 refine ans_of (f:=p100) rfl rfl rfl fun e hl he=>?_;have h0_0:e.at 0=(eC a0):=he 0 _ rfl;have h1_0:e.at 1=V.int .i64 a1:=he 1 _ rfl;have hl_0:e.length=26:=hl;clear he hl;have h_0:=ai hl_0 (ai h0_0 h1_0);show W A b100 e ⟨[],0⟩ _;unfold F100 at hF;by_cases c1:a1≤0
 ·rw[if_pos c1]at hF
  obtain⟨x2,gx2,hF⟩:=bS hF;have w3:ans A 102 [(eC a0),V.int .i64 a1]=some (V.int .i64 x2):=s102 a0 a1 gx2;obtain⟨x4,gx4,hF⟩:=bS hF;have w5:ans A 124 [V.int .i64 x2]=some (V.isl (x4.map Enc.enc)):=s124 x2 gx4;cases hF;simp only[simprocAttr,R0,b100,h_0,eq_true c1,w3,w5];exact fin_ret (by simp only[simprocAttr,R0,fn_out,p100,Rs.ev,take_len_self,h_0,eq_true c1,w3,w5])
 ·rw[if_neg c1]at hF
  obtain⟨x6,gx6,hF⟩:=bS hF;have w7:ans A 86 [(eC a0)]=some (V.int .i64 x6):=s86 a0 gx6;by_cases c8:x6 < a1
  ·rw[if_pos c8]at hF
   obtain⟨x9,gx9,hF⟩:=bS hF;have w10:ans A 102 [(eC a0),V.int .i64 a1]=some (V.int .i64 x9):=s102 a0 a1 gx9;obtain⟨x11,gx11,hF⟩:=bS hF;have w12:ans A 124 [V.int .i64 x9]=some (V.isl (x11.map Enc.enc)):=s124 x9 gx11;cases hF;simp only[simprocAttr,R0,b100,h_0,eq_false c1,w7,eq_true c8,w10,w12];exact fin_ret (by simp only[simprocAttr,R0,fn_out,p100,Rs.ev,take_len_self,h_0,eq_false c1,w7,eq_true c8,w10,w12])
  ·rw[if_neg c8]at hF
   obtain⟨x13,gx13,hF⟩:=bS hF;have wx13:=chk_w gx13;obtain⟨x14,gx14,hF⟩:=bS hF;obtain⟨w15a,w15b⟩:=getI_w gx14;obtain⟨x16,gx16,hF⟩:=bS hF;have w17:ans A 125 [V.int .i64 a0.Prime,V.isl (x14.map Enc.enc)]=some (V.isl (x16.map Enc.enc)):=s125 a0.Prime x14 gx16;cases hF;simp only[simprocAttr,R0,b100,h_0,eq_false c1,w7,eq_false c8,wx13,w15a,w15b,w17];exact fin_ret (by simp only[simprocAttr,R0,fn_out,p100,Rs.ev,take_len_self,h_0,eq_false c1,w7,eq_false c8,wx13,w15a,w15b,w17])
def F204_1_B(a0:Int)(a1:List (List Int))(a2:List (List Int))(v13_1:Int)(o0_1:(List (List Int))):Option (((List (List Int)))⊕((List (List Int)))):=
 (getI a1 v13_1).bind fun x5=>
(F205 a0 x5 a2).bind fun x7=>
(app 24 o0_1 [x7]).bind fun l10=>
some (.inl l10)
def F204_1_D(a0:Int)(a1:List (List Int))(a2:List (List Int))(v13_1:Int)(o0_1:(List (List Int))):Option ((List (List Int))):=
 some o0_1
def F204(a0:Int)(a1:List (List Int))(a2:List (List Int)):Option (List (List Int)):=
 (forR 0 (a1.length:Int) (F204_1_B a0 a1 a2) (F204_1_D a0 a1 a2) ([]:(List (List Int)))).bind fun zo0_1=>
 (F133 a0 zo0_1).bind fun x12=>
 some x12
theorem d204(a0:Int)(a1:List (List Int))(a2:List (List Int)){r:List (List Int)}(hF:F204 a0 a1 a2=some r):∃v h',res A 204 [V.int .i64 a0,V.isl (a1.map Enc.enc),V.isl (a2.map Enc.enc)] Heap.empty=some (v,h')∧∃K,Deep.rep h' v r K:=by
 refine res_dp (f:=p204) rfl rfl rfl fun e hl he=>?_;have h0_0:e.at 0=V.int .i64 a0:=he 0 _ rfl;have h1_0:e.at 1=V.isl (a1.map Enc.enc):=he 1 _ rfl;have h2_0:e.at 2=V.isl (a2.map Enc.enc):=he 2 _ rfl;have hl_0:e.length=28:=hl;clear he hl;show W A b204 e ⟨[],0⟩ _;unfold F204 at hF;obtain⟨l,gl,hF⟩:=bS hF;obtain⟨x12,gx12,hF⟩:=bS hF;have hE:=Option.some.inj hF; subst hE;have w13:tans A 133 [1,1] [V.int .i64 a0,V.isl (l.map Enc.enc)]=some (V.isl (x12.map Enc.enc)):=x133 a0 l gx12;simp only[simprocAttr, -Int.reduceNatCast',R0,b204,hl_0,h0_0,h1_0,h2_0];show W A (.block 0 (.loop false b204_1)) _ _ _;rw[W_block];refine W_forR gl 1 rfl (fun i s e h=>∃u k:Nat,h=⟨[(u,some (s.map Enc.enc))],k⟩∧e.length=28∧e.at 0=V.int .i64 a0∧e.at 2=V.isl (a2.map Enc.enc)∧e.at 7=V.sl 0 u 0 s.length 1∧e.at 11=V.isl (a1.map Enc.enc)∧e.at 12=V.int .i64 (a1.length:Int)∧e.at 13=V.int .i64 i) ?_ ?_ ?_
 ·refine⟨_,_,rfl,?_⟩
  simp only[simprocAttr, -Int.reduceNatCast',R0,hl_0,h0_0,h1_0,h2_0]
 ·clear hl_0 h0_0 h1_0 h2_0
  rintro i s e h ⟨u,k,rfl,hl_1,h0_1,h2_1,h7_1,h11_1,h12_1,h13_1⟩ hlt hw o ho;unfold F204_1_B at ho;obtain⟨x5,gx5,ho⟩:=bS ho;obtain⟨w6a,w6b⟩:=getI_w gx5;obtain⟨x7,gx7,ho⟩:=bS ho;have w8:ans A 205 [V.int .i64 a0,V.isl (x5.map Enc.enc),V.isl (a2.map Enc.enc)]=some (V.isl (x7.map Enc.enc)):=s205 a0 x5 a2 gx7;obtain⟨l10,gl10,ho⟩:=bS ho;have w9:=fun ents key uid clk he=> appendV_w (α:=List Int) (n:=s.length) (m:=1) (ds:=[V.isl (x7.map Enc.enc)]) gl10 (by first|rfl|simp only[List.length_nil]) (by first|rfl|simp only[List.length_nil]) rfl ents key uid clk he;have w9l:=app_len gl10;have hE:=Option.some.inj ho; subst hE;simp only[simprocAttr, -Int.reduceNatCast',R0,b204_1,hl_1,h0_1,h2_1,h7_1,h11_1,h12_1,h13_1,eq_true hlt,hw,w6a,w6b,w8,w9];refine ai rfl (ei _ (ei _ (ai rfl ?_)));simp only[simprocAttr, -Int.reduceNatCast',R0,hl_1,h0_1,h2_1,h7_1,h11_1,h12_1,h13_1,eq_true hlt,hw,w6a,w6b,w8,w9]
 ·clear hl_0 h0_0 h1_0 h2_0
  rintro i s e h ⟨u,k,rfl,hl_1,h0_1,h2_1,h7_1,h11_1,h12_1,h13_1⟩ hge t1 ho;unfold F204_1_D at ho;have hE:=Option.some.inj ho; subst hE;simp only[simprocAttr, -Int.reduceNatCast',R0,b204_1,hl_1,h0_1,h2_1,h7_1,h11_1,h12_1,h13_1,eq_false hge];intro ht; subst ht;obtain⟨v,⟨E1,c1⟩,K,t1,t2,t3,t4,t5⟩:=thawD (α:=List (List Int)) (by decide) x12 ⟨[(u,some (s.map Enc.enc))],k⟩;have t1':thaw 16 [1,1] (V.isl (x12.map Enc.enc)) ⟨[(u,some (s.map Enc.enc))],k⟩=some (v,⟨E1,c1⟩):=t1;have wbr:bare 16 [1,1] (V.isl (x12.map Enc.enc))=true:=Deep.br (α:=List (List Int)) x12 10 [];simp only[simprocAttr, -Int.reduceNatCast',R0,hl_1,h0_1,h2_1,h7_1,h11_1,h12_1,h13_1,wbr,frzs (α:=List Int) s,takes (α:=List Int) s,w13,callM_tans,t1'];refine ai (fun _=> trivial) ⟨v,?_,K,t2⟩;simp only[simprocAttr, -Int.reduceNatCast',R0,fn_out,p204,Rs.ev,hl_1]
theorem x204(a0:Int)(a1:List (List Int))(a2:List (List Int)){r:List (List Int)}(hF:F204 a0 a1 a2=some r):tans A 204 [1,1] [V.int .i64 a0,V.isl (a1.map Enc.enc),V.isl (a2.map Enc.enc)]=some (Enc.enc r):=tans_of_deep (α:=List (List Int)) (by decide) (d204 a0 a1 a2 hF)
def F189(a0:GComplex)(a1:Int):Option (List (List Int)):=
 (F100 a0 a1).bind fun x1=>
 (F186 a0 a1).bind fun x3=>
 (F204 a0.Prime x1 x3).bind fun x5=>
 some x5
theorem d189(x:GComplex)(n:Int){r:List (List Int)}(hF:F189 x n=some r):∃v h',res A 189 [(eC x),V.int .i64 n] Heap.empty=some (v,h')∧∃K,Deep.rep h' v r K:=by
 refine res_dp (f:=p189) rfl rfl rfl fun e hl he=>?_;have h0_0:e.at 0=(eC x):=he 0 _ rfl;have h1_0:e.at 1=V.int .i64 n:=he 1 _ rfl;have hl_0:e.length=14:=hl;clear he hl;show W A b189 e ⟨[],0⟩ _;unfold F189 at hF;obtain⟨x1,gx1,hF⟩:=bS hF;have w2:ans A 100 [(eC x),V.int .i64 n]=some (V.isl (x1.map Enc.enc)):=s100 x n gx1;obtain⟨x3,gx3,hF⟩:=bS hF;have w4:ans A 186 [(eC x),V.int .i64 n]=some (V.isl (x3.map Enc.enc)):=s186 x n gx3;obtain⟨x5,gx5,hF⟩:=bS hF;have w6:tans A 204 [1,1] [V.int .i64 x.Prime,V.isl (x1.map Enc.enc),V.isl (x3.map Enc.enc)]=some (V.isl (x5.map Enc.enc)):=x204 x.Prime x1 x3 gx5;have hE:=Option.some.inj hF; subst hE;obtain⟨v,⟨E1,c1⟩,K,t1,t2,t3,t4,t5⟩:=thawD (α:=List (List Int)) (by decide) x5 ⟨[(0,none)],1⟩;have t1':thaw 16 [1,1] (V.isl (x5.map Enc.enc)) ⟨[(0,none)],1⟩=some (v,⟨E1,c1⟩):=t1;simp only[simprocAttr, -Int.reduceNatCast',R0,b189,hl_0,h0_0,h1_0,w2,w4,w6,callM_tans,t1'];refine ai (fun _=> trivial) ⟨v,?_,K,t2⟩;simp only[simprocAttr, -Int.reduceNatCast',R0,fn_out,p189,Rs.ev,hl_0]
theorem s189(x:GComplex)(n:Int){r:List (List Int)}(hF:F189 x n=some r):ans A 189 [(eC x),V.int .i64 n]=some (Enc.enc r):=ans_of_deep (α:=List (List Int)) (by decide) (d189 x n hF)
def F256_1_B(a2:List Int)(x3:List Int)(v15_1:Int)(o2_1:(List Int)):Option (((List Int))⊕((List Int))):=
 (getI x3 v15_1).bind fun x8=>
(getI a2 v15_1).bind fun x10=>
(ixI 8 x8).bind fun n12=>
(some (arW 8 o2_1 n12 (Go.IntKind.wrap .u8 x10))).bind fun l14=>
some (.inl l14)
def F256_1_D(a2:List Int)(x3:List Int)(v15_1:Int)(o2_1:(List Int)):Option ((List Int)):=
 some o2_1
def F256(a0:GDga)(a1:Int)(a2:List Int):Option (Ar .u8 8):=
 (F72 a0 a1).bind fun x3=>
 (forR 0 (x3.length:Int) (F256_1_B a2 x3) (F256_1_D a2 x3) ([]:(List Int))).bind fun zo2_1=>
 some ⟨zo2_1⟩
def I256_1(a2:List Int)(x3:List Int)(v15_1:Int)(o2_1:(List Int))(e:Env)(h:Heap):Prop:=
 ∃k6:Nat,h=⟨[(0,none),(1,some (arc .u8 8 [])),(2,some (arc .u8 8 o2_1))],k6⟩∧e.length=29∧e.at 2=V.isl (a2.map Enc.enc)∧e.at 6=V.ptr 1 1 0∧e.at 7=V.ptr 2 2 0∧e.at 13=V.isl (x3.map Enc.enc)∧e.at 14=V.int .i64 (x3.length:Int)∧e.at 15=V.int .i64 v15_1
def P256_1(a2:List Int)(x3:List Int)(zo2_1:(List Int))(x:Ex)(e:Env)(h:Heap):Prop:=
 x= .normal∧∃k6:Nat,h=⟨[(0,none),(1,some (arc .u8 8 [])),(2,some (arc .u8 8 zo2_1))],k6⟩∧e.length=29∧e.at 6=V.ptr 1 1 0∧e.at 7=V.ptr 2 2 0
theorem l256_1(a2:List Int)(x3:List Int){lo:Int}{s:(List Int)}{t:(List Int)}(hF:forR lo (x3.length:Int) (F256_1_B a2 x3) (F256_1_D a2 x3) s=some t){e:Env}{h:Heap}(hI:I256_1 a2 x3 lo s e h):W A c256_1 e h (P256_1 a2 x3 t):=by
 show W A (.block 0 (.loop false b256_1)) e h _;rw[W_block];refine W_forR hF 3 (by obtain⟨_,rfl,_⟩:=hI; rfl) (I256_1 a2 x3) hI ?_ ?_
 ·rintro v15_1 o2_1 e h ⟨k6,rfl,h_5⟩ hlt hw o ho
  unfold F256_1_B at ho;obtain⟨x8,gx8,ho⟩:=bS ho;obtain⟨w9a,w9b⟩:=getI_w gx8;obtain⟨x10,gx10,ho⟩:=bS ho;obtain⟨w11a,w11b⟩:=getI_w gx10;obtain⟨n12,gn12,ho⟩:=bS ho;obtain⟨w13a,w13b,w13c,w13d⟩:=ixI_w gn12;obtain⟨l14,gl14,ho⟩:=bS ho;have w15:List.take n12 (arc .u8 8 o2_1)++[V.int .u8 (Go.IntKind.wrap .u8 x10)]++List.drop (n12+1) (arc .u8 8 o2_1)=arc .u8 8 l14:=by rw[←Option.some.inj gl14]; exact arc_set (by omega)
  have w15l:n12+1≤8:=by omega
  cases ho;simp only[simprocAttr, -Int.reduceNatCast',R0,b256_1,h_5,eq_true hlt,hw,w9a,w9b,w11a,w11b,w13a,w13b,w13c,w15,eq_true w15l];refine ai rfl (ei _ (ai rfl ?_));simp only[simprocAttr, -Int.reduceNatCast',R0,h_5,eq_true hlt,hw,w9a,w9b,w11a,w11b,w13a,w13b,w13c,w15,eq_true w15l]
 ·rintro v15_1 o2_1 e h ⟨k6,rfl,h_5⟩ hge t1 ho
  unfold F256_1_D at ho;cases ho;simp only[simprocAttr, -Int.reduceNatCast',R0,b256_1,h_5,eq_false hge];intro ht; subst ht;refine ai rfl (ei _ (ai rfl ?_));simp only[simprocAttr, -Int.reduceNatCast',R0,h_5,eq_false hge]
theorem s256(a0:GDga)(a1:Int)(a2:List Int){r:Ar .u8 8}(hF:F256 a0 a1 a2=some r):ans A 256 [V.agg (ceGDga a0),V.int .i64 a1,V.isl (a2.map Enc.enc)]=some (Enc.enc r):=by
 refine ans_of (f:=p256) rfl rfl rfl fun e hl he=>?_;have h0_0:e.at 0=V.agg (ceGDga a0):=he 0 _ rfl;have h1_0:e.at 1=V.int .i64 a1:=he 1 _ rfl;have h2_0:e.at 2=V.isl (a2.map Enc.enc):=he 2 _ rfl;have hl_0:e.length=29:=hl;clear he hl;show W A b256 e ⟨[],0⟩ _;unfold F256 at hF;have w2:List.drop 8 (arc .u8 8 [])=[]:=List.drop_eq_nil_of_le (by rw[arc_len]; exact Nat.le_refl _);obtain⟨x3,gx3,hF⟩:=bS hF;have w4:ans A 72 [V.agg (ceGDga a0),V.int .i64 a1]=some (V.isl (x3.map Enc.enc)):=s72 a0 a1 gx3;obtain⟨zo2_1,gt16,hF⟩:=bS hF;simp only[simprocAttr,R0,b256,hl_0,h0_0,h1_0,h2_0,(show [V.int .u8 0,V.int .u8 0,V.int .u8 0,V.int .u8 0,V.int .u8 0,V.int .u8 0,V.int .u8 0,V.int .u8 0]=arc .u8 8 [] from rfl),w2,List.append_nil,w4];refine W.mono (l256_1 a2 x3 gt16 (ei _ (ai rfl ?_))) ?_
 ·simp only[simprocAttr,R0,hl_0,h0_0,h1_0,h2_0,(show [V.int .u8 0,V.int .u8 0,V.int .u8 0,V.int .u8 0,V.int .u8 0,V.int .u8 0,V.int .u8 0,V.int .u8 0]=arc .u8 8 [] from rfl),w2,List.append_nil,w4]
 rintro _ e _ ⟨rfl,k6,rfl,h_7⟩;have w19:List.drop 8 (arc .u8 8 [])=[]:=List.drop_eq_nil_of_le (by rw[arc_len]; exact Nat.le_refl _);cases hF;simp only[simprocAttr,R0,h_7,w19,List.append_nil];exact fin_ret (by simp only[simprocAttr,R0,fn_out,p256,Rs.ev,take_len_self,h_7,w19,List.append_nil])
def F257_1_B(a2:Ar .u8 8)(x1:List Int)(v15_1:Int)(o2_1:(List Int)):Option (((List Int))⊕((List Int))):=
 (getI x1 v15_1).bind fun x7=>
(ixI 8 x7).bind fun n9=>
(chk (a2.val.getD n9 0)).bind fun x12=>
(app 8 o2_1 [x12]).bind fun l14=>
some (.inl l14)
def F257_1_D(a2:Ar .u8 8)(x1:List Int)(v15_1:Int)(o2_1:(List Int)):Option ((List Int)):=
 some o2_1
def F257(a0:GDga)(a1:Int)(a2:Ar .u8 8):Option (List Int):=
 (F72 a0 a1).bind fun x1=>
 (forR 0 (x1.length:Int) (F257_1_B a2 x1) (F257_1_D a2 x1) ([]:(List Int))).bind fun zo2_1=>
 some zo2_1
def I257_1(a2:Ar .u8 8)(x1:List Int)(v15_1:Int)(o2_1:(List Int))(e:Env)(h:Heap):Prop:=
 ∃u4 k5:Nat,h=⟨[(0,none),(0,none),(u4,some (o2_1.map Enc.enc))],k5⟩∧e.length=28∧e.at 5=V.iptr (arc .u8 8 a2.val)∧e.at 7=V.sl 2 u4 0 o2_1.length 1∧e.at 13=V.isl (x1.map Enc.enc)∧e.at 14=V.int .i64 (x1.length:Int)∧e.at 15=V.int .i64 v15_1
def P257_1(a2:Ar .u8 8)(x1:List Int)(zo2_1:(List Int))(x:Ex)(e:Env)(h:Heap):Prop:=
 x= .normal∧∃u4 k5:Nat,h=⟨[(0,none),(0,none),(u4,some (zo2_1.map Enc.enc))],k5⟩∧e.length=28∧e.at 7=V.sl 2 u4 0 zo2_1.length 1
theorem l257_1(a2:Ar .u8 8)(x1:List Int){lo:Int}{s:(List Int)}{t:(List Int)}(hF:forR lo (x1.length:Int) (F257_1_B a2 x1) (F257_1_D a2 x1) s=some t){e:Env}{h:Heap}(hI:I257_1 a2 x1 lo s e h):W A c257_1 e h (P257_1 a2 x1 t):=by
 show W A (.block 0 (.loop false b257_1)) e h _;rw[W_block];refine W_forR hF 3 (by obtain⟨_,_,rfl,_⟩:=hI; rfl) (I257_1 a2 x1) hI ?_ ?_
 ·rintro v15_1 o2_1 e h ⟨u4,k5,rfl,h_3⟩ hlt hw o ho
  unfold F257_1_B at ho;obtain⟨x7,gx7,ho⟩:=bS ho;obtain⟨w8a,w8b⟩:=getI_w gx7;obtain⟨n9,gn9,ho⟩:=bS ho;obtain⟨w10a,w10b,w10c,w10d⟩:=ixI_w gn9;have w11:ofCells none (List.drop n9 (arc .u8 8 a2.val))=some (V.int .u8 (a2.val.getD n9 0)):=by first|exact arc_one' (i:=n9) (by omega) (by omega)|(simp only[List.drop_drop]; exact arc_one' (i:=n9) (by omega) (by omega))|(show ofCells none (List.drop 0 _)=_; exact arc_one' (i:=n9) (by omega) (by omega))
  obtain⟨x12,gx12,ho⟩:=bS ho;have wx12:=chk_w gx12;obtain⟨l14,gl14,ho⟩:=bS ho;have w13:=fun a b c d e=> appendV_w (α:=Int) (n:=o2_1.length) (m:=1) (ds:=[V.int .i64 x12]) gl14 (by first|rfl|simp) (by first|rfl|simp) rfl a b c d e;have w13l:=app_len gl14;cases ho;simp only[simprocAttr, -Int.reduceNatCast',R0,b257_1,h_3,eq_true hlt,hw,w8a,w8b,w10a,w10b,w10c,w11,wx12,w13];refine ai rfl (ei _ (ei _ (ai rfl ?_)));simp only[simprocAttr, -Int.reduceNatCast',R0,h_3,eq_true hlt,hw,w8a,w8b,w10a,w10b,w10c,w11,wx12,w13]
 ·rintro v15_1 o2_1 e h ⟨u4,k5,rfl,h_3⟩ hge t1 ho
  unfold F257_1_D at ho;cases ho;simp only[simprocAttr, -Int.reduceNatCast',R0,b257_1,h_3,eq_false hge];intro ht; subst ht;refine ai rfl (ei _ (ei _ (ai rfl ?_)));simp only[simprocAttr, -Int.reduceNatCast',R0,h_3,eq_false hge]
theorem s257(a0:GDga)(a1:Int)(a2:Ar .u8 8){r:List Int}(hF:F257 a0 a1 a2=some r):ans A 257 [V.agg (ceGDga a0),V.int .i64 a1,V.agg (arc .u8 8 a2.val)]=some (Enc.enc r):=by
 refine ans_of (f:=p257) rfl rfl rfl fun e hl he=>?_;have h0_0:e.at 0=V.agg (ceGDga a0):=he 0 _ rfl;have h1_0:e.at 1=V.int .i64 a1:=he 1 _ rfl;have h2_0:e.at 2=V.agg (arc .u8 8 a2.val):=he 2 _ rfl;have hl_0:e.length=28:=hl;clear he hl;show W A b257 e ⟨[],0⟩ _;unfold F257 at hF;obtain⟨x1,gx1,hF⟩:=bS hF;have w2:ans A 72 [V.agg (ceGDga a0),V.int .i64 a1]=some (V.isl (x1.map Enc.enc)):=s72 a0 a1 gx1;obtain⟨zo2_1,gt15,hF⟩:=bS hF;simp only[simprocAttr, -Int.reduceNatCast',R0,b257,hl_0,h0_0,h1_0,h2_0,w2];refine W.mono (l257_1 a2 x1 gt15 (ei _ (ei _ (ai rfl ?_)))) ?_
 ·simp only[simprocAttr, -Int.reduceNatCast',R0,hl_0,h0_0,h1_0,h2_0,w2]
 rintro _ e _ ⟨rfl,u4,k5,rfl,hl_6,h7_6⟩;have hE:=Option.some.inj hF; subst hE;simp only[simprocAttr, -Int.reduceNatCast',R0,hl_6,h7_6];exact fin_ret (by simp only[simprocAttr, -Int.reduceNatCast',R0,fn_out,p257,Rs.ev,take_len_self,hl_6,h7_6,frzs (α:=Int) zo2_1,takes (α:=Int) zo2_1])
def F231(a0:GDga)(a1:Int)(a2:Int)(a3:Int)(a4:Int):Option (T2 (List Int) Int):=
 (F157 a0).bind fun x1=>
 if x1=true then
  (F36 a0).bind fun x3=>
  (F86 x3.Complex).bind fun x5=>
  (F56 a1 0 x5).bind fun x7=>
  if x7=true then
   (F56 a3 0 x5).bind fun x9=>
   if x9=true then
    (F189 x3.Complex a1).bind fun x11=>
    (F189 x3.Complex a3).bind fun x13=>
    (chk ((x11.length:Int) - 1)).bind fun x17=>
    (F56 a2 0 x17).bind fun x18=>
    if x18=true then
     (chk ((x13.length:Int) - 1)).bind fun x22=>
     (F56 a4 0 x22).bind fun x23=>
     if x23=true then
      (chk (a1+a3)).bind fun x25=>
      if x5 < x25 then
       some ⟨([]:List Int),0⟩
      else
       (getI x11 a2).bind fun x27=>
       (F256 a0 a1 x27).bind fun x29=>
       (getI x13 a4).bind fun x31=>
       (F256 a0 a3 x31).bind fun x33=>
       (F177 a0 x29 x33).bind fun x35=>
       (F257 a0 x25 x35).bind fun x37=>
       (F189 x3.Complex x25).bind fun x40=>
       (F186 x3.Complex x25).bind fun x42=>
       (F188 a0.Prime x37 x40 x42).bind fun x44=>
       some ⟨x44,0⟩
     else
      some ⟨([]:List Int),2⟩
    else
     some ⟨([]:List Int),2⟩
   else
    some ⟨([]:List Int),2⟩
  else
   some ⟨([]:List Int),2⟩
 else
  some ⟨([]:List Int),1⟩
set_option maxHeartbeats 8000000 in
theorem s231(a0:GDga)(a1:Int)(a2:Int)(a3:Int)(a4:Int){r:T2 (List Int) Int}(hF:F231 a0 a1 a2 a3 a4=some r):ans A 231 [V.agg (ceGDga a0),V.int .i64 a1,V.int .i64 a2,V.int .i64 a3,V.int .i64 a4]=some (EncR.enc r):=by
 refine ans_of (f:=p231) rfl rfl rfl fun e hl he=>?_;have h0_0:e.at 0=V.agg (ceGDga a0):=he 0 _ rfl;have h1_0:e.at 1=V.int .i64 a1:=he 1 _ rfl;have h2_0:e.at 2=V.int .i64 a2:=he 2 _ rfl;have h3_0:e.at 3=V.int .i64 a3:=he 3 _ rfl;have h4_0:e.at 4=V.int .i64 a4:=he 4 _ rfl;have hl_0:e.length=97:=hl;clear he hl;have h_0:=ai hl_0 (ai h0_0 (ai h1_0 (ai h2_0 (ai h3_0 h4_0))));show W A b231 e ⟨[],0⟩ _;unfold F231 at hF;obtain⟨x1,gx1,hF⟩:=bS hF;have w2:ans A 157 [V.agg (ceGDga a0)]=some (V.bool x1):=s157 a0 gx1;cases x1 with
 |true=>
  rw[if_pos rfl]at hF;obtain⟨x3,gx3,hF⟩:=bS hF;have w4:ans A 36 [V.agg (ceGDga a0)]=some ((eF x3)):=s36 a0 gx3;obtain⟨x5,gx5,hF⟩:=bS hF;have w6:ans A 86 [(eC x3.Complex)]=some (V.int .i64 x5):=s86 x3.Complex gx5;obtain⟨x7,gx7,hF⟩:=bS hF;have w8:ans A 56 [V.int .i64 a1,V.int .i64 0,V.int .i64 x5]=some (V.bool x7):=s56 a1 0 x5 gx7;cases x7 with
  |true=>
   rw[if_pos rfl]at hF;obtain⟨x9,gx9,hF⟩:=bS hF;have w10:ans A 56 [V.int .i64 a3,V.int .i64 0,V.int .i64 x5]=some (V.bool x9):=s56 a3 0 x5 gx9;cases x9 with
   |true=>
    rw[if_pos rfl]at hF;obtain⟨x11,gx11,hF⟩:=bS hF;have w12:ans A 189 [(eC x3.Complex),V.int .i64 a1]=some (V.isl (x11.map Enc.enc)):=s189 x3.Complex a1 gx11;obtain⟨x13,gx13,hF⟩:=bS hF;have w14:ans A 189 [(eC x3.Complex),V.int .i64 a3]=some (V.isl (x13.map Enc.enc)):=s189 x3.Complex a3 gx13;have w16:ans A 89 [V.isl (x11.map Enc.enc)]=some (V.int .i64 (x11.length:Int)):=s89 x11 rfl;obtain⟨x17,gx17,hF⟩:=bS hF;have wx17:=chk_w gx17;obtain⟨x18,gx18,hF⟩:=bS hF;have w19:ans A 56 [V.int .i64 a2,V.int .i64 0,V.int .i64 x17]=some (V.bool x18):=s56 a2 0 x17 gx18;cases x18 with
    |true=>
     rw[if_pos rfl]at hF;have w21:ans A 89 [V.isl (x13.map Enc.enc)]=some (V.int .i64 (x13.length:Int)):=s89 x13 rfl;obtain⟨x22,gx22,hF⟩:=bS hF;have wx22:=chk_w gx22;obtain⟨x23,gx23,hF⟩:=bS hF;have w24:ans A 56 [V.int .i64 a4,V.int .i64 0,V.int .i64 x22]=some (V.bool x23):=s56 a4 0 x22 gx23;cases x23 with
     |true=>
      rw[if_pos rfl]at hF;obtain⟨x25,gx25,hF⟩:=bS hF;have wx25:=chk_w gx25;by_cases c26:x5 < x25
      ·rw[if_pos c26]at hF
       cases hF;simp only[simprocAttr,R0,b231,h_0,w2,w4,w6,w8,w10,w12,w14,w16,wx17,w19,w21,wx22,w24,wx25,eq_true c26];exact fin_ret (by simp only[simprocAttr,R0,fn_out,p231,Rs.ev,take_len_self,h_0,w2,w4,w6,w8,w10,w12,w14,w16,wx17,w19,w21,wx22,w24,wx25,eq_true c26])
      ·rw[if_neg c26]at hF
       obtain⟨x27,gx27,hF⟩:=bS hF;obtain⟨w28a,w28b⟩:=getI_w gx27;obtain⟨x29,gx29,hF⟩:=bS hF;have w30:ans A 256 [V.agg (ceGDga a0),V.int .i64 a1,V.isl (x27.map Enc.enc)]=some (V.agg (arc .u8 8 x29.val)):=s256 a0 a1 x27 gx29;obtain⟨x31,gx31,hF⟩:=bS hF;obtain⟨w32a,w32b⟩:=getI_w gx31;obtain⟨x33,gx33,hF⟩:=bS hF;have w34:ans A 256 [V.agg (ceGDga a0),V.int .i64 a3,V.isl (x31.map Enc.enc)]=some (V.agg (arc .u8 8 x33.val)):=s256 a0 a3 x31 gx33;obtain⟨x35,gx35,hF⟩:=bS hF;have w36:ans A 177 [V.agg (ceGDga a0),V.agg (arc .u8 8 x29.val),V.agg (arc .u8 8 x33.val)]=some (V.agg (arc .u8 8 x35.val)):=s177 a0 x29 x33 gx35;obtain⟨x37,gx37,hF⟩:=bS hF;have w38:ans A 257 [V.agg (ceGDga a0),V.int .i64 x25,V.agg (arc .u8 8 x35.val)]=some (V.isl (x37.map Enc.enc)):=s257 a0 x25 x35 gx37;have w39:ofCells none (ceGDga a0)=some (V.int .i64 a0.Prime):=by first|exact ceGDga_Prime_one (a:=_) rfl|(simp only[List.drop_drop]; exact ceGDga_Prime_one (by omega))|(show ofCells none (List.drop 0 _)=_; exact ceGDga_Prime_one rfl)
       obtain⟨x40,gx40,hF⟩:=bS hF;have w41:ans A 189 [(eC x3.Complex),V.int .i64 x25]=some (V.isl (x40.map Enc.enc)):=s189 x3.Complex x25 gx40;obtain⟨x42,gx42,hF⟩:=bS hF;have w43:ans A 186 [(eC x3.Complex),V.int .i64 x25]=some (V.isl (x42.map Enc.enc)):=s186 x3.Complex x25 gx42;obtain⟨x44,gx44,hF⟩:=bS hF;have w45:tans A 188 [1] [V.int .i64 a0.Prime,V.isl (x37.map Enc.enc),V.isl (x40.map Enc.enc),V.isl (x42.map Enc.enc)]=some (V.isl (x44.map Enc.enc)):=t188 a0.Prime x37 x40 x42 gx44;have w45t:=thaw_one (α:=Int) x44;cases hF;simp only[simprocAttr,R0,b231,h_0,w2,w4,w6,w8,w10,w12,w14,w16,wx17,w19,w21,wx22,w24,wx25,eq_false c26,w28a,w28b,w30,w32a,w32b,w34,w36,w38,w39,w41,w43,w45,w45t];exact fin_ret (by simp only[simprocAttr,R0,fn_out,p231,Rs.ev,take_len_self,h_0,w2,w4,w6,w8,w10,w12,w14,w16,wx17,w19,w21,wx22,w24,wx25,eq_false c26,w28a,w28b,w30,w32a,w32b,w34,w36,w38,w39,w41,w43,w45,w45t,frzs (α:=Int) x44,takes (α:=Int) x44])
     |false=>
      rw[if_neg Bool.false_ne_true]at hF;cases hF;simp only[simprocAttr,R0,b231,h_0,w2,w4,w6,w8,w10,w12,w14,w16,wx17,w19,w21,wx22,w24];exact fin_ret (by simp only[simprocAttr,R0,fn_out,p231,Rs.ev,take_len_self,h_0,w2,w4,w6,w8,w10,w12,w14,w16,wx17,w19,w21,wx22,w24])
    |false=>
     rw[if_neg Bool.false_ne_true]at hF;cases hF;simp only[simprocAttr,R0,b231,h_0,w2,w4,w6,w8,w10,w12,w14,w16,wx17,w19];exact fin_ret (by simp only[simprocAttr,R0,fn_out,p231,Rs.ev,take_len_self,h_0,w2,w4,w6,w8,w10,w12,w14,w16,wx17,w19])
   |false=>
    rw[if_neg Bool.false_ne_true]at hF;cases hF;simp only[simprocAttr,R0,b231,h_0,w2,w4,w6,w8,w10];exact fin_ret (by simp only[simprocAttr,R0,fn_out,p231,Rs.ev,take_len_self,h_0,w2,w4,w6,w8,w10])
  |false=>
   rw[if_neg Bool.false_ne_true]at hF;cases hF;simp only[simprocAttr,R0,b231,h_0,w2,w4,w6,w8];exact fin_ret (by simp only[simprocAttr,R0,fn_out,p231,Rs.ev,take_len_self,h_0,w2,w4,w6,w8])
 |false=>
  rw[if_neg Bool.false_ne_true]at hF;cases hF;simp only[simprocAttr,R0,b231,h_0,w2];exact fin_ret (by simp only[simprocAttr,R0,fn_out,p231,Rs.ev,take_len_self,h_0,w2])
set_option maxHeartbeats 8000000 in
theorem t231(a0:GDga)(a1:Int)(a2:Int)(a3:Int)(a4:Int){r:T2 (List Int) Int}(hF:F231 a0 a1 a2 a3 a4=some r):tans A 231 [1] [V.agg (ceGDga a0),V.int .i64 a1,V.int .i64 a2,V.int .i64 a3,V.int .i64 a4]=some (EncR.enc r):=by
 refine tans_of (f:=p231) rfl rfl rfl fun e hl he=>?_;have h0_0:e.at 0=V.agg (ceGDga a0):=he 0 _ rfl;have h1_0:e.at 1=V.int .i64 a1:=he 1 _ rfl;have h2_0:e.at 2=V.int .i64 a2:=he 2 _ rfl;have h3_0:e.at 3=V.int .i64 a3:=he 3 _ rfl;have h4_0:e.at 4=V.int .i64 a4:=he 4 _ rfl;have hl_0:e.length=97:=hl;clear he hl;have h_0:=ai hl_0 (ai h0_0 (ai h1_0 (ai h2_0 (ai h3_0 h4_0))));show W A b231 e ⟨[],0⟩ _;unfold F231 at hF;obtain⟨x1,gx1,hF⟩:=bS hF;have w2:ans A 157 [V.agg (ceGDga a0)]=some (V.bool x1):=s157 a0 gx1;cases x1 with
 |true=>
  rw[if_pos rfl]at hF;obtain⟨x3,gx3,hF⟩:=bS hF;have w4:ans A 36 [V.agg (ceGDga a0)]=some ((eF x3)):=s36 a0 gx3;obtain⟨x5,gx5,hF⟩:=bS hF;have w6:ans A 86 [(eC x3.Complex)]=some (V.int .i64 x5):=s86 x3.Complex gx5;obtain⟨x7,gx7,hF⟩:=bS hF;have w8:ans A 56 [V.int .i64 a1,V.int .i64 0,V.int .i64 x5]=some (V.bool x7):=s56 a1 0 x5 gx7;cases x7 with
  |true=>
   rw[if_pos rfl]at hF;obtain⟨x9,gx9,hF⟩:=bS hF;have w10:ans A 56 [V.int .i64 a3,V.int .i64 0,V.int .i64 x5]=some (V.bool x9):=s56 a3 0 x5 gx9;cases x9 with
   |true=>
    rw[if_pos rfl]at hF;obtain⟨x11,gx11,hF⟩:=bS hF;have w12:ans A 189 [(eC x3.Complex),V.int .i64 a1]=some (V.isl (x11.map Enc.enc)):=s189 x3.Complex a1 gx11;obtain⟨x13,gx13,hF⟩:=bS hF;have w14:ans A 189 [(eC x3.Complex),V.int .i64 a3]=some (V.isl (x13.map Enc.enc)):=s189 x3.Complex a3 gx13;have w16:ans A 89 [V.isl (x11.map Enc.enc)]=some (V.int .i64 (x11.length:Int)):=s89 x11 rfl;obtain⟨x17,gx17,hF⟩:=bS hF;have wx17:=chk_w gx17;obtain⟨x18,gx18,hF⟩:=bS hF;have w19:ans A 56 [V.int .i64 a2,V.int .i64 0,V.int .i64 x17]=some (V.bool x18):=s56 a2 0 x17 gx18;cases x18 with
    |true=>
     rw[if_pos rfl]at hF;have w21:ans A 89 [V.isl (x13.map Enc.enc)]=some (V.int .i64 (x13.length:Int)):=s89 x13 rfl;obtain⟨x22,gx22,hF⟩:=bS hF;have wx22:=chk_w gx22;obtain⟨x23,gx23,hF⟩:=bS hF;have w24:ans A 56 [V.int .i64 a4,V.int .i64 0,V.int .i64 x22]=some (V.bool x23):=s56 a4 0 x22 gx23;cases x23 with
     |true=>
      rw[if_pos rfl]at hF;obtain⟨x25,gx25,hF⟩:=bS hF;have wx25:=chk_w gx25;by_cases c26:x5 < x25
      ·rw[if_pos c26]at hF
       cases hF;simp only[simprocAttr,R0,b231,h_0,w2,w4,w6,w8,w10,w12,w14,w16,wx17,w19,w21,wx22,w24,wx25,eq_true c26];exact tfin_ret (by simp only[simprocAttr,R0,fn_out,p231,Rs.ev,take_len_self,h_0,w2,w4,w6,w8,w10,w12,w14,w16,wx17,w19,w21,wx22,w24,wx25,eq_true c26])
      ·rw[if_neg c26]at hF
       obtain⟨x27,gx27,hF⟩:=bS hF;obtain⟨w28a,w28b⟩:=getI_w gx27;obtain⟨x29,gx29,hF⟩:=bS hF;have w30:ans A 256 [V.agg (ceGDga a0),V.int .i64 a1,V.isl (x27.map Enc.enc)]=some (V.agg (arc .u8 8 x29.val)):=s256 a0 a1 x27 gx29;obtain⟨x31,gx31,hF⟩:=bS hF;obtain⟨w32a,w32b⟩:=getI_w gx31;obtain⟨x33,gx33,hF⟩:=bS hF;have w34:ans A 256 [V.agg (ceGDga a0),V.int .i64 a3,V.isl (x31.map Enc.enc)]=some (V.agg (arc .u8 8 x33.val)):=s256 a0 a3 x31 gx33;obtain⟨x35,gx35,hF⟩:=bS hF;have w36:ans A 177 [V.agg (ceGDga a0),V.agg (arc .u8 8 x29.val),V.agg (arc .u8 8 x33.val)]=some (V.agg (arc .u8 8 x35.val)):=s177 a0 x29 x33 gx35;obtain⟨x37,gx37,hF⟩:=bS hF;have w38:ans A 257 [V.agg (ceGDga a0),V.int .i64 x25,V.agg (arc .u8 8 x35.val)]=some (V.isl (x37.map Enc.enc)):=s257 a0 x25 x35 gx37;have w39:ofCells none (ceGDga a0)=some (V.int .i64 a0.Prime):=by first|exact ceGDga_Prime_one (a:=_) rfl|(simp only[List.drop_drop]; exact ceGDga_Prime_one (by omega))|(show ofCells none (List.drop 0 _)=_; exact ceGDga_Prime_one rfl)
       obtain⟨x40,gx40,hF⟩:=bS hF;have w41:ans A 189 [(eC x3.Complex),V.int .i64 x25]=some (V.isl (x40.map Enc.enc)):=s189 x3.Complex x25 gx40;obtain⟨x42,gx42,hF⟩:=bS hF;have w43:ans A 186 [(eC x3.Complex),V.int .i64 x25]=some (V.isl (x42.map Enc.enc)):=s186 x3.Complex x25 gx42;obtain⟨x44,gx44,hF⟩:=bS hF;have w45:tans A 188 [1] [V.int .i64 a0.Prime,V.isl (x37.map Enc.enc),V.isl (x40.map Enc.enc),V.isl (x42.map Enc.enc)]=some (V.isl (x44.map Enc.enc)):=t188 a0.Prime x37 x40 x42 gx44;have w45t:=thaw_one (α:=Int) x44;cases hF;simp only[simprocAttr,R0,b231,h_0,w2,w4,w6,w8,w10,w12,w14,w16,wx17,w19,w21,wx22,w24,wx25,eq_false c26,w28a,w28b,w30,w32a,w32b,w34,w36,w38,w39,w41,w43,w45,w45t];exact tfin_ret (by simp only[simprocAttr,R0,fn_out,p231,Rs.ev,take_len_self,h_0,w2,w4,w6,w8,w10,w12,w14,w16,wx17,w19,w21,wx22,w24,wx25,eq_false c26,w28a,w28b,w30,w32a,w32b,w34,w36,w38,w39,w41,w43,w45,w45t,frzs (α:=Int) x44,takes (α:=Int) x44])
     |false=>
      rw[if_neg Bool.false_ne_true]at hF;cases hF;simp only[simprocAttr,R0,b231,h_0,w2,w4,w6,w8,w10,w12,w14,w16,wx17,w19,w21,wx22,w24];exact tfin_ret (by simp only[simprocAttr,R0,fn_out,p231,Rs.ev,take_len_self,h_0,w2,w4,w6,w8,w10,w12,w14,w16,wx17,w19,w21,wx22,w24])
    |false=>
     rw[if_neg Bool.false_ne_true]at hF;cases hF;simp only[simprocAttr,R0,b231,h_0,w2,w4,w6,w8,w10,w12,w14,w16,wx17,w19];exact tfin_ret (by simp only[simprocAttr,R0,fn_out,p231,Rs.ev,take_len_self,h_0,w2,w4,w6,w8,w10,w12,w14,w16,wx17,w19])
   |false=>
    rw[if_neg Bool.false_ne_true]at hF;cases hF;simp only[simprocAttr,R0,b231,h_0,w2,w4,w6,w8,w10];exact tfin_ret (by simp only[simprocAttr,R0,fn_out,p231,Rs.ev,take_len_self,h_0,w2,w4,w6,w8,w10])
  |false=>
   rw[if_neg Bool.false_ne_true]at hF;cases hF;simp only[simprocAttr,R0,b231,h_0,w2,w4,w6,w8];exact tfin_ret (by simp only[simprocAttr,R0,fn_out,p231,Rs.ev,take_len_self,h_0,w2,w4,w6,w8])
 |false=>
  rw[if_neg Bool.false_ne_true]at hF;cases hF;simp only[simprocAttr,R0,b231,h_0,w2];exact tfin_ret (by simp only[simprocAttr,R0,fn_out,p231,Rs.ev,take_len_self,h_0,w2])
def L318(a0:GDga)(a1:Int)(a2:Int)(a3:Int)(a4:Int):Prop:=
 (∃ (s0:GDga) (w:List Int) (cd:Int) (mg:List Int×Int),F229 a0=some s0∧F230 s0 a1 a2 a3 a4=some ⟨w,cd⟩∧F231 s0 a1 a2 a3 a4=some ⟨w,cd⟩∧F30 w w=some true∧FM31 w 1=some mg∧F32 mg.1 1=some mg.2∧¬mg.2 < 0)
theorem s318(a0:GDga)(a1:Int)(a2:Int)(a3:Int)(a4:Int)(hF:L318 a0 a1 a2 a3 a4):ans A 318 [V.agg (ceGDga a0),V.int .i64 a1,V.int .i64 a2,V.int .i64 a3,V.int .i64 a4]=some (V.bool true):=by
 refine ans_of (f:=p318) rfl rfl rfl fun e hl he=>?_;have h0_0:e.at 0=V.agg (ceGDga a0):=he 0 _ rfl;have h1_0:e.at 1=V.int .i64 a1:=he 1 _ rfl;have h2_0:e.at 2=V.int .i64 a2:=he 2 _ rfl;have h3_0:e.at 3=V.int .i64 a3:=he 3 _ rfl;have h4_0:e.at 4=V.int .i64 a4:=he 4 _ rfl;have hl_0:e.length=86:=hl;clear he hl;show W A b318 e ⟨[],0⟩ _;rcases hF with⟨s0,w,cd,mg,t0,gs,gi,ge,gm,gh,cg⟩
 ·have u0:ans A 229 [V.agg (ceGDga a0)]=some (V.agg (ceGDga s0)):=s229 a0 t0
  have us:ans A 230 [V.agg (ceGDga s0),V.int .i64 a1,V.int .i64 a2,V.int .i64 a3,V.int .i64 a4]=some (V.tup [V.isl (w.map Enc.enc),V.int .i64 cd]):=s230 s0 a1 a2 a3 a4 gs;have ui:ans A 231 [V.agg (ceGDga s0),V.int .i64 a1,V.int .i64 a2,V.int .i64 a3,V.int .i64 a4]=some (V.tup [V.isl (w.map Enc.enc),V.int .i64 cd]):=s231 s0 a1 a2 a3 a4 gi;have xi:tans A 231 [1] [V.agg (ceGDga s0),V.int .i64 a1,V.int .i64 a2,V.int .i64 a3,V.int .i64 a4]=some (V.tup [V.isl (w.map Enc.enc),V.int .i64 cd]):=t231 s0 a1 a2 a3 a4 gi;have ue:ans A 30 [V.isl (w.map Enc.enc),V.isl (w.map Enc.enc)]=some (V.bool true):=s30 w w ge;have bw:bare 16 [1] (V.tup [V.isl (w.map Enc.enc),V.int .i64 cd])=true:=bare_tup (l:=[⟨w⟩,⟨cd⟩]) (fits_pair rfl (by decide));obtain⟨vg,⟨E_1,c_2⟩,K_3,t_5,r_4,b_6,le_7,o_8⟩:=thawP (α:=List Int) (s:=1) (ss:=[]) (by decide) w cd ⟨[(0,none)],1⟩;obtain⟨oneg,oneg_t⟩:=rep_one r_4;simp only[le1,List.length_cons,List.length_nil,Nat.zero_add,Nat.reduceAdd]at b_6 le_7 o_8;have t_5':thaw 16 [1] (V.tup [V.isl (w.map Enc.enc),V.int .i64 cd]) ⟨[(0,none)],1⟩=some (V.tup [vg,V.int .i64 cd],⟨E_1,c_2⟩):=t_5;have z_9:=Deep.fz r_4 11;have z_9':frz ⟨E_1,c_2⟩ 16 vg=some (V.isl (w.map Enc.enc)):=z_9;have z_10:=Deep.fz r_4 11;have z_10':frz ⟨E_1,c_2⟩ 16 vg=some (V.isl (w.map Enc.enc)):=z_10;obtain⟨⟨E_11,c_12⟩,w_13,r_14,o_16,le_15⟩:=dm31 gm _ r_4
  try simp only[le1]at o_16 le_15
  have z_17:=Deep.fz r_14 11;have z_17':frz ⟨E_11,c_12⟩ 16 vg=some (V.isl (List.map Enc.enc mg.1)):=z_17;have uh:ans A 32 [V.isl (List.map Enc.enc mg.1),V.int .i64 1]=some (V.int .i64 mg.2):=s32 mg.1 1 gh;simp only[simprocAttr,R0,b318,hl_0,h0_0,h1_0,h2_0,h3_0,h4_0,callM_tans,callM_plain_eq,get_last,set_last,le1,u0,us,ui,xi,ue,bw,oneg,oneg_t,t_5',z_9',z_10',w_13,z_17',uh,eq_false cg];exact fin_ret (by simp only[simprocAttr,R0,fn_out,p318,Rs.ev,take_len_self,hl_0])
end
end Rv
