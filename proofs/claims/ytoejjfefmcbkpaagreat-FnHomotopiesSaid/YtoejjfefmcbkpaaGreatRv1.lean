/- An abstract machine for translated code, proved to answer as the code does: part 2 -/
import Derived.Test.YtoejjfefmcbkpaaGreatRv0
import Derived.Laws.Sem
import Derived.Control
set_option linter.unusedVariables false
set_option linter.unusedSimpArgs false
namespace Rv
open Go (IntKind BinOp UnOp Program Value Operand Oper Code TypeId Func World Addr Obj Act Calls execOp)
variable {tbl:Nat→Option Nat} {P:Program}
def jD(P:Program)(tbl:Nat→Option Nat)(call:Call):Prop:=
 ∀g args h r h',call g args h=some (r,h')→∀f,tbl f=some g→∀ι I w (cargs:List Value),St tbl ι I h w→zM ι h→RVs tbl ι I args cargs→
  Calls P f cargs.toArray w fun e w'=>∃c κ J,e= .returned c∧Post tbl ι I h w κ J h' w'∧RV tbl κ J r c
theorem st_more{ι:Iota}{I J:Imm}{h:Heap}{w w':World}(hs:St tbl ι I h w)(hb:Go.RowKit.Below w.heap.size w w')(hI:I.le J)(h1:∀b o v,J b o=some v→w'.cell? ⟨b,o,none⟩=some v)
  (h2:∀b o v,J b o=some v→I b o=some v∨w.heap.size≤b):St tbl ι J h w':=by
 refine⟨fun key uid cs l a b=>?_,hs.sep,h1,fun b o v hv hO=>?_⟩
 ·have hL:=hs.ent key uid cs l a b
  exact hL.mono (Iota.le_refl _) hI (hb.block _ hL.size)
 ·rcases h2 b o v hv with h3|h3
  ·exact hs.immsep b o v h3 hO
  ·obtain⟨key,uid,cs,l,a,c,d,_⟩:=hO
   have:=(hs.ent key uid cs l a c).size;omega
def fresh1(I:Imm)(b0:Nat)(arr:Array Value):Imm:=fun b i=>
 match I b i with
 |some v=> some v
 |none=> if b=b0 then arr[i]? else none
theorem fresh1_le(I:Imm)(b0:Nat)(arr:Array Value):I.le (fresh1 I b0 arr):=by
 intro b o v hv; unfold fresh1; rw[hv]
theorem lit_refless{v:V}(h:v.lit=true):qo FZ v=true:=by cases v <;> first|rfl|cases h
theorem lit_cells{v:V}(h:v.lit=true):v.cells=[v]:=by cases v <;> first|rfl|cases h
theorem q_blit{call:Call}{ι:Iota}{I:Imm}{h h':Heap}{w:World}{e:Env}{a:Act}{v:V}{dst:Option Nat}{ty:TypeId}{pos:String}{af:Array Go.Edge}{gd:Option (Nat×Bool)}(hs:St tbl ι I h w)(he:RVe tbl ι I e a.tmps){t el:TypeId}{i:Go.TypeInfo}{n:Nat}{ps:Array (Nat×Operand)}{z:List V}{l:List (Nat×Nat×X)}(ht:P.underlying t=some (.slice el))(hi:P.info? el=some i)(hz:ju P tbl el=some z)
  (hzl:z.length=i.size) (h0:0 < i.size) (hle:n*i.size≤2^20)
  (hm:mapO (fun(p:Nat×Operand)=> match(some (p.1*i.size,i.size):Option (Nat×Nat)),qO tbl p.2 with|some (a,b),some x=> some (a,b,x)|_,_=> none) ps.toList=some l)
  (hev:opEv call (.blit i.size n ((List.replicate n z).flatten) l) e h=some (v,h')):QRes P tbl ι I h w a ⟨dst,.buildSlice t n ps,ty,pos,af,gd⟩ v h':=by
 obtain⟨j,zv,hj,hzv,h2,h3⟩:=zt hz;rw[hi]at hj;cases hj;have hzs:zv.cells.size=i.size:=by rw[←wJ,(h2 I).len,hzl]
 simp only[opEv]at hev;split at hev
 ·rename_i cs hcs
  split at hev
  ·rename_i hlit
   obtain⟨rfl,rfl⟩:=qd hev;have hbase:((Array.range (n*i.size)).map fun q=> zv.cells[q% zv.cells.size]!).toList=(List.replicate n zv.cells.toList).flatten:=by
    have:=jp zv.cells (by omega) n;rw[←this,hzs]; simp
   obtain⟨arr,h4,h5,h6⟩:=fill_run (I:=I) he (fun q=> some (q*i.size,i.size)) ps.toList l _ cs ((Array.range (n*i.size)).map fun q=> zv.cells[q% zv.cells.size]!) hm
    (by rw[hbase]; exact zL (h2 I).rv n) (by rw[hbase]; exact zR h3 n) hcs
   have hal:arr.size=n*i.size:=by
    have:arr.toList.length=cs.length:=h5.len;have h7:=xf hcs;rw[←wJ,this,h7];simp[hzl]
   have hcl:cs.length=n*i.size:=by rw[←hal,←wJ]; exact h5.len.symm
   have hb:=below_push w (.cells arr el) w.drawn;have hcell:∀q v,arr[q]? =some v→World.cell? {w with heap:=w.heap.push (.cells arr el),drawn:=w.drawn} ⟨w.heap.size,q,none⟩=some v:=fun q v hq=> by
    simp[World.cell?,hq]
   have hnone:∀q,I w.heap.size q=none:=fun q=> by
    cases hI:I w.heap.size q with
    |none=> rfl
    |some v=>
     have:=World.block_lt_of_cell? w _ (hs.imm _ _ _ hI);simp at this
   have hJ:∀b o v,fresh1 I w.heap.size arr b o=some v→I b o=some v∨(b=w.heap.size∧arr[o]? =some v):=fun b o v hv=> by
    unfold fresh1 at hv;split at hv
    ·rename_i u hu; cases hv; exact .inl hu
    ·split at hv
     ·rename_i hb'; exact .inr ⟨hb',hv⟩
     ·cases hv
   have hst:=st_more (J:=fresh1 I w.heap.size arr) hs hb (fresh1_le _ _ _) (fun b o v hv=> by
    rcases hJ b o v hv with h1|⟨rfl,h1⟩
    ·have h7:=hs.imm b o v h1
     rw[hb.cell (p:=⟨b,o,none⟩) (World.block_lt_of_cell? w _ h7)];exact h7
    ·exact hcell o v h1) (fun b o v hv=> by
    rcases hJ b o v hv with h1|⟨rfl,h1⟩
    ·exact .inl h1
    ·exact .inr (wE _))
   have hp:QPost tbl ι I h' w ι (fresh1 I w.heap.size arr) h' {w with heap:=w.heap.push (.cells arr el),drawn:=w.drawn}:=
    ⟨⟨[],by simp,fun e he=> by simp at he⟩,fun _ _ _=> rfl,wE _,fresh1_le _ _ _,hst,hb,fun _ _ _ h=> .inl h,fun b o v hv=> by
     rcases hJ b o v hv with h1|⟨rfl,h1⟩
     ·exact .inl h1
     ·exact .inr (wE _)⟩
   refine⟨.slice (some ⟨w.heap.size,0,none⟩) n n,_,_,_,?_,hp,?_⟩
   ·have hn:¬(16777216 < n*i.size):=by omega
    rw[←map_pair hs he]at h4;by_cases hne:n*i.size=0
    ·have e1:((Array.range (n*i.size)).map fun q=> zv.cells[q% zv.cells.size]!)= #[]:=by rw[hne]; apply yS; simp
     rw[e1]at h4;simp only[execOp,Go.Instr.buildSlice,wY,wF ht,wM,qE hi];rw[if_neg (by omega),if_pos hne];have e2:((Array.range (n*i.size)).map fun q=>(#[]:Array Value)[q%(#[]:Array Value).size]!)= #[]:=by rw[hne]; apply yS; simp
     simp only[wY,vO,wM,e2,h4,Go.newRow];rfl
    ·simp only[execOp,Go.Instr.buildSlice,wY,wF ht,wM,qE hi]
     rw[if_neg (by omega),if_neg hne];simp only[wY,vO,wM,zm hi hzv,h4,Go.newRow];rfl
   ·rw[wT (by omega)]
    have hall:=fun x hx=> wO.1 hlit.1 x hx;obtain⟨c1,c2,c3⟩:=chunk_spec (sz:=i.size) (n:=n) hcl fun x hx=> lit_cells (hall x hx);have hRI:=RI.isl (tbl:=tbl) (I:=fresh1 I w.heap.size arr) (jn i.size n cs) w.heap.size 0 n i.size arr.toList (by rw[c1]; exact wE _) h0 c3 (by rw[c2,hcl,wJ,hal]) h6
     (fun q v hv=> by
      unfold fresh1;rw[wV,hnone q];simpa using hv)
     (fun q c v hc hv=> by
      rw[c2]at hc;exact(jj FZ c v (h5.at_ q c v hc hv) (lit_refless (hall c (gE hc)))).mono (fresh1_le _ _ _))
    rw[c1]at hRI;exact .imm hRI
  ·cases hev
 ·cases hev
open Classical in
noncomputable def xB(ι:Iota)(I:Imm)(h:Heap)(w:World):Imm:=fun b o=>
 match I b o with
 |some v=> some v
 |none=> if∃ (key uid:Nat) (cs:List V) (l:Loc) (i:Nat),h.ents[key]? =some (uid,some cs)∧ι key uid=some l∧l.b=b∧o=l.o+i∧i < cs.length then w.cell? ⟨b,o,none⟩else none
theorem jW(ι:Iota)(I:Imm)(h:Heap)(w:World):I.le (xB ι I h w):=by
 intro b o v hv;unfold xB;rw[hv]
theorem borrow_cell{ι:Iota}{I:Imm}{h:Heap}{w:World}(hs:∀b o v,I b o=some v→w.cell? ⟨b,o,none⟩=some v){b o:Nat}{v:Value}(hv:xB ι I h w b o=some v):w.cell? ⟨b,o,none⟩=some v:=by
 unfold xB at hv;split at hv
 ·rename_i u hu; cases hv; exact hs _ _ _ hu
 ·split at hv
  ·exact hv
  ·cases hv
theorem xJ{ι:Iota}{I:Imm}{h:Heap}{w:World}(hs:∀b o v,I b o=some v→w.cell? ⟨b,o,none⟩=some v):Borrow ι h w (xB ι I h w):=by
 intro key uid cs l a b i hi;unfold xB;split
 ·rename_i u hu; exact(hs _ _ _ hu).symm
 ·rw[if_pos ⟨key,uid,cs,l,i,a,b,rfl,rfl,hi⟩]
theorem borrow_new{ι:Iota}{I:Imm}{h:Heap}{w:World}(hs:St tbl ι I h w){b o:Nat}{v:Value}(hv:xB ι I h w b o=some v):I b o=some v∨zb ι h b o:=by
 unfold xB at hv;split at hv
 ·rename_i u hu; cases hv; exact .inl hu
 ·split at hv
  ·rename_i hx
   obtain⟨key,uid,cs,l,i,a,b',c,d,e⟩:=hx;have:=(hs.ent key uid cs l a b').ext;exact .inr ⟨key,uid,cs,l,a,b',c,by omega,by omega⟩
  ·cases hv
open Classical in
noncomputable def zA(J:Imm)(w:World)(L:List FL):Imm:=fun b i=>
 match J b i with
 |some v=> some v
 |none=> if∃x∈L,x.1=true∧x.has b i then w.cell? ⟨b,i,none⟩else none
theorem flag_le(J:Imm)(w:World)(L:List FL):J.le (zA J w L):=by
 intro b o v hv;unfold zA;rw[hv]
theorem flag_cell{J:Imm}{w:World}{L:List FL}(hs:∀b o v,J b o=some v→w.cell? ⟨b,o,none⟩=some v){b o:Nat}{v:Value}(hv:zA J w L b o=some v):w.cell? ⟨b,o,none⟩=some v:=by
 unfold zA at hv;split at hv
 ·rename_i u hu; cases hv; exact hs _ _ _ hu
 ·split at hv
  ·exact hv
  ·cases hv
theorem flag_cover{J:Imm}{w:World}{L:List FL}(hs:∀b o v,J b o=some v→w.cell? ⟨b,o,none⟩=some v):Cover (zA J w L) w L:=by
 intro x hx hf b i v hb hv;unfold zA;split
 ·rename_i u hu; rw[←hs _ _ _ hu]; exact hv
 ·rw[if_pos ⟨x,hx,hf,hb⟩]; exact hv
theorem flag_new{J:Imm}{w:World}{L:List FL}{b o:Nat}{v:Value}(hv:zA J w L b o=some v):J b o=some v∨∃x∈L,x.1=true∧x.has b o:=by
 unfold zA at hv;split at hv
 ·rename_i u hu; cases hv; exact .inl hu
 ·split at hv
  ·rename_i hx; exact .inr hx
  ·cases hv
def Iota.none:Iota:=fun _ _=> Option.none
theorem st_none{I:Imm}{w:World}(h:∀b o v,I b o=some v→w.cell? ⟨b,o,none⟩=some v)(hh:Heap):St tbl Iota.none I hh w:=
 ⟨(fun _ _ _ _ _ b=> nomatch b),(fun _ _ _ _ _ _ _ _ _ b=> nomatch b),h,(fun _ _ _ _ ⟨_,_,_,_,_,b,_⟩=> nomatch b)⟩
theorem RIs.none{I:Imm}{xs:List V}{vs:List Value}(h:RIs tbl I xs vs):RVs tbl Iota.none I xs vs:=h.mono fun _ _=> .imm
theorem bare_own{I J:Imm}{w:World}:∀ (f:Nat) (ss:List Nat) (T:V) (c:Value) (L:List FL),bare f ss T=true→Own tbl w I ss T c L→Own tbl w J ss T c L∧∀x∈L,x.1=false:=by
 intro f;induction f with
 |zero=> intro ss T c L h; simp[bare]at h
 |succ f ih=>
  intro ss T c L hb hO;have hlist:∀ {ss':List Nat} {xs:List V} {vs:List Value} {Ls:List (List FL)},xs.all (bare f ss')=true→vs.length=xs.length→Ls.length=xs.length→(∀ (i:Nat) c v L,xs[i]? =some c→vs[i]? =some v→Ls[i]? =some L→Own tbl w I ss' c v L)→
    (∀ (i:Nat) c v L,xs[i]? =some c→vs[i]? =some v→Ls[i]? =some L→Own tbl w J ss' c v L)∧∀x∈Ls.flatten,x.1=false:=by
   intro ss' xs vs Ls ha hl hL hr;refine⟨fun i c v L p q r=>(ih ss' c v L (wO.1 ha c (gE p)) (hr i c v L p q r)).1,fun x hx=>?_⟩;obtain⟨L,hLm,hxL⟩:=yX.1 hx;obtain⟨i,hi⟩:=gR hLm;have hlt:=gA hi;have p:xs[i]? =some xs[i]:=by rw[gB (by omega)]
   have q:vs[i]? =some vs[i]:=by rw[gB (by omega)]
   exact(ih ss' _ _ L (wO.1 ha _ (gE p)) (hr i _ _ L p q hi)).2 x hxL
  cases hO with
  |leaf v c h=>
   cases h with
   |int k n=> exact⟨.int _ _ _,fun x hx=> by simp at hx⟩
   |bool b=> exact⟨.bool _ _,fun x hx=> by simp at hx⟩
   |str s l h=> exact⟨.str _ _ s h,fun x hx=> by simp at hx⟩
   |nils=> exact⟨.nils _,fun x hx=> by simp at hx⟩
   |agg cs vs hl ho hr=>
    simp only[bare]at hb;have:=hlist (ss':=[]) (Ls:=cs.map fun _=>[]) hb hl (by simp) (fun i c v L p q r=> by
     rw[gG]at r;rw[p]at r; cases r;exact .leaf _ _ (hr i c v p q))
    have hO:=Own.agg (tbl:=tbl) (w:=w) (I:=J) [] cs vs (cs.map fun _=>[]) hl (by simp) ho this.1;have e:(cs.map fun _=>([]:List FL)).flatten=[]:=by simp
    rw[e]at hO;exact⟨hO,fun x hx=> by simp at hx⟩
   |tup cs vs hl hr=>
    simp only[bare]at hb;have:=hlist (ss':=[]) (Ls:=cs.map fun _=>[]) hb hl (by simp) (fun i c v L p q r=> by
     rw[gG]at r;rw[p]at r; cases r;exact .leaf _ _ (hr i c v p q))
    have hO:=Own.tup (tbl:=tbl) (w:=w) (I:=J) [] cs vs (cs.map fun _=>[]) hl (by simp) this.1;have e:(cs.map fun _=>([]:List FL)).flatten=[]:=by simp
    rw[e]at hO;exact⟨hO,fun x hx=> by simp at hx⟩
   |_=> simp[bare]at hb
  |int ss k n=> exact⟨.int _ _ _,fun x hx=> by simp at hx⟩
  |bool ss b=> exact⟨.bool _ _,fun x hx=> by simp at hx⟩
  |str ss l s h=> exact⟨.str _ _ s h,fun x hx=> by simp at hx⟩
  |nil ss a=> exact⟨.nil _ _,fun x hx=> by simp at hx⟩
  |nils ss=> exact⟨.nils _,fun x hx=> by simp at hx⟩
  |kept q qs v c h=> simp[bare]at hb
  |sl ss xs b o cap s vs Ls hs hc hz hx hl hL ho hi hr=>
   cases ss with
   |nil=> simp[bare]at hb
   |cons q qs=>
    simp only[bare]at hb;have:=hlist hb hl hL hr;refine⟨.sl _ _ _ _ _ _ _ _ hs hc hz hx hl hL ho hi this.1,fun x hx'=>?_⟩;rcases vA.1 hx' with rfl|hx'
    ·rfl
    ·exact this.2 x hx'
  |ptr=> simp[bare]at hb
  |agg ss cs vs Ls hl hL ho hr=>
   have hb':cs.all (bare f ss)=true:=by cases ss <;> simpa[bare]using hb
   have:=hlist hb' hl hL hr;exact⟨.agg _ _ _ _ hl hL ho this.1,this.2⟩
  |tup ss cs vs Ls hl hL hr=>
   have hb':cs.all (bare f ss)=true:=by cases ss <;> simpa[bare]using hb
   have:=hlist hb' hl hL hr;exact⟨.tup _ _ _ _ hl hL this.1,this.2⟩
theorem frz_refless{I:Imm}{w:World}{h:Heap}(hI:∀b o v,I b o=some v→w.cell? ⟨b,o,none⟩=some v){ι:Iota}{f g:Nat}{v d:V}{c:Value}(hr:RV tbl ι I v c)(hf:qo g v=true)(hz:frz h f v=some d):RI tbl I d c:=
 frz_ri (ι:=Iota.none) (I:=I) (J:=I) (st_none hI h) (Imm.le_refl _) (fun _ _ _ _ _ b=> nomatch b) f v c d (.imm (jj g v c hr hf)) hz
theorem frz_args{ι:Iota}{I J:Imm}{h:Heap}{w:World}(hs:St tbl ι I h w)(hJ:I.le J)(hB:Borrow ι h w J){args as:List V}{cs:List Value}(hr:RVs tbl ι I args cs)(hm:mapO (frz h FZ) args=some as):RIs tbl J as cs:=
 mapO_P2 hm hr fun x y z hy hz=> frz_ri hs hJ hB FZ x z y hz hy
theorem pair_ne:∀ {L:List FL} {x y:FL},L.Pairwise Disj→x∈L→y∈L→x≠y→Disj x y:=by
 intro L x y hp hx hy hne;induction L with
 |nil=> cases hx
 |cons a t ih=>
  rw[vG]at hp;rcases vA.1 hx with hx'|hx'
  ·rcases vA.1 hy with hy'|hy'
   ·exact absurd (hx'.trans hy'.symm) hne
   ·rw[hx']; exact hp.1 y hy'
  ·rcases vA.1 hy with hy'|hy'
   ·rw[hy']; exact fun b i h1 h2=> hp.1 x hx' b i h2 h1
   ·exact ih hp.2 hx' hy'
theorem callM_pure{call:Call}(hcall:jD P tbl call){ds:List Nat}{g:Nat}{args:List V}{h h':Heap}{r:V}(hev:zY call (.pure ds) g args h=some (r,h')){f:Nat}(hf:tbl f=some g){ι:Iota}{I:Imm}{w:World}{cargs:List Value}
  (hs:St tbl ι I h w) (hfr:∀k u,h.clk≤u→u < h'.clk→ι k u=none) (hr:RVs tbl ι I args cargs):
  Calls P f cargs.toArray w fun e w'=>∃c κ J,e= .returned c∧QPost tbl ι I h w κ J h' w'∧RV tbl κ J r c:=by
 simp only[zY]at hev;split at hev
 ·cases hev
 ·rename_i as hm
  split at hev
  ·cases hev
  ·rename_i r1 h1 hc
   -- the arguments as trees
   have main:∀ (J:Imm),I.le J→(∀b o v,J b o=some v→w.cell? ⟨b,o,none⟩=some v)→RIs tbl J as cargs→(args.all (qo FZ)=true→J=I)→
     Calls P f cargs.toArray w fun e w'=>∃c κ J,e= .returned c∧QPost tbl ι I h w κ J h' w'∧RV tbl κ J r c:=by
    intro J hJ hJc hJa hJI;refine(hcall g as Heap.empty r1 h1 hc f hf Iota.none J w cargs (st_none hJc _) (fun _ _ _=> rfl) hJa.none).mono ?_;rintro e w1 ⟨c,κ1,J1,rfl,hp,hr1⟩;have hbel:Go.RowKit.Below w.heap.size w w1:=⟨hp.frm.os,hp.frm.tape,hp.frm.output,hp.frm.size,fun b hb=> hp.frm.block b hb (fun i ⟨_,_,_,_,_,b,_⟩=> nomatch b)⟩;have hnoOwn:∀b i,¬zb Iota.none Heap.empty b i:=fun b i ⟨_,_,_,_,_,b,_⟩=> nomatch b;have hown1:∀b i,zb κ1 h1 b i→w.heap.size≤b:=fun b i ho=>(hp.own b i ho).resolve_left (hnoOwn b i);have himm1:∀b i v,J1 b i=some v→J b i=some v∨w.heap.size≤b:=fun b i v hv=> by
     rcases hp.immnew b i v hv with h1|h1|h1
     ·exact .inl h1
     ·exact absurd h1 (hnoOwn b i)
     ·exact .inr h1
    have hIw:∀b o v,I b o=some v→w1.cell? ⟨b,o,none⟩=some v:=fun b o v hv=> by
     have:=hs.imm b o v hv;rw[hbel.cell (p:=⟨b,o,none⟩) (World.block_lt_of_cell? w _ this)];exact this
    have hstI:St tbl ι I h w1:=st_more hs hbel (Imm.le_refl _) hIw (fun b o v hv=> .inl hv);cases ds with
    |nil=>
     simp only at hev;split at hev
     ·rename_i t ht
      split at hev
      ·rename_i hcond
       obtain⟨rfl,rfl⟩:=qd hev;have hJ2:=frz_ri hp.st (jW κ1 J1 h1 w1) (xJ hp.st.imm) FZ r1 c r hr1 ht;by_cases hrf:args.all (qo FZ)=true
       ·have hJe:=hJI hrf
        subst hJe;have hle:J.le (xB κ1 J1 h1 w1):=Imm.le_trans hp.imm (jW κ1 J1 h1 w1);have hnew:∀b o v,xB κ1 J1 h1 w1 b o=some v→J b o=some v∨w.heap.size≤b:=fun b o v hv=> by
         rcases borrow_new hp.st hv with h2|h2
         ·exact himm1 b o v h2
         ·exact .inr (hown1 b o h2)
        exact⟨c,ι,xB κ1 J1 h1 w1,rfl,⟨⟨[],by simp,fun e he=> by simp at he⟩,fun _ _ _=> rfl,wE _,hle,
         st_more hs hbel hle (fun b o v hv=> borrow_cell hp.st.imm hv) hnew,hbel,fun _ _ _ h=> .inl h,hnew⟩,.imm hJ2⟩
       ·have hb:bare FZ [] r=true:=by
         rcases yC _ _▸hcond with h2|h2
         ·exact absurd h2 hrf
         ·exact h2
        have hO:=bare_own (w:=w1) (J:=I) FZ [] r c [] hb (Own.leaf r c hJ2);refine⟨c,ι,I,rfl,⟨⟨[],by simp,fun e he=> by simp at he⟩,fun _ _ _=> rfl,wE _,Imm.le_refl _,hstI,hbel,fun _ _ _ h=> .inl h,fun _ _ _ h=> .inl h⟩,.imm ?_⟩;exact own_leaf (Imm.le_refl _) hO.1 rfl (fun x hx=> by simp at hx)
      ·cases hev
     ·cases hev
    |cons s ss=>
     simp only at hev;split at hev
     ·rename_i t h2 ht
      split at hev
      ·rename_i hcond
       obtain⟨L,hO,hT⟩:=take_own FZ (s::ss) r1 c h1 t h2 hp.st hr1 ht;have hLnew:∀x∈L,∀b i,x.has b i→w.heap.size≤b:=fun x hx b i hb=> hown1 b i (hT.inn x hx b i hb).1;have fin:∀ (K M:Imm),Own tbl w1 K (s::ss) t c L→I.le K→K.le M→St tbl ι M h w1→Cover M w1 L→(∀x∈L,x.1=false→∀b i,x.has b i→M b i=none)→(∀b o v,M b o=some v→I b o=some v∨w.heap.size≤b)→
         ∃c' κ J,Go.Ending.returned c= .returned c'∧QPost tbl ι I h w κ J h' w1∧RV tbl κ J r c':=by
        intro K M hOK hIK hKM hstM hcov hfree hMnew;have hpre:PreL M w1 ι h L:=⟨fun x hx hf=>⟨hT.good x hx,fun b i hb=>⟨fun ho=> by
         obtain⟨key,uid,cs,l,a,c',d,_⟩:=ho;have h3:=(hs.ent key uid cs l a c').size;have h4:=hLnew x hx b i hb;omega,hfree x hx hf b i hb⟩⟩,hT.pair,hcov⟩
        obtain⟨κ,q1,q2⟩:=thaw_spec hKM FZ (s::ss) t c L h r h' ι hOK hev hstM hfr hpre;refine⟨c,κ,M,rfl,⟨q1.ents,q1.iota,q1.clk,Imm.le_trans hIK hKM,q1.st,hbel,fun k u l hl=>?_,hMnew⟩,q2⟩;rcases q1.locs k u l hl with h3|⟨x,hx,hxf,rfl⟩
        ·exact .inl h3
        ·right
         obtain⟨c',elem,fr,g1,_,_⟩:=hT.good x hx
         -- an empty row lies in a new block too
         by_cases he:x.2.ext=0
         ·exact .inr he
         ·left; exact hLnew x hx x.2.b x.2.o ⟨rfl,wE _,by omega⟩
       by_cases hrf:args.all (qo FZ)=true
       ·have hJe:=hJI hrf
        subst hJe;have hcellJ1:∀b o v,zA J1 w1 L b o=some v→w1.cell? ⟨b,o,none⟩=some v:=fun b o v hv=> flag_cell hp.st.imm hv;have hnew:∀b o v,zA J1 w1 L b o=some v→J b o=some v∨w.heap.size≤b:=fun b o v hv=> by
         rcases flag_new hv with h3|⟨x,hx,_,hb⟩
         ·exact himm1 b o v h3
         ·exact .inr (hLnew x hx b o hb)
        refine fin J1 (zA J1 w1 L) hO hp.imm (flag_le J1 w1 L) (st_more hs hbel (Imm.le_trans hp.imm (flag_le J1 w1 L)) hcellJ1 hnew) (flag_cover hp.st.imm) (fun x hx hxf b i hb=>?_) hnew;cases hfl:zA J1 w1 L b i with
        |none=> rfl
        |some v=>
         exfalso;rcases flag_new hfl with h3|⟨y,hy,hyf,hyb⟩
         ·exact hp.st.immsep b i v h3 (hT.inn x hx b i hb).1
         ·-- two of the rows meet
          have hne:x≠y:=fun e=> by rw[e,hyf]at hxf; cases hxf
          exact pair_ne hT.pair hx hy hne b i hb hyb
       ·have hb:bare FZ (s::ss) t=true:=by
         rcases yC _ _▸hcond with h2|h2
         ·exact absurd h2 hrf
         ·exact h2
        have hO2:=bare_own (J:=I) FZ (s::ss) t c L hb hO;refine fin I I hO2.1 (Imm.le_refl _) (Imm.le_refl _) hstI (fun x hx hf=> by rw[hO2.2 x hx]at hf; cases hf) (fun x hx _ b i hb=>?_) (fun b o v hv=> .inl hv);cases hi:I b i with
        |none=> rfl
        |some v=>
         have h3:=World.block_lt_of_cell? w _ (hs.imm b i v hi);have h4:=hLnew x hx b i hb;simp only at h3;omega
      ·cases hev
     ·cases hev
   by_cases hrf:args.all (qo FZ)=true
   ·refine main I (Imm.le_refl _) hs.imm ?_ (fun _=> rfl)
    refine⟨by rw[hr.len,(zC hm).1],fun i x z hx hz=>?_⟩;obtain⟨hl,hmm⟩:=zC hm;have hlt:i < args.length:=by rw[←hl]; exact(gA hx)
    obtain⟨y,hy,hfz⟩:=hmm i args[i] (by rw[gB hlt]);rw[hx]at hy; cases hy;exact frz_refless hs.imm (hr.at_ i args[i] z (by rw[gB hlt]) hz) (wO.1 hrf _ (wC hlt)) hfz
   ·exact main (xB ι I h w) (jW ι I h w) (fun b o v hv=> borrow_cell hs.imm hv) (frz_args hs (jW ι I h w) (xJ hs.imm) hr hm) (fun h=> absurd h hrf)
def Iota.one(l:Loc):Iota:=fun k u=> if k=0∧u=0 then some l else Option.none
theorem Iota.one_at{l m:Loc}{k u:Nat}(h:Iota.one l k u=some m):k=0∧u=0∧l=m:=by
 unfold Iota.one at h;split at h
 ·rename_i hk; cases h; exact⟨hk.1,hk.2,rfl⟩
 ·cases h
theorem lies_refl{ι κ:Iota}{I J:Imm}{w:World}{cs:List V}{l:Loc}(h:Lies tbl ι I w cs l)(hf:cs.all (qo FZ)=true)(hI:I.le J):Lies tbl κ J w cs l:=⟨h.ext,by
 obtain⟨c,elem,fr,h1,h2,h3,h4⟩:=h.row;exact⟨c,elem,fr,h1,h2,h3,fun i x hx=> by
  obtain⟨v,a,b,o⟩:=h4 i x hx;exact⟨v,a,.imm ((jj FZ x v b (wO.1 hf _ (gE hx))).mono hI),o⟩⟩⟩
theorem lies_frm{ι κ:Iota}{h0:Heap}{w w1:World}(F:Frm κ h0 w w1){I J:Imm}{cs:List V}{l:Loc}(L:Lies tbl ι I w cs l)(hn:∀i,i < l.ext→¬zb κ h0 l.b (l.o+i))(hI:I.le J):Lies tbl ι J w1 cs l:=⟨L.ext,by
 have hsz:=L.size;have hx:=L.ext;obtain⟨c,elem,fr,h1,h2,h3,h4⟩:=L.row;obtain⟨c',g1,g2,g3⟩:=F.cell l.b hsz c elem fr h1;exact⟨c',elem,fr,g1,by omega,h3,fun i x hx'=> by
  obtain⟨v,a,b,o⟩:=h4 i x hx';have hi:=gA hx';exact⟨v,(g3 _ (hn i (by omega))).trans a,b.mono (Iota.le_refl _) hI,o⟩⟩⟩
theorem get_ent{h:Heap}{key uid:Nat}{cs:List V}(hg:h.get key uid=some cs):h.ents[key]? =some (uid,some cs):=by
 unfold Heap.get at hg;split at hg
 ·rename_i u cs0 he
  split at hg
  ·rename_i hu; subst hu; cases hg; exact he
  ·cases hg
 ·cases hg
theorem callM_thr{call:Call}(hcall:jD P tbl call){ds:List Nat}{g:Nat}{args:List V}{h h':Heap}{r:V}(hev:zY call (.thr ds) g args h=some (r,h')){f:Nat}(hf:tbl f=some g){ι:Iota}{I:Imm}{w:World}{cargs:List Value}
  (hs:St tbl ι I h w) (hfr:zM ι h) (hr:RVs tbl ι I args cargs):
  Calls P f cargs.toArray w fun e w'=>∃c κ J,e= .returned c∧Post tbl ι I h w κ J h' w'∧RV tbl κ J r c:=by
 simp only[zY]at hev;split at hev
 case h_2=> cases hev
 rename_i key uid rest;split at hev
 case h_2=> cases hev
 rename_i cs hg;split at hev
 case isFalse=> cases hev
 rename_i hcd;rw[wL]at hcd;split at hev
 case h_2=> cases hev
 rename_i r1 h1 hc;split at hev
 case h_2=> cases hev
 rename_i cs' hg1;split at hev
 case isFalse=> cases hev
 rename_i hcd';have hent:=get_ent hg;have hent1:=get_ent hg1;obtain⟨c0,crest,rfl,hr0,hrr⟩:=hr.uncons;obtain⟨l,hl,hc0⟩:=hr0.of_ptr;have hL:=hs.ent key uid cs l hent hl;have own0:∀b i,zb (Iota.one l) ⟨[(0,some cs)],1⟩ b i→l.b=b∧l.o≤i∧i < l.o+l.ext:=by
  rintro b i ⟨k,u,cs2,m,a1,a2,a3⟩;obtain⟨rfl,rfl,rfl⟩:=Iota.one_at a2;exact a3
 have own0':∀b i,l.b=b∧l.o≤i∧i < l.o+l.ext→zb (Iota.one l) ⟨[(0,some cs)],1⟩ b i:=fun b i q=>⟨0,0,cs,l,rfl,by simp[Iota.one],q⟩;have ownh:∀b i,zb (Iota.one l) ⟨[(0,some cs)],1⟩ b i→zb ι h b i:=fun b i q=>⟨key,uid,cs,l,hent,hl,own0 b i q⟩;have st0:St tbl (Iota.one l) I ⟨[(0,some cs)],1⟩ w:=by
  refine⟨fun k u c2 m a1 a2=>?_,fun k u c2 m k' u' c2' m' a1 a2 a3 a4 hne=>?_,hs.imm,fun b o v hv ho=> hs.immsep b o v hv (ownh b o ho)⟩
  ·obtain⟨rfl,rfl,rfl⟩:=Iota.one_at a2
   cases a1;exact lies_refl hL hcd.1 (Imm.le_refl _)
  ·obtain⟨rfl,rfl,rfl⟩:=Iota.one_at a2
   obtain⟨rfl,rfl, -⟩:=Iota.one_at a4;exact absurd rfl hne
 have fr0:zM (Iota.one l) ⟨[(0,some cs)],1⟩:=fun k u hk=> by
  unfold Iota.one;rw[if_neg];rintro⟨rfl,rfl⟩;simp at hk
 have rv0:RVs tbl (Iota.one l) I (.ptr 0 0 0::rest) (c0::crest):=by
  refine .cons ?_ ⟨hrr.len,fun i x z hx hz=> .imm (jj FZ x z (hrr.at_ i x z hx hz) (wO.1 hcd.2 _ (gE hx)))⟩;rw[hc0];exact .ptr 0 0 0 l (by simp[Iota.one])
 refine(hcall g _ _ r1 h1 hc f hf (Iota.one l) I w _ st0 fr0 rv0).mono ?_;rintro e w1 ⟨c,κ1,J1,rfl,hp,hr1⟩;have k0:κ1 0 0=some l:=by rw[hp.iota 0 0 (.inl (Nat.zero_lt_one:(0:Nat) < 1))]; simp[Iota.one]
 have st1:St tbl κ1 J1 (h1.kill 0) w1:=hp.st.sub (xF h1 0);have hown1:∀b i,zb κ1 (h1.kill 0) b i→w.heap.size≤b:=fun b i ho=>
  (hp.own b i ((xF h1 0).owned ho)).resolve_left fun q=> xy hp.st hent1 k0 ho (own0 b i q)
 have himm1:∀b i v,J1 b i=some v→I b i=some v∨w.heap.size≤b:=fun b i v hv=> by
  rcases hp.immnew b i v hv with q|q|q
  ·exact .inl q
  ·exact absurd ⟨0,0,cs',l,hent1,k0,own0 b i q⟩ (hp.st.immsep b i v hv)
  ·exact .inr q
 have hkl:key < h.ents.length:=gA hent;have eK:(h.put key uid cs').ents[key]? =some (uid,some cs'):=by
  unfold Heap.put; simp only; rw[gQ hkl]
 have eN:∀k,k≠key→(h.put key uid cs').ents[k]? =h.ents[k]?:=fun k hk=> by
  unfold Heap.put; simp only; rw[gL (yK hk)]
 have entB:∀k u c2 m,(h.put key uid cs').ents[k]? =some (u,some c2)→ι k u=some m→∃c3,h.ents[k]? =some (u,some c3):=fun k u c2 m a1 a2=> by
  by_cases hk:k=key
  ·subst hk; rw[eK]at a1; cases a1; exact⟨cs,hent⟩
  ·rw[eN k hk]at a1; exact⟨c2,a1⟩
 have ownB:∀b i,zb ι (h.put key uid cs') b i→zb ι h b i:=by
  rintro b i ⟨k,u,c2,m,a1,a2,a3⟩;obtain⟨c3,a4⟩:=entB k u c2 m a1 a2;exact⟨k,u,c3,m,a4,a2,a3⟩
 have szO:∀b i,zb ι h b i→b < w.heap.size:=by
  rintro b i ⟨k,u,c2,m,a1,a2,a3,_⟩;rw[←a3]; exact(hs.ent k u c2 m a1 a2).size
 have stB:∀J:Imm,J1.le J→(∀b o v,J b o=some v→w1.cell? ⟨b,o,Option.none⟩=some v)→(∀b o v,J b o=some v→I b o=some v∨w.heap.size≤b)→St tbl ι J (h.put key uid cs') w1:=by
  intro J hJ hJc hJn;refine⟨fun k u c2 m a1 a2=>?_,fun k u c2 m k' u' c2' m' a1 a2 a3 a4 hne=>?_,hJc,fun b o v hv ho=>?_⟩
  ·by_cases hk:k=key
   ·subst hk
    rw[eK]at a1;cases a1;rw[hl]at a2;cases a2;exact lies_refl (hp.st.ent 0 0 cs' l hent1 k0) hcd' hJ
   ·rw[eN k hk]at a1
    refine lies_frm hp.frm (hs.ent k u c2 m a1 a2) (fun i hi ho=>?_) (Imm.le_trans hp.imm hJ);obtain⟨q1,q2,q3⟩:=own0 _ _ ho;exact hs.sep k u c2 m key uid cs l a1 a2 hent hl hk m.b (m.o+i) rfl (by omega) (by omega) q1 q2 q3
  ·obtain⟨d1,e1⟩:=entB k u c2 m a1 a2
   obtain⟨d2,e2⟩:=entB k' u' c2' m' a3 a4;exact hs.sep k u d1 m k' u' d2 m' e1 a2 e2 a4 hne
  ·rcases hJn b o v hv with q|q
   ·exact hs.immsep b o v q (ownB b o ho)
   ·have:=szO b o (ownB b o ho)
    omega
 have frm:Frm ι h w w1:=⟨hp.frm.os,hp.frm.tape,hp.frm.output,hp.frm.size,fun b hb hn=> hp.frm.block b hb fun i q=> hn i (ownh b i q),fun b hb c elem fr hc=> by
  obtain⟨c',g1,g2,g3⟩:=hp.frm.cell b hb c elem fr hc;exact⟨c',g1,g2,fun i hi=> g3 i fun q=> hi (ownh b i q)⟩⟩
 cases ds with
 |nil=>
  simp only at hev;split at hev
  case h_2=> cases hev
  rename_i t ht;obtain⟨rfl,rfl⟩:=qd hev;have hJ2:=frz_ri st1 (jW κ1 J1 (h1.kill 0) w1) (xJ st1.imm) FZ r1 c r hr1 ht;have hnew:∀b o v,xB κ1 J1 (h1.kill 0) w1 b o=some v→I b o=some v∨w.heap.size≤b:=fun b o v hv=> by
   rcases borrow_new st1 hv with q|q
   ·exact himm1 b o v q
   ·exact .inr (hown1 b o q)
  exact⟨c,ι,_,rfl,⟨fun _ _ _=> rfl,wE _,Imm.le_trans hp.imm (jW _ _ _ _),stB _ (jW _ _ _ _) (fun b o v hv=> borrow_cell st1.imm hv) hnew,frm,fun b i ho=> .inl (ownB b i ho),fun b i v hv=>(hnew b i v hv).imp_right .inr⟩,.imm hJ2⟩
 |cons s ss=>
  simp only at hev;split at hev
  case h_2=> cases hev
  rename_i t h2 ht;obtain⟨L,hO,hT⟩:=take_own FZ (s::ss) r1 c (h1.kill 0) t h2 st1 hr1 ht;have hLnew:∀x∈L,∀b i,x.has b i→w.heap.size≤b:=fun x hx b i hb=> hown1 b i (hT.inn x hx b i hb).1;have hcell:∀b o v,zA J1 w1 L b o=some v→w1.cell? ⟨b,o,Option.none⟩=some v:=fun b o v hv=> flag_cell st1.imm hv;have hnew:∀b o v,zA J1 w1 L b o=some v→I b o=some v∨w.heap.size≤b:=fun b o v hv=> by
   rcases flag_new hv with q|⟨x,hx,_,hb⟩
   ·exact himm1 b o v q
   ·exact .inr (hLnew x hx b o hb)
  have stM:=stB (zA J1 w1 L) (flag_le J1 w1 L) hcell hnew;have hfree:∀x∈L,x.1=false→∀b i,x.has b i→zA J1 w1 L b i=Option.none:=fun x hx hxf b i hb=> by
   cases hfl:zA J1 w1 L b i with
   |none=> rfl
   |some v=>
    exfalso;rcases flag_new hfl with q|⟨y,hy,hyf,hyb⟩
    ·exact st1.immsep b i v q (hT.inn x hx b i hb).1
    ·have hne:x≠y:=fun e=> by rw[e,hyf]at hxf; cases hxf
     exact pair_ne hT.pair hx hy hne b i hb hyb
  have hpre:PreL (zA J1 w1 L) w1 ι (h.put key uid cs') L:=⟨fun x hx hf=>⟨hT.good x hx,fun b i hb=>⟨fun ho=> by
   have q1:=szO b i (ownB b i ho);have q2:=hLnew x hx b i hb;omega,hfree x hx hf b i hb⟩⟩,hT.pair,flag_cover st1.imm⟩
  obtain⟨κ,q1,q2⟩:=thaw_spec (flag_le J1 w1 L) FZ (s::ss) t c L (h.put key uid cs') r h' ι hO hev stM (fun k u a b=> hfr k u a) hpre;refine⟨c,κ,_,rfl,⟨q1.iota,q1.clk,Imm.le_trans hp.imm (flag_le _ _ _),q1.st,frm,fun b i ho=>?_,fun b i v hv=>(hnew b i v hv).imp_right .inr⟩,q2⟩;rcases q1.own b i ho with q|⟨x,hx,_,hb⟩
  ·exact .inl (ownB b i q)
  ·exact .inr (hLnew x hx b i hb)
end Rv
namespace Rv
open Go (IntKind BinOp UnOp Program Value Operand Oper Code TypeId Func World Addr Obj Act Calls execOp)
set_option maxRecDepth 10000
variable {tbl:Nat→Option Nat} {P:Program}
def O.hinted:O→Bool
 | .move _| .load .. | .buildSlice .. | .callf .. | .callv .. => true
 |_=> false
def O.isFz:O→Bool
 | .fz _=> true
 | .nz _ _=> true
 |_=> false
theorem qn{o q:O}(h:qR o=q)(hq:q.hinted=false)(hf:o.isFz=false):o=q:=by
 cases o <;> simp only[qR]at h <;> first|exact h|(subst h; simp[O.hinted]at hq; done)|(simp[O.isFz]at hf; done)
theorem erase_move{o:O}{x:X}(h:qR o= .move x)(hf:o.isFz=false):o= .move x∨o= .frz x:=by
 cases o <;> simp only[qR]at h <;> first|(cases h; exact .inl rfl)|(cases h; exact .inr rfl)|(simp[O.isFz]at hf; done)|(cases h)
theorem erase_load{o:O}{b:Ld}{n:Option Nat}{x:X}(h:qR o= .load b n x)(hf:o.isFz=false):∃im,o= .load im n x:=by
 cases o <;> simp only[qR]at h <;> first|(cases h; exact⟨_,rfl⟩)|(simp[O.isFz]at hf; done)|(cases h)
theorem erase_bs{o:O}{s n:Nat}{z:List V}{l:List (Nat×Nat×X)}(h:qR o= .buildSlice s n z l)(hf:o.isFz=false):o= .buildSlice s n z l∨o= .blit s n z l:=by
 cases o <;> simp only[qR]at h <;> first|(cases h; exact .inl rfl)|(cases h; exact .inr rfl)|(simp[O.isFz]at hf; done)|(cases h)
theorem erase_callf{o:O}{m:Md}{g:Nat}{l:List X}(h:qR o= .callf m g l)(hf:o.isFz=false):∃md,o= .callf md g l:=by
 cases o <;> simp only[qR]at h <;> first|(cases h; exact⟨_,rfl⟩)|(simp[O.isFz]at hf; done)|(cases h)
theorem erase_callv{o:O}{m:Md}{f:X}{l:List X}(h:qR o= .callv m f l)(hf:o.isFz=false):∃md,o= .callv md f l:=by
 cases o <;> simp only[qR]at h <;> first|(cases h; exact⟨_,rfl⟩)|(simp[O.isFz]at hf; done)|(cases h)
def Does(P:Program)(go:Oper)(a:Act)(w:World)(R:Value→World→Prop):Prop:=
 ∀ (next:Act→World→Prop) (Q:Go.Exit→Act→World→Prop),(∀c w',R c w'→next (a.put go.dst c) w')→go.wp P a w next Q
theorem Does.of_run{go:Oper}{a:Act}{w w':World}{c:Value}{R:Value→World→Prop}(h:(execOp a.eval go).run P w= .ok (.value c) w')(hr:R c w'):Does P go a w R:=by
 intro next Q hn;unfold Oper.wp;rw[h];exact hn c w' hr
theorem Does.of_skip{go:Oper}{a:Act}{w w':World}{R:Value→World→Prop}(h:(execOp a.eval go).run P w= .ok .skip w')(hr:R Go.undef w'):Does P go a w R:=by
 intro next Q hn;unfold Oper.wp;rw[h];exact hn _ w' hr
def QR(tbl:Nat→Option Nat)(ι:Iota)(I:Imm)(h:Heap)(w:World)(v:V)(h':Heap)(c:Value)(w':World):Prop:=
 ∃κ J,QPost tbl ι I h w κ J h' w'∧RV tbl κ J v c
def PR(tbl:Nat→Option Nat)(ι:Iota)(I:Imm)(h:Heap)(w:World)(v:V)(h':Heap)(c:Value)(w':World):Prop:=
 ∃κ J,Post tbl ι I h w κ J h' w'∧RV tbl κ J v c
theorem QRes.does{ι:Iota}{I:Imm}{h h':Heap}{w:World}{a:Act}{go:Oper}{v:V}(q:QRes P tbl ι I h w a go v h'):Does P go a w (QR tbl ι I h w v h'):=by
 obtain⟨c,w',κ,J,h1,h2,h3⟩:=q;exact .of_run h1 ⟨κ,J,h2,h3⟩
theorem WRes.does{ι:Iota}{I:Imm}{h h':Heap}{w:World}{a:Act}{go:Oper}{v:V}(q:WRes P tbl ι I h w a go v h'):Does P go a w (PR tbl ι I h w v h'):=by
 obtain⟨c,w',κ,J,h1,h2,h3⟩:=q;rcases h1 with h1|⟨h1,rfl⟩
 ·exact .of_run h1 ⟨κ,J,h2,h3⟩
 ·exact .of_skip h1 ⟨κ,J,h2,h3⟩
theorem callFunc_run {f : Nat} {fn : Func} {args : Array Value} {w : World} (hf : P.funcs[f]? = some fn) (hb : fn.body.isSome = true) (hn : (fn.name == "runtime.NumGoroutine") = false) : (Go.callFunc f args).run P w = .ok (.enter f args) w := by
 unfold Go.callFunc;have h1:¬fn.body=none:=by intro h; simp[h]at hb
 have h2 : ¬ fn.name = "runtime.NumGoroutine" := by simpa using hn
 simp[hf,h1,h2]
def TblOK (P : Program) (tbl : Nat → Option Nat) : Prop := ∀ f g, tbl f = some g → ∃ fn, P.funcs[f]? = some fn ∧ fn.body.isSome = true ∧ (fn.name == "runtime.NumGoroutine") = false
theorem Does.of_calls(hT:TblOK P tbl){f g:Nat}(hf:tbl f=some g){go:Oper}{a:Act}{w:World}{args:Array Value}{R:Value→World→Prop}(h:(execOp a.eval go).run P w= .ok (.enter f args) w)
  (hc:Calls P f args w fun e w'=>∃c,e= .returned c∧R c w'):Does P go a w R:=by
 intro next Q hn;unfold Oper.wp;rw[h];refine Go.Calls.mono hc ?_;rintro e w' ⟨c,rfl,hr⟩;exact hn c w' hr
def O.quiet:O→Bool
 | .store .. | .append .. | .appendZ .. | .copy .. | .frz _| .fz _| .nz _ _=> false
 | .callf .plain .. | .callv .plain .. | .callf (.thr _) .. | .callv (.thr _) .. => false
 |_=> true
section
variable {ι:Iota} {I:Imm} {h h':Heap} {w:World} {a:Act} {e:Env} {v:V} {call:Call}
theorem q_does(hs:St tbl ι I h w)(he:RVe tbl ι I e a.tmps){go:Oper}{o:O}(hc:qx P tbl go=some (qR o))(hq:o.quiet=true)(hcl:∀md g l,o≠ .callf md g l)(hcv:∀md f l,o≠ .callv md f l)
  (hfr:∀k u,h.clk≤u→u < h'.clk→ι k u=none) (hev:opEv call o e h=some (v,h')):QRes P tbl ι I h w a go v h':=by
 have hff:o.isFz=false:=by cases o <;> first|rfl|(simp[O.quiet]at hq)
 obtain⟨dst,op,ty,pos,af,gd⟩:=go;cases op with
 |move x=>
  simp only[qx]at hc;split at hc
  ·rename_i y hy
   rcases erase_move (wA hc).symm hff with rfl|rfl
   ·exact q_move hs he hy hev
   ·simp[O.quiet]at hq
  ·cases hc
 |assign x=>
  simp only[qx]at hc;split at hc
  ·rename_i y hy
   rcases erase_move (wA hc).symm hff with rfl|rfl
   ·exact q_assign hs he hy hev
   ·simp[O.quiet]at hq
  ·cases hc
 |pick c x y=>
  simp only[qx]at hc;split at hc
  ·rename_i c' hc'
   split at hc
   ·rename_i x' hx'
    split at hc
    ·rename_i y' hy'
     have:=qn (wA hc).symm rfl hff;subst this;exact q_pick hs he hc' hx' hy' hev
    ·cases hc
   ·cases hc
  ·cases hc
 |alloc el=>
  simp only[qx]at hc;split at hc
  ·rename_i z hz
   have:=qn (wA hc).symm rfl hff;subst this;refine q_alloc hs he (hfr _ _ (wE _) ?_) hz hev;simp only[opEv]at hev; obtain⟨_,rfl⟩:=qd hev; simp[Heap.push]
  ·cases hc
 |box el x=>
  simp only[qx]at hc;split at hc
  ·rename_i y hy
   have:=qn (wA hc).symm rfl hff;subst this;refine q_box hs he (hfr _ _ (wE _) ?_) hy hev;simp only[opEv]at hev;split at hev
   ·obtain⟨_,rfl⟩:=qd hev; simp[Heap.push]
   ·cases hev
  ·cases hc
 |build t ps=>
  simp only[qx]at hc;split at hc
  ·rename_i z fs hz ht
   split at hc
   ·cases hc
   ·rename_i hall
    split at hc
    ·rename_i l hm
     have:=qn (wA hc).symm rfl hff;subst this;exact q_buildS hs he hz ht (by cases hb:(fs.all fun f=>(P.info? f.type).isSome)with|true=> rfl|false=> exact absurd (by rw[hb]; rfl) hall) hm hev
    ·cases hc
  ·rename_i z n el hz ht
   split at hc
   ·rename_i i hi
    split at hc
    ·rename_i l hm
     have:=qn (wA hc).symm rfl hff;subst this;exact q_buildA hs he hz ht hi hm hev
    ·cases hc
   ·cases hc
  ·cases hc
 |buildSlice t n ps=>
  simp only[qx]at hc;split at hc
  ·rename_i el ht
   split at hc
   ·rename_i i z hi hz
    split at hc
    ·rename_i hcond
     split at hc
     ·rename_i l hm
      rcases erase_bs (wA hc).symm hff with rfl|rfl
      ·refine q_buildSlice hs he (hfr _ _ (wE _) ?_) ht hi hz hcond.1 hcond.2.1 hcond.2.2 hm hev
       simp only[opEv]at hev;split at hev
       ·obtain⟨_,rfl⟩:=qd hev; simp[Heap.push]
       ·cases hev
      ·exact q_blit hs he ht hi hz hcond.1 hcond.2.1 hcond.2.2 hm hev
     ·cases hc
    ·cases hc
   ·cases hc
  ·cases hc
 |load t x=>
  simp only[qx]at hc;split at hc
  ·rename_i y hy
   split at hc
   ·rename_i n hn
    obtain⟨im,rfl⟩:=erase_load (wA hc).symm hff;exact q_load hs he hn hy hev
   ·cases hc
  ·cases hc
 |store t x y=>
  simp only[qx]at hc
  repeat' split at hc
  all_goals first|(cases hc; done)|skip
  all_goals (have:=qn (wA hc).symm rfl hff; subst this; simp[O.quiet]at hq)
 |nilCheck x=>
  simp only[qx]at hc;split at hc
  ·rename_i y hy
   have:=qn (wA hc).symm rfl hff;subst this;exact q_nilCheck hs he hy hev
  ·cases hc
 |binOp op t x y t'=>
  simp only[qx]at hc;split at hc
  ·rename_i k hk
   split at hc
   ·rename_i x' hx
    split at hc
    ·rename_i y' hy
     have:=qn (wA hc).symm rfl hff;subst this;exact q_bin hs he hk hx hy hev
    ·cases hc
   ·cases hc
  ·split at hc
   ·rename_i l hl
    split at hc
    ·split at hc
     ·rename_i x' hx
      split at hc
      ·rename_i y' hy
       have:=qn (wA hc).symm rfl hff;subst this;exact q_eqS hs he (.inl ⟨rfl,rfl⟩) hl hx hy hev
      ·cases hc
     ·cases hc
    ·split at hc
     ·rename_i x' hx
      split at hc
      ·rename_i y' hy
       have:=qn (wA hc).symm rfl hff;subst this;exact q_eqS hs he (.inr ⟨rfl,rfl⟩) hl hx hy hev
      ·cases hc
     ·cases hc
    ·cases hc
   ·cases hc
 |unOp op t x=>
  simp only[qx]at hc;split at hc
  ·rename_i y hy
   have:=qn (wA hc).symm rfl hff;subst this;exact q_un hs he hy hev
  ·cases hc
 |convert s d x=>
  simp only[qx]at hc;split at hc
  ·rename_i sk k hsk hk
   split at hc
   ·rename_i y hy
    have:=qn (wA hc).symm rfl hff;subst this;exact q_toInt hs he hsk hk hy hev
   ·cases hc
  ·rename_i el hsl hst
   split at hc
   ·rename_i hel
    split at hc
    ·rename_i y hy
     have:=qn (wA hc).symm rfl hff;subst this;exact q_toStr hs he hsl hel hst hy hev
    ·cases hc
   ·cases hc
  ·cases hc
 |makeFunc f fst cap=>
  cases f with
  |func f=>
   simp only[qx]at hc;split at hc
   ·rename_i g hg
    split at hc
    ·rename_i l1 h1
     split at hc
     ·rename_i l2 h2
      have:=qn (wA hc).symm rfl hff;subst this;exact q_mkfn hs he hg h1 h2 hev
     ·cases hc
    ·cases hc
   ·cases hc
  |_=> simp only[qx]at hc; cases hc
 |makeSlice t x y=>
  simp only[qx]at hc;split at hc
  ·rename_i el ht
   split at hc
   ·rename_i i z hi hz
    split at hc
    ·rename_i hcond
     split at hc
     ·rename_i x' hx
      split at hc
      ·rename_i y' hy
       have:=qn (wA hc).symm rfl hff;subst this;refine q_makeSlice hs he (hfr _ _ (wE _) ?_) ht hi hz hcond.1 hcond.2 hx hy hev;simp only[opEv]at hev;split at hev
       ·split at hev
        ·obtain⟨_,rfl⟩:=qd hev; simp[Heap.push]
        ·cases hev
       ·cases hev
      ·cases hc
     ·cases hc
    ·cases hc
   ·cases hc
  ·cases hc
 |slice t x lo hi mx=>
  cases mx with
  |some m=> simp only[qx]at hc; cases hc
  |none=>
   simp only[qx]at hc;split at hc
   ·rename_i el ht
    split at hc
    ·rename_i i hi0
     split at hc
     ·rename_i hz
      split at hc
      ·rename_i y hy
       cases lo with
       |none=>
        cases hi with
        |none=>
         simp only at hc;have:=qn (wA hc).symm rfl hff;subst this;exact q_slice hs he ht hi0 hz hy (.inl ⟨rfl,rfl⟩) (.inl ⟨rfl,rfl⟩) hev
        |some hi=>
         simp only at hc;split at hc
         ·rename_i b hb
          have:=qn (wA hc).symm rfl hff;subst this;exact q_slice hs he ht hi0 hz hy (.inl ⟨rfl,rfl⟩) (.inr ⟨_,_,rfl,rfl,hb⟩) hev
         ·cases hc
       |some lo=>
        simp only at hc;split at hc
        ·rename_i d hd
         cases hi with
         |none=>
          simp only at hc;have:=qn (wA hc).symm rfl hff;subst this;exact q_slice hs he ht hi0 hz hy (.inr ⟨_,_,rfl,rfl,hd⟩) (.inl ⟨rfl,rfl⟩) hev
         |some hi=>
          simp only at hc;split at hc
          ·rename_i b hb
           have:=qn (wA hc).symm rfl hff;subst this;exact q_slice hs he ht hi0 hz hy (.inr ⟨_,_,rfl,rfl,hd⟩) (.inr ⟨_,_,rfl,rfl,hb⟩) hev
          ·cases hc
        ·cases hc
      ·cases hc
     ·cases hc
    ·cases hc
   ·rename_i ht
    split at hc
    ·rename_i y hy
     cases lo with
     |none=>
      cases hi with
      |none=>
       simp only at hc;have:=qn (wA hc).symm rfl hff;subst this;exact q_sliceS hs he ht hy (.inl ⟨rfl,rfl⟩) (.inl ⟨rfl,rfl⟩) hev
      |some hi=>
       simp only at hc;split at hc
       ·rename_i b hb
        have:=qn (wA hc).symm rfl hff;subst this;exact q_sliceS hs he ht hy (.inl ⟨rfl,rfl⟩) (.inr ⟨_,_,rfl,rfl,hb⟩) hev
       ·cases hc
     |some lo=>
      simp only at hc;split at hc
      ·rename_i d hd
       cases hi with
       |none=>
        simp only at hc;have:=qn (wA hc).symm rfl hff;subst this;exact q_sliceS hs he ht hy (.inr ⟨_,_,rfl,rfl,hd⟩) (.inl ⟨rfl,rfl⟩) hev
       |some hi=>
        simp only at hc;split at hc
        ·rename_i b hb
         have:=qn (wA hc).symm rfl hff;subst this;exact q_sliceS hs he ht hy (.inr ⟨_,_,rfl,rfl,hd⟩) (.inr ⟨_,_,rfl,rfl,hb⟩) hev
        ·cases hc
      ·cases hc
    ·cases hc
   ·cases hc
 |fieldAddr t x j=>
  simp only[qx]at hc;split at hc
  ·rename_i fs ht
   split at hc
   ·rename_i f hf
    split at hc
    ·rename_i i hi
     split at hc
     ·rename_i hz
      split at hc
      ·rename_i y hy
       have:=qn (wA hc).symm rfl hff;subst this;exact q_fieldAddr hs he ht hf hi hz hy hev
      ·cases hc
     ·cases hc
    ·cases hc
   ·cases hc
  ·cases hc
 |field t x j=>
  simp only[qx]at hc;split at hc
  ·rename_i fs ht
   split at hc
   ·rename_i f hf
    split at hc
    ·rename_i n hn
     split at hc
     ·rename_i y hy
      have:=qn (wA hc).symm rfl hff;subst this;exact q_field hs he ht hf hn hy hev
     ·cases hc
    ·cases hc
   ·cases hc
  ·cases hc
 |indexAddr t x j=>
  simp only[qx]at hc;split at hc
  ·rename_i el ht
   split at hc
   ·rename_i i hi
    split at hc
    ·rename_i hz
     split at hc
     ·rename_i x' hx
      split at hc
      ·rename_i y' hy
       have:=qn (wA hc).symm rfl hff;subst this;exact q_indexAddrS hs he ht hi hz hx hy hev
      ·cases hc
     ·cases hc
    ·cases hc
   ·cases hc
  ·rename_i n el ht
   split at hc
   ·rename_i i hi
    split at hc
    ·rename_i hz
     split at hc
     ·rename_i x' hx
      split at hc
      ·rename_i y' hy
       have:=qn (wA hc).symm rfl hff;subst this;exact q_indexAddrA hs he ht hi hz hx hy hev
      ·cases hc
     ·cases hc
    ·cases hc
   ·cases hc
  ·cases hc
 |index t x j=>
  simp only[qx]at hc;split at hc
  ·rename_i n el ht
   split at hc
   ·rename_i i m hi hn
    split at hc
    ·rename_i x' hx
     split at hc
     ·rename_i y' hy
      have:=qn (wA hc).symm rfl hff;subst this;exact q_indexA hs he ht hi hn hx hy hev
     ·cases hc
    ·cases hc
   ·cases hc
  ·rename_i ht
   split at hc
   ·rename_i x' hx
    split at hc
    ·rename_i y' hy
     have:=qn (wA hc).symm rfl hff;subst this;exact q_indexS hs he ht hx hy hev
    ·cases hc
   ·cases hc
  ·cases hc
 |extract x i=>
  simp only[qx]at hc;split at hc
  ·rename_i y hy
   have:=qn (wA hc).symm rfl hff;subst this;exact q_extract hs he hy hev
  ·cases hc
 |call c=>
  obtain⟨callee,args,ats⟩:=c;cases callee with
  |invoke r n=> simp only[qx]at hc; cases hc
  |value f=>
   exfalso;cases f <;> simp only[qx]at hc <;>(repeat' split at hc)<;> first|(cases hc; done)|skip
   ·obtain⟨md,rfl⟩:=erase_callv (wA hc).symm hff
    exact hcv _ _ _ rfl
   ·obtain⟨md,rfl⟩:=erase_callf (wA hc).symm hff
    exact hcl _ _ _ rfl
  |builtin b=>
   obtain⟨args⟩:=args;cases b with
   |len=>
    simp only[qx]at hc;split at hc
    ·rename_i x t ha
     split at hc
     ·rename_i ht
      split at hc
      ·rename_i y hy
       have:=qn (wA hc).symm rfl hff;subst this;exact q_lenS hs he ha ht hy hev
      ·cases hc
     ·rename_i el ht
      split at hc
      ·rename_i y hy
       have:=qn (wA hc).symm rfl hff;subst this;exact q_len hs he ha ht hy hev
      ·cases hc
     ·cases hc
    ·cases hc
   |cap=>
    simp only[qx]at hc;split at hc
    ·rename_i x t ha
     split at hc
     ·rename_i el ht
      split at hc
      ·rename_i y hy
       have:=qn (wA hc).symm rfl hff;subst this;exact q_cap hs he ha ht hy hev
      ·cases hc
     ·cases hc
    ·cases hc
   |max=>
    simp only[qx]at hc;split at hc
    ·rename_i x z
     split at hc
     ·rename_i y hy
      split at hc
      ·rename_i u hu
       have:=qn (wA hc).symm rfl hff;subst this;exact q_max2 hs he hy hu hev
      ·cases hc
     ·cases hc
    ·cases hc
   |min=>
    simp only[qx]at hc;split at hc
    ·rename_i x z
     split at hc
     ·rename_i y hy
      split at hc
      ·rename_i u hu
       have:=qn (wA hc).symm rfl hff;subst this;exact q_min2 hs he hy hu hev
      ·cases hc
     ·cases hc
    ·cases hc
   |append=>
    exfalso;simp only[qx]at hc
    repeat' split at hc
    all_goals first|(cases hc; done)|skip
    all_goals (have:=qn (wA hc).symm rfl hff; subst this; simp[O.quiet]at hq)
   |copy=>
    exfalso;simp only[qx]at hc
    repeat' split at hc
    all_goals first|(cases hc; done)|skip
    all_goals (have:=qn (wA hc).symm rfl hff; subst this; simp[O.quiet]at hq)
   |_=> simp only[qx]at hc; cases hc
 |_=> simp only[qx]at hc; cases hc
theorem w_does(hs:St tbl ι I h w)(he:RVe tbl ι I e a.tmps){go:Oper}{o:O}(hc:qx P tbl go=some (qR o))(hq:o.quiet=false)(hcl:∀md g l,o≠ .callf md g l)(hcv:∀md f l,o≠ .callv md f l)(hfz:∀x,o≠ .frz x)(hff:o.isFz=false)
  (hfr:zM ι h) (hev:opEv call o e h=some (v,h')):WRes P tbl ι I h w a go v h':=by
 obtain⟨dst,op,ty,pos,af,gd⟩:=go;cases o with
 |store n x' y'=>
  cases op with
  |store t x y=>
   simp only[qx]at hc;split at hc
   ·rename_i x2 hx
    split at hc
    ·rename_i y2 hy
     split at hc
     ·rename_i i hi
      cases hc;exact w_store hs he hi hx hy hev
     ·cases hc
    ·cases hc
   ·cases hc
  |call c=>
   exfalso;obtain⟨callee,args,ats⟩:=c;cases callee with
   |invoke r n=> simp only[qx]at hc; cases hc
   |value f=> cases f <;> simp only[qx]at hc <;>(repeat' split at hc)<;> cases hc
   |builtin b=> cases b <;> simp only[qx]at hc <;>(repeat' split at hc)<;> cases hc
  |makeFunc f fst cap=> exfalso; cases f <;> simp only[qx]at hc <;>(repeat' split at hc)<;> cases hc
  |slice t x lo hi mx=> exfalso; cases mx <;> simp only[qx]at hc <;>(repeat' split at hc)<;> cases hc
  |_=> exfalso; simp only[qx]at hc;(repeat' split at hc)<;> cases hc
 |append sz by_ x' y'=>
  cases op with
  |call c=>
   obtain⟨callee,args,ats⟩:=c;obtain⟨args⟩:=args;obtain⟨ats⟩:=ats;cases callee with
   |invoke r n=> simp only[qx]at hc; cases hc
   |value f=> exfalso; cases f <;> simp only[qx]at hc <;>(repeat' split at hc)<;> cases hc
   |builtin b=>
    cases b with
    |append=>
     simp only[qx]at hc;split at hc
     ·rename_i x y t u
      split at hc
      ·rename_i el uk ht hu
       split at hc
       ·rename_i i z hi hz
        split at hc
        ·rename_i hcond
         split at hc
         ·rename_i x2 hx
          split at hc
          ·rename_i y2 hy
           exact absurd (wA hc) (by simp[qR])
          ·cases hc
         ·cases hc
        ·cases hc
       ·cases hc
      ·rename_i el el2 ht hu
       split at hc
       ·rename_i i z hi hz
        split at hc
        ·rename_i hcond
         split at hc
         ·rename_i x2 hx
          split at hc
          ·rename_i y2 hy
           have:=(wA hc);cases this;exact w_append hs hfr he ht (.inl ⟨_,hu⟩) hi hz hcond.1 hcond.2 hx hy hev
          ·cases hc
         ·cases hc
        ·cases hc
       ·cases hc
      ·rename_i el ht hu
       split at hc
       ·rename_i i z hi hz
        split at hc
        ·rename_i hcond
         split at hc
         ·rename_i x2 hx
          split at hc
          ·rename_i y2 hy
           have:=(wA hc);cases this;exact w_append hs hfr he ht (.inr hu) hi hz hcond.1 hcond.2 hx hy hev
          ·cases hc
         ·cases hc
        ·cases hc
       ·cases hc
      ·cases hc
     ·cases hc
    |_=> exfalso; simp only[qx]at hc;(repeat' split at hc)<;> cases hc
  |makeFunc f fst cap=> exfalso; cases f <;> simp only[qx]at hc <;>(repeat' split at hc)<;> cases hc
  |slice t x lo hi mx=> exfalso; cases mx <;> simp only[qx]at hc <;>(repeat' split at hc)<;> cases hc
  |_=> exfalso; simp only[qx]at hc;(repeat' split at hc)<;> cases hc
 |appendZ sz by_ z x' y'=>
  cases op with
  |call c=>
   obtain⟨callee,args,ats⟩:=c;obtain⟨args⟩:=args;obtain⟨ats⟩:=ats;cases callee with
   |invoke r n=> simp only[qx]at hc; cases hc
   |value f=> exfalso; cases f <;> simp only[qx]at hc <;>(repeat' split at hc)<;> cases hc
   |builtin b=>
    cases b with
    |append=>
     simp only[qx]at hc;split at hc
     ·rename_i x y t u
      split at hc
      ·rename_i el uk ht hu
       split at hc
       ·rename_i i z hi hz
        split at hc
        ·rename_i hcond
         split at hc
         ·rename_i x2 hx
          split at hc
          ·rename_i y2 hy
           have:=(wA hc);cases this;exact w_appendZ hs hfr he ht hu hi hz hcond.1 hcond.2 hx hy hev
          ·cases hc
         ·cases hc
        ·cases hc
       ·cases hc
      ·rename_i el el2 ht hu
       split at hc
       ·rename_i i z hi hz
        split at hc
        ·rename_i hcond
         split at hc
         ·rename_i x2 hx
          split at hc
          ·rename_i y2 hy
           exact absurd (wA hc) (by simp[qR])
          ·cases hc
         ·cases hc
        ·cases hc
       ·cases hc
      ·rename_i el ht hu
       split at hc
       ·rename_i i z hi hz
        split at hc
        ·rename_i hcond
         split at hc
         ·rename_i x2 hx
          split at hc
          ·rename_i y2 hy
           exact absurd (wA hc) (by simp[qR])
          ·cases hc
         ·cases hc
        ·cases hc
       ·cases hc
      ·cases hc
     ·cases hc
    |_=> exfalso; simp only[qx]at hc;(repeat' split at hc)<;> cases hc
  |makeFunc f fst cap=> exfalso; cases f <;> simp only[qx]at hc <;>(repeat' split at hc)<;> cases hc
  |slice t x lo hi mx=> exfalso; cases mx <;> simp only[qx]at hc <;>(repeat' split at hc)<;> cases hc
  |_=> exfalso; simp only[qx]at hc;(repeat' split at hc)<;> cases hc
 |copy sz x' y'=>
  cases op with
  |call c=>
   obtain⟨callee,args,ats⟩:=c;obtain⟨args⟩:=args;obtain⟨ats⟩:=ats;cases callee with
   |invoke r n=> simp only[qx]at hc; cases hc
   |value f=> exfalso; cases f <;> simp only[qx]at hc <;>(repeat' split at hc)<;> cases hc
   |builtin b=>
    cases b with
    |copy=>
     simp only[qx]at hc;split at hc
     ·rename_i x y t ha
      split at hc
      ·rename_i el ht
       split at hc
       ·rename_i i hi
        split at hc
        ·rename_i h0
         split at hc
         ·rename_i x2 hx
          split at hc
          ·rename_i y2 hy
           cases hc;exact w_copy hs he ha ht hi h0 hx hy hev
          ·cases hc
         ·cases hc
        ·cases hc
       ·cases hc
      ·cases hc
     ·cases hc
    |_=> exfalso; simp only[qx]at hc;(repeat' split at hc)<;> cases hc
  |makeFunc f fst cap=> exfalso; cases f <;> simp only[qx]at hc <;>(repeat' split at hc)<;> cases hc
  |slice t x lo hi mx=> exfalso; cases mx <;> simp only[qx]at hc <;>(repeat' split at hc)<;> cases hc
  |_=> exfalso; simp only[qx]at hc;(repeat' split at hc)<;> cases hc
 |frz x=> exact absurd rfl (hfz x)
 |callf md g l=> exact absurd rfl (hcl md g l)
 |callv md f l=> exact absurd rfl (hcv md f l)
 |fz o'=> simp[O.isFz]at hff
 |nz md o'=> simp[O.isFz]at hff
 |_=> simp[O.quiet]at hq
end
end Rv
namespace Rv
open Go (IntKind BinOp UnOp Program Value Operand Oper Code TypeId Func World Addr Obj Act Calls execOp)
variable {tbl:Nat→Option Nat} {P:Program}
structure Pad (ι:Iota) (h h1:Heap):Prop where
 ents:∃n,h1.ents=h.ents++n∧∀ (k:Nat) u cs,n[k]? =some (u,some cs)→ι (h.ents.length+k) u=none
 clk:h.clk≤h1.clk
theorem Pad.refl(ι:Iota)(h:Heap):Pad ι h h:=⟨⟨[],by simp,fun k u cs e=> by simp at e⟩,wE _⟩
theorem Pad.trans{ι:Iota}{a b c:Heap}(p:Pad ι a b)(q:Pad ι b c):Pad ι a c:=by
 obtain⟨⟨n,h1,h2⟩,h3⟩:=p;obtain⟨⟨m,k1,k2⟩,k3⟩:=q;refine⟨⟨n++m,by rw[k1,h1,vE],fun k u cs e=>?_⟩,vM h3 k3⟩;rw[gO]at e;split at e
 ·exact h2 k u cs e
 ·rename_i hk
  have:=k2 (k - n.length) u cs e;rw[h1,wR]at this;have e2:a.ents.length+n.length+(k - n.length)=a.ents.length+k:=by omega
  rw[e2]at this;exact this
theorem Pad.live{ι:Iota}{h h1:Heap}(p:Pad ι h h1){k u:Nat}{cs:List V}{l:Loc}(he:h1.ents[k]? =some (u,some cs))(hl:ι k u=some l):h.ents[k]? =some (u,some cs):=by
 obtain⟨⟨n,h2,h3⟩,_⟩:=p;rw[h2,gO]at he;split at he
 ·exact he
 ·rename_i hk
  have:=h3 _ _ _ he;have e2:h.ents.length+(k - h.ents.length)=k:=by omega
  rw[e2,hl]at this;cases this
theorem Pad.kept{ι:Iota}{h h1:Heap}(p:Pad ι h h1){k:Nat}{e:Nat×Option (List V)}(he:h.ents[k]? =some e):h1.ents[k]? =some e:=by
 obtain⟨⟨n,h2,h3⟩,_⟩:=p;rw[h2,gC (gA he)];exact he
theorem Pad.owned{ι:Iota}{h h1:Heap}(p:Pad ι h h1){b i:Nat}(o:zb ι h1 b i):zb ι h b i:=by
 obtain⟨k,u,cs,l,a1,a2,a3⟩:=o;exact⟨k,u,cs,l,p.live a1 a2,a2,a3⟩
theorem Pad.st{ι:Iota}{I:Imm}{h h1:Heap}{w:World}(p:Pad ι h h1)(hs:St tbl ι I h w):St tbl ι I h1 w:=
 ⟨fun k u cs l a b=> hs.ent k u cs l (p.live a b) b,fun k u cs l k' u' cs' l' a b c d=> hs.sep k u cs l k' u' cs' l' (p.live a b) b (p.live c d) d,hs.imm,fun b o v hv ho=> hs.immsep b o v hv (p.owned ho)⟩
theorem nz1_spec{ι:Iota}{md:Option Nat}{v u:V}{h h1:Heap}(hf:zM ι h)(hn:nz1 md v h=some (u,h1)):Pad ι h h1∧u.one=v.one∧∀ {I:Imm} {c:Value},RV tbl ι I v c→RV tbl ι I u c:=by
 unfold nz1 at hn;split at hn
 ·split at hn
  ·obtain⟨rfl,rfl⟩:=qd hn
   refine⟨.refl _ _,rfl,fun hr=>?_⟩;rw[hr.of_nils];exact .imm (.isl0 none 0 fun _=> rfl)
  ·obtain⟨rfl,rfl⟩:=qd hn
   refine⟨⟨⟨[(h.clk,some [])],rfl,fun k u cs e=>?_⟩,yY _⟩,rfl,fun hr=>?_⟩
   ·cases k with
    |zero=> simp at e; obtain⟨rfl,_⟩:=e; exact hf _ _ (wE _)
    |succ k=> simp at e
   ·rw[hr.of_nils]
    exact .sl0 _ _ _ _ none
 ·obtain⟨rfl,rfl⟩:=qd hn
  exact⟨.refl _ _,rfl,fun hr=> hr⟩
theorem Pad.fresh{ι:Iota}{h h1:Heap}(p:Pad ι h h1)(hf:zM ι h):zM ι h1:=fun k u hk=> hf k u (vM p.clk hk)
theorem nzs_spec{ι:Iota}{md:Option Nat}:∀ {xs ys:List V} {h h1:Heap},zM ι h→mapS (nz1 md) xs h=some (ys,h1)→Pad ι h h1∧ys.length=xs.length∧∀ (i:Nat) x y,xs[i]? =some x→ys[i]? =some y→∀ {I:Imm} {c:Value},RV tbl ι I x c→RV tbl ι I y c
 | [],ys,h,h1,hf,hm=> by
  simp only[mapS,wB,wH]at hm;obtain⟨rfl,rfl⟩:=hm;exact⟨.refl _ _,rfl,fun i x y hx=> by simp at hx⟩
 |x::xs,ys,h,h1,hf,hm=> by
  simp only[mapS]at hm;split at hm
  ·rename_i y h2 hy
   split at hm
   ·rename_i ys' h3 hys
    simp only[wB,wH]at hm;obtain⟨rfl,rfl⟩:=hm;obtain⟨p1,_,p2⟩:=nz1_spec (tbl:=tbl) hf hy;obtain⟨q1,q2,q3⟩:=nzs_spec (p1.fresh hf) hys;refine⟨p1.trans q1,by simp[q2],fun i a b ha hb=>?_⟩;cases i with
    |zero=> simp at ha hb; subst ha; subst hb; exact p2
    |succ i=> simp at ha hb; exact q3 i a b ha hb
   ·cases hm
  ·cases hm
theorem put_like{ι:Iota}{I:Imm}{h:Heap}{w:World}{key uid:Nat}{cs ds:List V}(hs:St tbl ι I h w)(hg:h.ents[key]? =some (uid,some cs))(hl:ds.length=cs.length)
  (hr:∀ (i:Nat) x y,cs[i]? =some x→ds[i]? =some y→∀ {c:Value},RV tbl ι I x c→RV tbl ι I y c):
  St tbl ι I (h.put key uid ds) w∧∀b i,zb ι (h.put key uid ds) b i→zb ι h b i:=by
 have hlt:=gA hg;have back:∀k u cs',(h.put key uid ds).ents[k]? =some (u,some cs')→∃cs0,h.ents[k]? =some (u,some cs0)∧((k=key∧u=uid∧cs'=ds∧cs0=cs)∨cs'=cs0):=by
  intro k u cs' he;unfold Heap.put at he;simp only[gK]at he;split at he
  ·rename_i hk
   subst hk;simp at he;obtain⟨rfl,rfl⟩:=he;exact⟨cs,hg,.inl ⟨rfl,rfl,rfl,rfl⟩⟩
  ·exact⟨cs',he,.inr rfl⟩
 refine⟨⟨fun k u cs' l he hlo=>?_,fun k u c1 l k' u' c2 l' a b c d=>?_,hs.imm,fun b o v hv ho=>?_⟩,fun b i ho=>?_⟩
 ·obtain⟨cs0,h0,h1⟩:=back k u cs' he
  have hL:=hs.ent k u cs0 l h0 hlo;rcases h1 with⟨rfl,rfl,rfl,rfl⟩|rfl
  ·obtain⟨c,elem,fr,g1,g2,g3,g4⟩:=hL.row
   refine⟨by rw[hl]; exact hL.ext,c,elem,fr,g1,g2,g3,fun i x hx=>?_⟩;have hi:=gA hx;have hc:cs0[i]? =some (cs0[i]'(by omega)):=gB (by omega);obtain⟨v,a1,a2,a3⟩:=g4 i _ hc;exact⟨v,a1,hr i _ _ hc hx a2,a3⟩
  ·exact hL
 ·obtain⟨cs0,h0,_⟩:=back _ _ _ a
  obtain⟨cs1,h1,_⟩:=back _ _ _ c;exact hs.sep _ _ _ _ _ _ _ _ h0 b h1 d
 ·obtain⟨k,u,cs',l,a1,a2,a3⟩:=ho
  obtain⟨cs0,h0,_⟩:=back _ _ _ a1;exact hs.immsep b o v hv ⟨k,u,cs0,l,h0,a2,a3⟩
 ·obtain⟨k,u,cs',l,a1,a2,a3⟩:=ho
  obtain⟨cs0,h0,_⟩:=back _ _ _ a1;exact⟨k,u,cs0,l,h0,a2,a3⟩
theorem nz_post{ι:Iota}{I:Imm}{h h':Heap}{w:World}{md:Option Nat}{x v:V}{c:Value}(hs:St tbl ι I h w)(hf:zM ι h)(hr:RV tbl ι I x c)(hn:nzV md x h=some (v,h')):PR tbl ι I h w v h' c w:=by
 have fin:∀ {h1:Heap},Pad ι h h1→RV tbl ι I v c→h'=h1→PR tbl ι I h w v h' c w:=by
  intro h1 p hv e;subst e;exact⟨ι,I,⟨fun _ _ _=> rfl,p.clk,Imm.le_refl _,p.st hs,⟨rfl,rfl,rfl,wE _,fun _ _ _=> rfl,fun b hb c elem fr hc=>⟨c,hc,rfl,fun _ _=> rfl⟩⟩,fun b i ho=> .inl (p.owned ho),fun b i v hv=> .inl hv⟩,hv⟩
 have row:∀ {key uid:Nat} {cs ds:List V} {h1:Heap},h.get key uid=some cs→mapS (nz1 md) cs h=some (ds,h1)→x=v→h'=h1.put key uid ds→PR tbl ι I h w v h' c w:=by
  intro key uid cs ds h1 hg hm e1 e2;subst e1; subst e2;obtain⟨p,q1,q2⟩:=nzs_spec (tbl:=tbl) hf hm;obtain⟨r1,r2⟩:=put_like (p.st hs) (p.kept (zz hg)) q1 (fun i x y hx hy {c} hc=> q2 i x y hx hy hc);exact⟨ι,I,⟨fun _ _ _=> rfl,p.clk,Imm.le_refl _,r1,⟨rfl,rfl,rfl,wE _,fun _ _ _=> rfl,fun b hb c elem fr hc=>⟨c,hc,rfl,fun _ _=> rfl⟩⟩,fun b i ho=> .inl (p.owned (r2 b i ho)),fun b i v hv=> .inl hv⟩,hr⟩
 unfold nzV at hn;split at hn
 ·rename_i cs
  split at hn
  ·rename_i ds h1 hm
   obtain⟨rfl,rfl⟩:=qd hn;obtain⟨p,q1,q2⟩:=nzs_spec (tbl:=tbl) hf hm;obtain⟨vs,rfl,v1,v2⟩:=hr.of_agg;refine fin p ?_ rfl;refine .agg ds vs (by rw[v1.len,q1]) v2 fun i y z hy hz=>?_;have hi:=gA hy;have hc:cs[i]? =some (cs[i]'(by omega)):=gB (by omega);exact q2 i _ _ hc hy (v1.at_ i _ _ hc hz)
  ·cases hn
 ·split at hn
  ·rename_i cs hg
   split at hn
   ·rename_i ds h1 hm
    obtain⟨e1,e2⟩:=qd hn;exact row hg hm e1.symm e2
   ·cases hn
  ·cases hn
 ·split at hn
  ·rename_i cs hg
   split at hn
   ·rename_i ds h1 hm
    obtain⟨e1,e2⟩:=qd hn;exact row hg hm e1.symm e2
   ·cases hn
  ·cases hn
 ·obtain⟨p,_,q⟩:=nz1_spec (tbl:=tbl) hf hn
  exact fin p (q hr) rfl
end Rv
namespace Rv
open Go (IntKind BinOp UnOp Program Value Operand Oper Code TypeId Func World Addr Obj Act Calls execOp)
set_option maxRecDepth 10000
variable {tbl:Nat→Option Nat} {P:Program}
theorem frm_refl(ι:Iota)(h:Heap)(w:World):Frm ι h w w:=⟨rfl,rfl,rfl,wE _,fun _ _ _=> rfl,fun b hb c elem fr hc=>⟨c,hc,rfl,fun _ _=> rfl⟩⟩
theorem Post.trans{ι κ μ:Iota}{I J K:Imm}{h h1 h2:Heap}{w w1 w2:World}(p:Post tbl ι I h w κ J h1 w1)(q:Post tbl κ J h1 w1 μ K h2 w2):Post tbl ι I h w μ K h2 w2:=by
 have hno:∀b,b < w.heap.size→(∀i,¬zb ι h b i)→∀i,¬zb κ h1 b i:=fun b hb hn i ho=> by
  rcases p.own b i ho with h3|h3
  ·exact hn i h3
  ·omega
 have hs:=p.frm.size;refine⟨fun k u hk=>?_,vM p.clk q.clk,Imm.le_trans p.imm q.imm,q.st,⟨q.frm.os.trans p.frm.os,q.frm.tape.trans p.frm.tape,q.frm.output.trans p.frm.output,vM p.frm.size q.frm.size,fun b hb hn=>?_,fun b hb c elem fr hc=>?_⟩,fun b i ho=>?_,fun b i v hv=>?_⟩
 ·have:=p.clk
  have:=q.clk;rw[q.iota k u (by omega),p.iota k u (by omega)]
 ·rw[q.frm.block b (by omega) (hno b hb hn),p.frm.block b hb hn]
 ·obtain⟨c1,a1,a2,a3⟩:=p.frm.cell b hb c elem fr hc
  obtain⟨c2,b1,b2,b3⟩:=q.frm.cell b (by omega) c1 elem fr a1;refine⟨c2,b1,by omega,fun i hi=>?_⟩;rw[b3 i (fun ho=> by
   rcases p.own b i ho with h3|h3
   ·exact hi h3
   ·omega),a3 i hi]
 ·rcases q.own b i ho with h3|h3
  ·exact p.own b i h3
  ·exact .inr (by omega)
 ·rcases q.immnew b i v hv with h3|h3|h3
  ·exact p.immnew b i v h3
  ·exact(p.own b i h3).elim (fun h=> .inr (.inl h)) fun h=> .inr (.inr h)
  ·exact .inr (.inr (by omega))
theorem frz_post{ι:Iota}{I:Imm}{h h':Heap}{w:World}{x v:V}{c:Value}(hs:St tbl ι I h w)(hr:RV tbl ι I x c)(ht:take FZ [] x h=some (v,h')):PR tbl ι I h w v h' c w:=by
 obtain⟨L,hO,hT⟩:=take_own FZ [] x c h v h' hs hr ht;refine⟨ι,zA I w L,⟨fun _ _ _=> rfl,by rw[hT.sub.clk]; exact wE _,flag_le I w L,?_,frm_refl _ _ _,fun b i ho=> .inl (hT.sub.owned ho),fun b i v hv=>?_⟩,.imm (own_leaf (flag_le I w L) hO rfl (flag_cover hs.imm))⟩
 ·have h1:=hs.sub hT.sub
  refine⟨fun key uid cs l a b=>(h1.ent key uid cs l a b).mono (Iota.le_refl _) (flag_le I w L) rfl,h1.sep,fun b o v hv=> flag_cell hs.imm hv,fun b o v hv ho=>?_⟩;rcases flag_new hv with h3|⟨y,hy,_,hyb⟩
  ·exact h1.immsep b o v h3 ho
  ·exact(hT.inn y hy b o hyb).2 ho
 ·rcases flag_new hv with h3|⟨y,hy,_,hyb⟩
  ·exact .inl h3
  ·exact .inr (.inl (hT.inn y hy b i hyb).1)
section
variable {ι:Iota} {I:Imm} {h h':Heap} {w:World} {a:Act} {e:Env} {v:V} {call:Call}
theorem compXs_of(he:RVe tbl ι I e a.tmps){l:List Operand}{l':List X}(h:mapO (qO tbl) l=some l'):RVs tbl ι I (l'.map (X.ev e)) (l.map a.eval):=compXs_rv he h
theorem callf_run{f:Nat}{args:Array Operand}{ats:Array TypeId}{dst:Option Nat}{ty:TypeId}{pos:String}{af:Array Go.Edge}{gd:Option (Nat×Bool)}(hT:TblOK P tbl){g:Nat}(hf:tbl f=some g):
  (execOp a.eval ⟨dst,.call ⟨.value (.func f),args,ats⟩,ty,pos,af,gd⟩).run P w= .ok (.enter f (args.toList.map a.eval).toArray) w:=by
 obtain⟨fn,h1,h2,h3⟩:=hT f g hf;have:=callFunc_run (args:=(args.toList.map a.eval).toArray) (w:=w) h1 h2 h3;have e:(args.toList.map a.eval).toArray=args.map a.eval:=by cases args; simp
 rw[e]at this ⊢;simpa[execOp,Go.resolve,Go.Deferred.ofValue,Act.eval,Go.invoke]using this
theorem callv_run{f t:Nat}{fs cs:List Value}{args:Array Operand}{ats:Array TypeId}{dst:Option Nat}{ty:TypeId}{pos:String}{af:Array Go.Edge}{gd:Option (Nat×Bool)}(hT:TblOK P tbl){g:Nat}(hf:tbl f=some g)
  (hv:a.eval (.tmp t)= .func (.func f) fs.toArray cs.toArray):
  (execOp a.eval ⟨dst,.call ⟨.value (.tmp t),args,ats⟩,ty,pos,af,gd⟩).run P w= .ok (.enter f (fs++args.toList.map a.eval++cs).toArray) w:=by
 obtain⟨fn,h1,h2,h3⟩:=hT f g hf;have:=callFunc_run (args:=(fs++args.toList.map a.eval++cs).toArray) (w:=w) h1 h2 h3;have e:(fs++args.toList.map a.eval++cs).toArray=fs.toArray++(args.map a.eval++cs.toArray):=by cases args; simp
 rw[e]at this ⊢;simpa[execOp,Go.resolve,Go.Deferred.ofValue,hv,Go.invoke]using this
theorem callM_plain(hcall:jD P tbl call){f g:Nat}(hf:tbl f=some g){args:List V}{cargs:List Value}(hs:St tbl ι I h w)(hfr:zM ι h)(hr:RVs tbl ι I args cargs)(hev:zY call .plain g args h=some (v,h')):
  Calls P f cargs.toArray w fun e w'=>∃c,e= .returned c∧PR tbl ι I h w v h' c w':=by
 refine(hcall g args h v h' hev f hf ι I w cargs hs hfr hr).mono ?_;rintro e w' ⟨c,κ,J,rfl,p,q⟩;exact⟨c,rfl,κ,J,p,q⟩
theorem callM_loud(hcall:jD P tbl call){ds:List Nat}{f g:Nat}(hf:tbl f=some g){args:List V}{cargs:List Value}(hs:St tbl ι I h w)(hfr:zM ι h)(hr:RVs tbl ι I args cargs)(hev:zY call (.thr ds) g args h=some (v,h')):
  Calls P f cargs.toArray w fun e w'=>∃c,e= .returned c∧PR tbl ι I h w v h' c w':=by
 refine(callM_thr hcall hev hf hs hfr hr).mono ?_;rintro e w' ⟨c,κ,J,rfl,p,q⟩;exact⟨c,rfl,κ,J,p,q⟩
theorem callM_quiet(hcall:jD P tbl call){ds:List Nat}{f g:Nat}(hf:tbl f=some g){args:List V}{cargs:List Value}(hs:St tbl ι I h w)(hfr:∀k u,h.clk≤u→u < h'.clk→ι k u=none)(hr:RVs tbl ι I args cargs)(hev:zY call (.pure ds) g args h=some (v,h')):
  Calls P f cargs.toArray w fun e w'=>∃c,e= .returned c∧QR tbl ι I h w v h' c w':=by
 refine(callM_pure hcall hev hf hs hfr hr).mono ?_;rintro e w' ⟨c,κ,J,rfl,p,q⟩;exact⟨c,rfl,κ,J,p,q⟩
theorem callf_inv{go:Oper}{md:Md}{g:Nat}{l:List X}(hc:qx P tbl go=some (qR (.callf md g l))):∃f args ats,go.op= .call ⟨.value (.func f),args,ats⟩∧tbl f=some g∧mapO (qO tbl) args.toList=some l:=by
 obtain⟨dst,op,ty,pos,af,gd⟩:=go;simp only[qR]at hc;cases op with
 |call c=>
  obtain⟨callee,args,ats⟩:=c;cases callee with
  |invoke r n=> simp only[qx]at hc; cases hc
  |builtin b=> exfalso; cases b <;> simp only[qx]at hc <;>(repeat' split at hc)<;> cases hc
  |value f=>
   cases f with
   |func f=>
    simp only[qx]at hc;split at hc
    ·rename_i g' hg
     split at hc
     ·rename_i l' hl
      cases hc;exact⟨f,args,ats,rfl,hg,hl⟩
     ·cases hc
    ·cases hc
   |_=> exfalso; simp only[qx]at hc <;>(repeat' split at hc)<;> cases hc
 |makeFunc f fst cap=> exfalso; cases f <;> simp only[qx]at hc <;>(repeat' split at hc)<;> cases hc
 |slice t x lo hi mx=> exfalso; cases mx <;> simp only[qx]at hc <;>(repeat' split at hc)<;> cases hc
 |_=> exfalso; simp only[qx]at hc;(repeat' split at hc)<;> cases hc
theorem callv_inv{go:Oper}{md:Md}{x:X}{l:List X}(hc:qx P tbl go=some (qR (.callv md x l))):∃t args ats,go.op= .call ⟨.value (.tmp t),args,ats⟩∧x= .t t∧mapO (qO tbl) args.toList=some l:=by
 obtain⟨dst,op,ty,pos,af,gd⟩:=go;simp only[qR]at hc;cases op with
 |call c=>
  obtain⟨callee,args,ats⟩:=c;cases callee with
  |invoke r n=> simp only[qx]at hc; cases hc
  |builtin b=> exfalso; cases b <;> simp only[qx]at hc <;>(repeat' split at hc)<;> cases hc
  |value f=>
   cases f with
   |tmp t=>
    simp only[qx]at hc;split at hc
    ·rename_i l' hl
     cases hc;exact⟨t,args,ats,rfl,rfl,hl⟩
    ·cases hc
   |_=> exfalso; simp only[qx]at hc <;>(repeat' split at hc)<;> cases hc
 |makeFunc f fst cap=> exfalso; cases f <;> simp only[qx]at hc <;>(repeat' split at hc)<;> cases hc
 |slice t x lo hi mx=> exfalso; cases mx <;> simp only[qx]at hc <;>(repeat' split at hc)<;> cases hc
 |_=> exfalso; simp only[qx]at hc;(repeat' split at hc)<;> cases hc
theorem frz_inv{go:Oper}{y:X}(hc:qx P tbl go=some (qR (.frz y))):∃x,(go.op= .move x∨go.op= .assign x)∧qO tbl x=some y:=by
 obtain⟨dst,op,ty,pos,af,gd⟩:=go;simp only[qR]at hc;cases op with
 |move x=>
  simp only[qx]at hc;split at hc
  ·rename_i y' hy; cases hc; exact⟨x,.inl rfl,hy⟩
  ·cases hc
 |assign x=>
  simp only[qx]at hc;split at hc
  ·rename_i y' hy; cases hc; exact⟨x,.inr rfl,hy⟩
  ·cases hc
 |call c=>
  obtain⟨callee,args,ats⟩:=c;exfalso;cases callee with
  |invoke r n=> simp only[qx]at hc; cases hc
  |builtin b=> cases b <;> simp only[qx]at hc <;>(repeat' split at hc)<;> cases hc
  |value f=> cases f <;> simp only[qx]at hc <;>(repeat' split at hc)<;> cases hc
 |makeFunc f fst cap=> exfalso; cases f <;> simp only[qx]at hc <;>(repeat' split at hc)<;> cases hc
 |slice t x lo hi mx=> exfalso; cases mx <;> simp only[qx]at hc <;>(repeat' split at hc)<;> cases hc
 |_=> exfalso; simp only[qx]at hc;(repeat' split at hc)<;> cases hc
theorem callf_does{R:Value→World→Prop}(hT:TblOK P tbl){go:Oper}{md:Md}{g:Nat}{l:List X}(hc:qx P tbl go=some (qR (.callf md g l)))(he:RVe tbl ι I e a.tmps)
  (hk:∀f cargs,tbl f=some g→RVs tbl ι I (l.map (X.ev e)) cargs→Calls P f cargs.toArray w fun e w'=>∃c,e= .returned c∧R c w'):Does P go a w R:=by
 obtain⟨f,args,ats,h1,h2,h3⟩:=callf_inv hc;obtain⟨dst,op,ty,pos,af,gd⟩:=go;simp only at h1;subst h1;exact .of_calls hT h2 (callf_run hT h2) (hk f _ h2 (compXs_of he h3))
theorem callv_does{R:Value→World→Prop}(hT:TblOK P tbl){go:Oper}{md:Md}{x:X}{l:List X}(hc:qx P tbl go=some (qR (.callv md x l)))(he:RVe tbl ι I e a.tmps){g:Nat}{fs cs:List V}(hx:x.ev e= .fn g fs cs)
  (hk:∀f cargs,tbl f=some g→RVs tbl ι I (fs++l.map (X.ev e)++cs) cargs→Calls P f cargs.toArray w fun e w'=>∃c,e= .returned c∧R c w'):Does P go a w R:=by
 obtain⟨t,args,ats,h1,rfl,h3⟩:=callv_inv hc;have h4:=qp (x:= .tmp t) he rfl;rw[hx]at h4;obtain⟨f,fs',cs',h5,h6,h7,h8⟩:=h4.of_fn;obtain⟨dst,op,ty,pos,af,gd⟩:=go;simp only at h1;subst h1;exact .of_calls hT h5 (callv_run hT h5 h6) (hk f _ h5 ((h7.append (compXs_of he h3)).append h8))
theorem xt(hT:TblOK P tbl)(hcall:jD P tbl call)(hs:St tbl ι I h w)(he:RVe tbl ι I e a.tmps){go:Oper}{o:O}(hc:qx P tbl go=some (qR o))(hq:o.quiet=true)
  (hfr:∀k u,h.clk≤u→u < h'.clk→ι k u=none) (hev:opEv call o e h=some (v,h')):Does P go a w (QR tbl ι I h w v h'):=by
 by_cases h1:∃md g l,o= .callf md g l
 ·obtain⟨md,g,l,rfl⟩:=h1
  cases md with
  |plain=> simp[O.quiet]at hq
  |thr ds=> simp[O.quiet]at hq
  |pure ds=>
   simp only[opEv]at hev;exact callf_does hT hc he fun f cargs hf hr=> callM_quiet hcall hf hs hfr hr hev
 by_cases h2:∃md f l,o= .callv md f l
 ·obtain⟨md,x,l,rfl⟩:=h2
  cases md with
  |plain=> simp[O.quiet]at hq
  |thr ds=> simp[O.quiet]at hq
  |pure ds=>
   simp only[opEv]at hev;split at hev
   ·rename_i g fs cs hx
    exact callv_does hT hc he hx fun f cargs hf hr=> callM_quiet hcall hf hs hfr hr hev
   ·cases hev
 exact(q_does hs he hc hq (fun md g l e=> h1 ⟨md,g,l,e⟩) (fun md f l e=> h2 ⟨md,f,l,e⟩) hfr hev).does
theorem QR.pr{c:Value}{w':World}(hs:St tbl ι I h w)(hfr:∀k u,h.clk≤u→u < h'.clk→ι k u=none)(q:QR tbl ι I h w v h' c w'):PR tbl ι I h w v h' c w':=by
 obtain⟨κ,J,p,r⟩:=q;exact⟨κ,J,p.post hs hfr,r⟩
theorem Does.mono{go:Oper}{R S:Value→World→Prop}(h:Does P go a w R)(k:∀c w',R c w'→S c w'):Does P go a w S:=
 fun next Q hn=> h next Q fun c w' hr=> hn c w' (k c w' hr)
theorem op_does0(hT:TblOK P tbl)(hcall:jD P tbl call)(hs:St tbl ι I h w)(hfr:zM ι h)(he:RVe tbl ι I e a.tmps){go:Oper}{o:O}(hff:o.isFz=false)(hc:qx P tbl go=some (qR o))
  (hev:opEv call o e h=some (v,h')):Does P go a w (PR tbl ι I h w v h'):=by
 have hfr':∀k u,h.clk≤u→u < h'.clk→ι k u=none:=fun k u hk _=> hfr k u hk;by_cases hq:o.quiet=true
 ·exact(xt hT hcall hs he hc hq hfr' hev).mono fun c w' q=> q.pr hs hfr'
 by_cases h1:∃md g l,o= .callf md g l
 ·obtain⟨md,g,l,rfl⟩:=h1
  cases md with
  |pure ds=> simp[O.quiet]at hq
  |thr ds=>
   simp only[opEv]at hev;exact callf_does hT hc he fun f cargs hf hr=> callM_loud hcall hf hs hfr hr hev
  |plain=>
   simp only[opEv]at hev;exact callf_does hT hc he fun f cargs hf hr=> callM_plain hcall hf hs hfr hr hev
 by_cases h2:∃md f l,o= .callv md f l
 ·obtain⟨md,x,l,rfl⟩:=h2
  cases md with
  |pure ds=> simp[O.quiet]at hq
  |thr ds=>
   simp only[opEv]at hev;split at hev
   ·rename_i g fs cs hx
    exact callv_does hT hc he hx fun f cargs hf hr=> callM_loud hcall hf hs hfr hr hev
   ·cases hev
  |plain=>
   simp only[opEv]at hev;split at hev
   ·rename_i g fs cs hx
    exact callv_does hT hc he hx fun f cargs hf hr=> callM_plain hcall hf hs hfr hr hev
   ·cases hev
 by_cases h3:∃x,o= .frz x
 ·obtain⟨y,rfl⟩:=h3
  obtain⟨x,hx,hy⟩:=frz_inv hc;simp only[opEv]at hev;obtain⟨dst,op,ty,pos,af,gd⟩:=go;simp only at hx;have:=frz_post hs (qp he hy) hev;rcases hx with rfl|rfl
  ·exact .of_run (c:=a.eval x) (w':=w) (by simp[execOp]) this
  ·exact .of_run (c:=a.eval x) (w':=w) (by simp[execOp]) this
 exact(w_does hs he hc (by simpa using hq) (fun md g l e=> h1 ⟨md,g,l,e⟩) (fun md f l e=> h2 ⟨md,f,l,e⟩) (fun x e=> h3 ⟨x,e⟩) hff hfr hev).does
theorem op_does(hT:TblOK P tbl)(hcall:jD P tbl call)(hs:St tbl ι I h w)(hfr:zM ι h)(he:RVe tbl ι I e a.tmps){go:Oper}{o:O}(hc:qx P tbl go=some (qR o))
  (hev:opEv call o e h=some (v,h')):Does P go a w (PR tbl ι I h w v h'):=by
 induction o generalizing v h' with
 |fz o' ih=>
  simp only[opEv]at hev;split at hev
  ·rename_i v1 h1 hv1
   refine(ih (v:=v1) (h':=h1) hc hv1).mono ?_;rintro c w' ⟨κ,J,p,r⟩;obtain⟨κ',J',p',r'⟩:=frz_post p.st r hev;exact⟨κ',J',p.trans p',r'⟩
  ·cases hev
 |nz md o' ih=>
  simp only[opEv]at hev;split at hev
  ·rename_i v1 h1 hv1
   refine(ih (v:=v1) (h':=h1) hc hv1).mono ?_;rintro c w' ⟨κ,J,p,r⟩;have hfr1:zM κ h1:=fun k u hk=> by
    have:=p.clk;rw[p.iota k u (.inr hk)];exact hfr k u (by omega)
   obtain⟨κ',J',p',r'⟩:=nz_post p.st hfr1 r hev;exact⟨κ',J',p.trans p',r'⟩
  ·cases hev
 |_=> exact op_does0 hT hcall hs hfr he rfl hc hev
end
end Rv
namespace Rv
open Go (IntKind BinOp UnOp Program Value Operand Oper Code TypeId Func World Addr Obj Act Calls execOp wpOps)
set_option maxRecDepth 10000
variable {tbl:Nat→Option Nat} {P:Program}
theorem Post.refl{ι:Iota}{I:Imm}{h:Heap}{w:World}(hs:St tbl ι I h w):Post tbl ι I h w ι I h w:=
 ⟨fun _ _ _=> rfl,wE _,Imm.le_refl _,hs,frm_refl _ _ _,fun b i ho=> .inl ho,fun b i v hv=> .inl hv⟩
theorem Post.fresh{ι κ:Iota}{I J:Imm}{h h1:Heap}{w w1:World}(p:Post tbl ι I h w κ J h1 w1)(hf:zM ι h):zM κ h1:=fun k u hk=> by
 have:=p.clk;rw[p.iota k u (.inr hk)]; exact hf k u (by omega)
theorem Post.le{ι κ:Iota}{I J:Imm}{h h1:Heap}{w w1:World}(p:Post tbl ι I h w κ J h1 w1)(hf:zM ι h):ι.le κ:=xx p.iota fun k u hk _=> hf k u hk
theorem put_rv{ι:Iota}{I:Imm}{e:Env}{a:Act}(he:RVe tbl ι I e a.tmps)(dst:Option Nat){v:V}{c:Value}(h:RV tbl ι I v c):RVe tbl ι I (e.put dst v) (a.put dst c).tmps:=by
 cases dst with
 |none=> exact he
 |some d=>
  simp only[Env.put,Act.put];refine⟨by simp[he.len],fun i x y hx hy=>?_⟩;rw[Array.toList_setIfInBounds,gK]at hy;rw[gK]at hx;split at hx
  ·rename_i hd
   subst hd;rw[if_pos rfl]at hy;split at hx
   ·split at hy
    ·cases hx; cases hy; exact h
    ·cases hy
   ·cases hx
  ·rename_i hd
   rw[if_neg hd]at hy;exact he.at_ i x y hx hy
theorem zD(a:Act)(dst:Option Nat)(c:Value):(a.put dst c).defers=a.defers:=by cases dst <;> rfl
theorem rv_bool{ι:Iota}{I:Imm}{v:V}{b:Bool}(h:RV tbl ι I v (.bool b)):v= .bool b:=by
 cases h with
 |imm h=> cases h; rfl
theorem wanted_eq{ι:Iota}{I:Imm}{e:Env}{a:Act}(he:RVe tbl ι I e a.tmps){ops:Array Oper}{go:Oper}{o:Op}
  (hg:(go.guard=none∧o.guard=none)∨∃j w t,go.guard=some (j,w)∧(ops[j]?).bind (·.dst)=some t∧o.guard=some (t,w)):
  Go.Region.wanted go (Go.yielded ops a.tmps)=o.wanted e:=by
 rcases hg with⟨h1,h2⟩|⟨j,w,t,h1,h2,h3⟩
 ·simp[Go.Region.wanted,Op.wanted,h1,h2]
 ·simp only[Go.Region.wanted,Op.wanted,h1,h3]
  have hy:Go.yielded ops a.tmps j=match a.tmps[t]? with|some (.bool b)=> some b|_=> none:=by
   unfold Go.yielded;rw[h2]; rfl
  rw[hy];cases hx:e[t]? with
  |none=>
   have h4:a.tmps[t]? =none:=by
    rw[←gJ,List.getElem?_eq_none_iff,he.len];exact List.getElem?_eq_none_iff.1 hx
   have h5:e.at t=V.undef:=by simp[Env.at,gD,hx]
   rw[h4,h5]; rfl
  |some v=>
   obtain⟨c,hc,hr⟩:=he.get hx;have h5:e.at t=v:=by simp[Env.at,gD,hx]
   rw[gJ]at hc;rw[hc,h5];cases v with
   |bool b=>
    have:=hr.of_bool;subst this;cases b <;> cases w <;> rfl
   |_=>
    cases c with
    |bool b=> have:=rv_bool hr; cases this
    |_=> rfl
theorem abort_none{o:O}(h:qR o= .abort){call:Call}{e:Env}{hp:Heap}:opEv call o e hp=none:=by
 induction o with
 |fz o ih=> simp only[opEv,ih h]
 |nz md o ih=> simp only[opEv,ih h]
 |abort=> rfl
 |_=> simp only[qR]at h; cases h
theorem compOp_inv{ops:Array Oper}{go:Oper}{o:Op}(h:compOp P tbl ops go=some ⟨o.dst,qR o.op,o.guard⟩):
  go.dst=o.dst∧(qx P tbl go=some (qR o.op)∨qR o.op= .abort)∧((go.guard=none∧o.guard=none)∨∃j w t,go.guard=some (j,w)∧(ops[j]?).bind (·.dst)=some t∧o.guard=some (t,w)):=by
 have key:∀ {g},(⟨go.dst,(qx P tbl go).getD .abort,g⟩:Op)=⟨o.dst,qR o.op,o.guard⟩→go.dst=o.dst∧(qx P tbl go=some (qR o.op)∨qR o.op= .abort)∧g=o.guard:=by
  intro g h;injection h with h1 h2 h3
  refine⟨h1,?_,h3⟩;cases hc:qx P tbl go with
  |some q=> rw[hc]at h2; exact .inl (by simp at h2; rw[h2])
  |none=>
   rw[hc]at h2;simp at h2;exact .inr h2.symm
 unfold compOp at h;simp only at h;split at h
 ·rename_i hg
  obtain⟨h1,h2,h3⟩:=key (wA h);exact⟨h1,h2,.inl ⟨hg,h3.symm⟩⟩
 ·rename_i j w hg
  split at h
  ·rename_i t ht
   obtain⟨h1,h2,h3⟩:=key (wA h);exact⟨h1,h2,.inr ⟨j,w,t,hg,ht,h3.symm⟩⟩
  ·cases h
def erOp(o:Op):Op:=⟨o.dst,qR o.op,o.guard⟩
theorem op_step{call:Call}(hT:TblOK P tbl)(hcall:jD P tbl call){ops:Array Oper}{go:Oper}{o:Op}(hc:compOp P tbl ops go=some (erOp o)){ι:Iota}{I:Imm}{h h1:Heap}{w:World}{e e1:Env}{a:Act}
  (hs:St tbl ι I h w) (hfr:zM ι h) (he:RVe tbl ι I e a.tmps) (hev:o.ev call e h=some (e1,h1)) {Q:Go.Exit→Act→World→Prop} {K:Act→World→Prop}
  (hK:∀a' w' κ J,Post tbl ι I h w κ J h1 w'→RVe tbl κ J e1 a'.tmps→a'.defers=a.defers→K a' w'):
  if Go.Region.wanted go (Go.yielded ops a.tmps)then go.wp P a w K Q∨(go.asks P a w∧Go.LetsOut Q)else K (a.put go.dst Go.undef) w:=by
 obtain⟨h1',h2,h3⟩:=compOp_inv hc;rw[wanted_eq he h3];unfold Op.ev at hev;split at hev
 ·rename_i hw
  rw[if_pos hw];left;split at hev
  ·rename_i v hh hop
   obtain⟨rfl,rfl⟩:=qd hev;rcases h2 with h2|h2
   ·refine op_does hT hcall hs hfr he h2 hop K Q ?_
    rintro c w' ⟨κ,J,p,r⟩;exact hK _ _ κ J p (by rw[h1']; exact put_rv (he.mono fun _ _ x=> x.mono (p.le hfr) p.imm) o.dst r) (zD _ _ _)
   ·rw[abort_none h2]at hop; cases hop
  ·cases hev
 ·rename_i hw
  rw[if_neg hw];obtain⟨rfl,rfl⟩:=qd hev;exact hK _ _ ι I (.refl hs) (by rw[h1']; exact put_rv he o.dst .undef) (zD _ _ _)
theorem seq_ops{call:Call}(hT:TblOK P tbl)(hcall:jD P tbl call){ops:Array Oper}{al:List Op}(hm:mapO (compOp P tbl ops) ops.toList=some (al.map erOp)){Q:Go.Exit→Act→World→Prop}:
  ∀ (rest:List Op) (i:Nat),al.drop i=rest→∀ (ι:Iota) (I:Imm) (h h':Heap) (w:World) (e e':Env) (a:Act),St tbl ι I h w→zM ι h→RVe tbl ι I e a.tmps→jG call rest e h=some (e',h')→
   (∀a' w' κ J,Post tbl ι I h w κ J h' w'→RVe tbl κ J e' a'.tmps→a'.defers=a.defers→Q .normal a' w')→wpOps P ops Q (List.range' i rest.length) a w:=by
 intro rest;induction rest with
 |nil=>
  intro i _ ι I h h' w e e' a hs hfr he hev hQ;simp only[jG]at hev;obtain⟨rfl,rfl⟩:=qd hev;simp only[vH,List.range'_zero,wpOps];exact hQ a w ι I (.refl hs) he rfl
 |cons o os ih=>
  intro i hd ι I h h' w e e' a hs hfr he hev hQ;have ho:al[i]? =some o:=by
   have:=congrArg (fun l=> l[0]?) hd;simpa using this
  have hd':al.drop (i+1)=os:=by
   have:=congrArg List.tail hd;simpa using this
  obtain⟨hl,hmm⟩:=zC hm;have hgo:∃go,ops[i]? =some go∧compOp P tbl ops go=some (erOp o):=by
   have hlt:i < ops.toList.length:=by
    rw[←hl,vX]; exact(gA ho)
   obtain⟨y,hy,hf⟩:=hmm i ops.toList[i] (by rw[gB hlt]);rw[gG,ho]at hy;cases hy;exact⟨_,by rw[←gJ,gB hlt],hf⟩
  obtain⟨go,hg,hc⟩:=hgo;simp only[vF,List.range'_succ,wpOps,hg];simp only[jG]at hev;split at hev
  ·rename_i e1 h1 hop
   refine op_step hT hcall hc hs hfr he hop fun a1 w1 κ J p r hdf=>?_;refine ih (i+1) hd' κ J h1 h' w1 e1 e' a1 p.st (p.fresh hfr) r hev fun a2 w2 μ K q r2 hdf2=>?_;exact hQ a2 w2 μ K (p.trans q) r2 (hdf2.trans hdf)
  ·cases hev
end Rv
namespace Rv
open Go (IntKind BinOp UnOp Program Value Operand Oper Code TypeId Func World Addr Obj Act Calls execOp wpOps)
set_option maxRecDepth 10000
def X.looks:X→List Nat
 | .t n=>[n]
 | .c _=>[]
def Xs(l:List X):List Nat:=l.flatMap X.looks
def Xo(l:Option X):List Nat:=match l with|some x=> x.looks|none=>[]
def O.looks:O→List Nat
 | .load md _ x=> md.looks++x.looks
 | .blit _ _ _ ps=> Xs (ps.map fun p=> p.2.2)
 | .move x| .frz x| .box x| .nilCheck x| .un _ x| .toInt _ x| .toStr x| .fieldAddr _ x| .field _ _ x| .extract _ x| .len x| .lenS x| .cap x=> x.looks
 | .pick c a b=> c.looks++a.looks++b.looks
 | .alloc _| .abort=>[]
 | .build _ ps=> Xs (ps.map fun p=> p.2.2)
 | .buildSlice _ _ _ ps=> Xs (ps.map fun p=> p.2.2)
 | .store _ x y| .bin _ _ x y| .eqS _ _ _ x y| .makeSlice _ _ _ x y| .indexAddr _ _ x y| .indexA _ _ _ x y| .indexS x y| .append _ _ x y| .appendZ _ _ _ x y| .copy _ x y| .max2 x y| .min2 x y=> x.looks++y.looks
 | .mkfn _ fs cs=> Xs fs++Xs cs
 | .slice _ x lo hi| .sliceS x lo hi=> x.looks++Xo lo++Xo hi
 | .callf _ _ l=> Xs l
 | .callv _ f l=> f.looks++Xs l
 | .fz o=> o.looks
 | .nz _ o=> o.looks
def Op.looks(o:Op):List Nat:=o.op.looks++(match o.guard with|some (t,_)=>[t]|none=>[])
theorem X.ev_congr{e e':Env}{x:X}(h:∀t∈x.looks,e.at t=e'.at t):x.ev e=x.ev e':=by
 cases x with
 |t n=> exact h n (by simp[X.looks])
 |c v=> rfl
theorem Xs_congr{e e':Env}{l:List X}(h:∀t∈Xs l,e.at t=e'.at t):l.map (X.ev e)=l.map (X.ev e'):=
 yQ fun x hx=> X.ev_congr fun t ht=> h t (List.mem_flatMap.2 ⟨x,hx,ht⟩)
theorem Xo_congr{e e':Env}{l:Option X}(h:∀t∈Xo l,e.at t=e'.at t):l.map (X.ev e)=l.map (X.ev e'):=by
 cases l with
 |none=> rfl
 |some x=> simp only[vI]; rw[X.ev_congr h]
theorem xH{e e':Env}:∀ {ps:List (Nat×Nat×X)} {cs:List V},(∀t∈Xs (ps.map fun p=> p.2.2),e.at t=e'.at t)→jX e ps cs=jX e' ps cs:=by
 intro ps;induction ps with
 |nil=> intro cs _; rfl
 |cons p ps ih=>
  intro cs h;obtain⟨off,size,x⟩:=p;have hx:x.ev e=x.ev e':=X.ev_congr fun t ht=> h t (by simp only[Xs,vB,vT]; exact vJ _ ht);simp only[jX,hx];split
  ·exact ih fun t ht=> h t (by simp only[Xs,vB,vT]at ht ⊢; exact vZ _ ht)
  ·rfl
theorem opEv_congr{call:Call}{o:O}{e e':Env}{h:Heap}(hl:∀t∈o.looks,e.at t=e'.at t):opEv call o e h=opEv call o e' h:=by
 induction o <;> simp only[O.looks,wN]at hl
 case fz o ih=> simp only[opEv,ih hl]
 case nz md o ih=> simp only[opEv,ih hl]
 case move x=> simp only[opEv,X.ev_congr hl]
 case frz x=> simp only[opEv,X.ev_congr hl]
 case box x=> simp only[opEv,X.ev_congr hl]
 case load b n x=>
  have hb:∀key,Ld.bars e key b=Ld.bars e' key b:=fun key=> by
   cases b with
   |any=> rfl
   |imm=> rfl
   |apart s=> simp only[Ld.bars,hl s (.inl (by simp[Ld.looks]))]
  simp only[opEv,X.ev_congr (x:=x) (fun t ht=> hl t (.inr ht)),hb]
 case nilCheck x=> simp only[opEv,X.ev_congr hl]
 case un op x=> simp only[opEv,X.ev_congr hl]
 case toInt k x=> simp only[opEv,X.ev_congr hl]
 case toStr x=> simp only[opEv,X.ev_congr hl]
 case fieldAddr f x=> simp only[opEv,X.ev_congr hl]
 case field f n x=> simp only[opEv,X.ev_congr hl]
 case extract i x=> simp only[opEv,X.ev_congr hl]
 case len x=> simp only[opEv,X.ev_congr hl]
 case lenS x=> simp only[opEv,X.ev_congr hl]
 case cap x=> simp only[opEv,X.ev_congr hl]
 case pick c a b=> simp only[opEv,X.ev_congr (x:=c) (fun t ht=> hl t (.inl (.inl ht))),X.ev_congr (x:=a) (fun t ht=> hl t (.inl (.inr ht))),X.ev_congr (x:=b) (fun t ht=> hl t (.inr ht))]
 case alloc cs=> rfl
 case abort=> rfl
 case build z ps=> simp only[opEv,xH hl]
 case buildSlice a b z ps=> simp only[opEv,xH hl]
 case blit a b z ps=> simp only[opEv,xH hl]
 case store n x y=> simp only[opEv,X.ev_congr (x:=x) (fun t ht=> hl t (.inl ht)),X.ev_congr (x:=y) (fun t ht=> hl t (.inr ht))]
 case bin k op x y=> simp only[opEv,X.ev_congr (x:=x) (fun t ht=> hl t (.inl ht)),X.ev_congr (x:=y) (fun t ht=> hl t (.inr ht))]
 case eqS n d l x y=> simp only[opEv,X.ev_congr (x:=x) (fun t ht=> hl t (.inl ht)),X.ev_congr (x:=y) (fun t ht=> hl t (.inr ht))]
 case makeSlice s b z x y=> simp only[opEv,X.ev_congr (x:=x) (fun t ht=> hl t (.inl ht)),X.ev_congr (x:=y) (fun t ht=> hl t (.inr ht))]
 case indexAddr s b x y=> simp only[opEv,X.ev_congr (x:=x) (fun t ht=> hl t (.inl ht)),X.ev_congr (x:=y) (fun t ht=> hl t (.inr ht))]
 case indexA s b n x y=> simp only[opEv,X.ev_congr (x:=x) (fun t ht=> hl t (.inl ht)),X.ev_congr (x:=y) (fun t ht=> hl t (.inr ht))]
 case indexS x y=> simp only[opEv,X.ev_congr (x:=x) (fun t ht=> hl t (.inl ht)),X.ev_congr (x:=y) (fun t ht=> hl t (.inr ht))]
 case append s b x y=> simp only[opEv,X.ev_congr (x:=x) (fun t ht=> hl t (.inl ht)),X.ev_congr (x:=y) (fun t ht=> hl t (.inr ht))]
 case appendZ s b z x y=> simp only[opEv,X.ev_congr (x:=x) (fun t ht=> hl t (.inl ht)),X.ev_congr (x:=y) (fun t ht=> hl t (.inr ht))]
 case copy s x y=> simp only[opEv,X.ev_congr (x:=x) (fun t ht=> hl t (.inl ht)),X.ev_congr (x:=y) (fun t ht=> hl t (.inr ht))]
 case max2 x y=> simp only[opEv,X.ev_congr (x:=x) (fun t ht=> hl t (.inl ht)),X.ev_congr (x:=y) (fun t ht=> hl t (.inr ht))]
 case min2 x y=> simp only[opEv,X.ev_congr (x:=x) (fun t ht=> hl t (.inl ht)),X.ev_congr (x:=y) (fun t ht=> hl t (.inr ht))]
 case mkfn g fs cs=> simp only[opEv,Xs_congr (l:=fs) (fun t ht=> hl t (.inl ht)),Xs_congr (l:=cs) (fun t ht=> hl t (.inr ht))]
 case slice s x lo hi=> simp only[opEv,X.ev_congr (x:=x) (fun t ht=> hl t (.inl (.inl ht))),Xo_congr (l:=lo) (fun t ht=> hl t (.inl (.inr ht))),Xo_congr (l:=hi) (fun t ht=> hl t (.inr ht))]
 case sliceS x lo hi=> simp only[opEv,X.ev_congr (x:=x) (fun t ht=> hl t (.inl (.inl ht))),Xo_congr (l:=lo) (fun t ht=> hl t (.inl (.inr ht))),Xo_congr (l:=hi) (fun t ht=> hl t (.inr ht))]
 case callf md g l=> simp only[opEv,Xs_congr hl]
 case callv md f l=> simp only[opEv,X.ev_congr (x:=f) (fun t ht=> hl t (.inl ht)),Xs_congr (l:=l) (fun t ht=> hl t (.inr ht))]
def O.free:O→Bool
 | .move _| .pick .. | .build .. | .load .imm _ _| .blit .. | .nilCheck _| .bin .. | .eqS .. | .un .. | .toInt .. | .toStr .. | .mkfn .. | .slice .. | .sliceS .. | .fieldAddr .. | .field .. | .indexAddr .. | .indexA .. | .indexS .. | .extract .. | .len _| .lenS _| .cap _| .max2 .. | .min2 .. | .abort=> true
 |_=> false
theorem free_heap{call:Call}{o:O}{e:Env}{h h':Heap}{v:V}(hf:o.free=true)(hev:opEv call o e h=some (v,h')):h'=h∧∀g,opEv call o e g=some (v,g):=by
 cases o
 case load b n x=>
  cases b with
  |any=> simp[O.free]at hf
  |apart s=> simp[O.free]at hf
  |imm=>
   simp only[opEv,Ld.bars]at hev ⊢
   repeat' split at hev
   all_goals first
    |(cases hev; done)
    |exact absurd trivial (by assumption)
    |(obtain⟨rfl,rfl⟩:=qd hev; refine⟨rfl,fun g=>?_⟩; simp[*]; done)
 all_goals first
  |(simp[O.free]at hf; done)
  |skip
 all_goals
  simp only[opEv]at hev ⊢
  repeat' split at hev
  all_goals first
   |(cases hev; done)
   |(obtain⟨rfl,rfl⟩:=qd hev; refine⟨rfl,fun g=>?_⟩; simp[*]; done)
theorem free_quiet{o:O}(hf:o.free=true):o.quiet=true:=by
 cases o <;> first|rfl|(simp[O.free]at hf; done)
structure More (h h':Heap):Prop where
 ents:∃n,h'.ents=h.ents++n∧∀e∈n,h.clk≤e.1∧e.1 < h'.clk
 clk:h.clk≤h'.clk
theorem More.refl(h:Heap):More h h:=⟨⟨[],by simp,fun e he=> by simp at he⟩,wE _⟩
theorem More.trans{a b c:Heap}(h:More a b)(k:More b c):More a c:=by
 obtain⟨⟨n,h1,h2⟩,h3⟩:=h;obtain⟨⟨m,k1,k2⟩,k3⟩:=k;refine⟨⟨n++m,by rw[k1,h1,vE],fun e he=>?_⟩,vM h3 k3⟩;rcases wN.1 he with he|he
 ·have:=h2 e he; omega
 ·have:=k2 e he; omega
theorem More.push(h:Heap)(cs:List V):More h (h.push cs):=⟨⟨_,rfl,fun e he=> by simp at he; subst he; simp[Heap.push]⟩,by simp[Heap.push]⟩
theorem thaw_more:∀ (f:Nat) (ss:List Nat) (v:V) (h:Heap) (r:V) (h':Heap),thaw f ss v h=some (r,h')→More h h':=by
 intro f;induction f with
 |zero=> intro ss v h r h' hh; simp[thaw]at hh
 |succ f ih=>
  intro ss v h r h' hh;have hl:∀ {ss:List Nat} {xs:List V} {h ds h'},mapS (thaw f ss) xs h=some (ds,h')→More h h':=by
   intro ss xs;induction xs with
   |nil=> intro h ds h' hm; simp only[mapS]at hm; obtain⟨_,rfl⟩:=qd hm; exact .refl _
   |cons x xs ihx=>
    intro h ds h' hm;simp only[mapS]at hm;split at hm
    ·rename_i y s1 hy
     split at hm
     ·rename_i ys s2 hys
      obtain⟨_,rfl⟩:=qd hm;exact(ih _ _ _ _ _ hy).trans (ihx hys)
     ·cases hm
    ·cases hm
  cases ss with
  |nil=> simp only[thaw]at hh; obtain⟨_,rfl⟩:=qd hh; exact .refl _
  |cons s ss=>
   cases v with
   |isl xs=>
    simp only[thaw]at hh;split at hh
    ·rename_i ds h2 hm
     obtain⟨_,rfl⟩:=qd hh;exact(hl hm).trans (.push _ _)
    ·cases hh
   |agg cs=>
    simp only[thaw]at hh;split at hh
    ·rename_i ds h2 hm
     obtain⟨_,rfl⟩:=qd hh;exact hl hm
    ·cases hh
   |tup cs=>
    simp only[thaw]at hh;split at hh
    ·rename_i ds h2 hm
     obtain⟨_,rfl⟩:=qd hh;exact hl hm
    ·cases hh
   |iptr vs=>
    simp only[thaw]at hh;split at hh
    ·obtain⟨_,rfl⟩:=qd hh; exact .refl _
    ·cases hh
   |_=> simp only[thaw]at hh; obtain⟨_,rfl⟩:=qd hh; exact .refl _
theorem callM_more{call:Call}{ds:List Nat}{g:Nat}{args:List V}{h h':Heap}{v:V}(hev:zY call (.pure ds) g args h=some (v,h')):More h h':=by
 simp only[zY]at hev;split at hev
 ·cases hev
 ·split at hev
  ·cases hev
  ·cases ds with
   |nil=>
    simp only at hev;split at hev
    ·split at hev
     ·obtain⟨_,rfl⟩:=qd hev; exact .refl _
     ·cases hev
    ·cases hev
   |cons s ss=>
    simp only at hev;split at hev
    ·split at hev
     ·exact thaw_more _ _ _ _ _ _ hev
     ·cases hev
    ·cases hev
theorem jL{call:Call}{o:O}{e:Env}{h h':Heap}{v:V}(hq:o.quiet=true)(hev:opEv call o e h=some (v,h')):More h h':=by
 by_cases hf:o.free=true
 ·rw[(free_heap hf hev).1]; exact .refl _
 cases o
 case callf md g l=>
  cases md with
  |plain=> simp[O.quiet]at hq
  |thr ds=> simp[O.quiet]at hq
  |pure ds=> simp only[opEv]at hev; exact callM_more hev
 case callv md f l=>
  cases md with
  |plain=> simp[O.quiet]at hq
  |thr ds=> simp[O.quiet]at hq
  |pure ds=>
   simp only[opEv]at hev;split at hev
   ·exact callM_more hev
   ·cases hev
 all_goals first
  |(simp[O.free]at hf; done)
  |(simp[O.quiet]at hq; done)
  |skip
 all_goals
  simp only[opEv]at hev
  repeat' split at hev
  all_goals first
   |(cases hev; done)
   |(obtain⟨_,rfl⟩:=qd hev; first|exact .refl _|exact .push _ _)
end Rv
namespace Rv
open Go (IntKind BinOp UnOp Program Value Operand Oper Code TypeId Func World Addr Obj Act Calls execOp wpOps wpOp wpAny)
set_option maxRecDepth 10000
variable {tbl:Nat→Option Nat} {P:Program}
def xg:List (List Nat)→List (List Nat)→List (List Nat)
 | [],acc=> acc
 |a::as,acc=> xg as (acc++[(a++a.flatMap fun k=> acc.getD k []).eraseDups])
def apartOf(x y:Op):Bool:=match x.dst with|some d=> !(y.looks.contains d)|none=> true
def dstNe(x y:Op):Bool:=match x.dst,y.dst with|some a,some b=> a != b|_,_=> true
def pairOk(x y:Op)(cmp late ns:Bool):Bool:=
 dstNe x y &&(cmp ||(apartOf x y && apartOf y x &&(x.op.quiet || y.op.free || late)&&(y.op.quiet ||(x.op.free || ns))))
def isAlloc(d:Nat):Op→Bool
 |⟨some d',.alloc _,none⟩=> d'==d
 |_=> false
def newSt(al:List Op)(i j:Nat):Bool:=
 match al.getD j default with
 |⟨none,.store _ (.t d) _,none⟩=>(List.range j).any fun q=> decide (i < q)&& isAlloc d (al.getD q default)
 |_=> false
def isNew:Op→Bool
 |⟨some _,.alloc _,none⟩=> true
 |⟨some _,.buildSlice ..,none⟩=> true
 |_=> false
def thrBox(al:List Op)(j:Nat):Bool:=
 match al.getD j default with
 |⟨_,.callf (.thr []) _ (.t t::_),none⟩=>(List.range j).any fun f=> match al.getD f default with
  |⟨some t',.move (.t s),none⟩=> t'==t && al.all fun y=> !(y.dst==some s)
  |_=> false
 |_=> false
def newSt2(al:List Op)(i j:Nat):Bool:=newSt al i j ||(isNew (al.getD i default)&& thrBox al j)
def V.plainC:V→Bool
 | .int .. => true
 | .bool _=> true
 | .str _=> true
 | .nilp=> true
 | .nils=> true
 | .nilf=> true
 |_=> false
def loneOk(al:List Op)(tab:List (List Nat))(p:Nat):Bool:=
 match al[p]? with
 |none=> true
 |some o=> match o.op,o.dst,o.guard with
  | .alloc cs,some d,none=> !cs.isEmpty && cs.all V.plainC &&(List.range p).all fun i=>(al.getD i default).op.quiet ||(tab.getD p []).contains i ||
    (List.range al.length).all fun k=> !((al.getD k default).looks.contains d)||(tab.getD k []).contains i
  |_,_,_=> false
def O.isApp:O→Bool
 | .append .. => true
 | .appendZ .. => true
 |_=> false
def O.isAppend:O→Bool
 | .append .. => true
 | .appendZ .. => true
 | .frz _=> true
 | .fz o=> o.quiet || o.isApp
 |_=> false
def O.isStore:O→Bool
 | .store .. => true
 |_=> false
def addrBase(al:List Op)(n t:Nat):Option (Nat×Nat):=
 (List.range n).findSome? fun f=> match al.getD f default with
  |⟨some t',.fieldAddr _ (.t s),none⟩=> if t'=t then some (f,s)else none
  |_=> none
def tame(al:List Op)(tab:List (List Nat))(j:Nat):Bool:=
 (List.range al.length).all fun i=>(al.getD i default).op.quiet ||(al.getD i default).op.isAppend ||((al.getD i default).op.isStore &&((tab.getD j []).contains i ||(tab.getD i []).contains j))
def isCalm(al:List Op)(tab:List (List Nat))(j:Nat):Bool:=
 match al.getD j default with
 |⟨some _,.load .any _ (.t a),none⟩=> match addrBase al j a with
  |some (_,s)=>(al.all fun y=> !(y.dst==some s))&& tame al tab j &&
    (List.range al.length).any fun q=>(tab.getD q []).contains j && match al.getD q default with
     |⟨none,.store _ (.t b) _,none⟩=> match addrBase al q b with
      |some (_,s')=> s'==s
      |none=> false
     |_=> false
  |none=> false
 |_=> false
def isFar(al:List Op)(i:Nat):Bool:=
 match al.getD i default with
 |⟨_,.append _ _ (.t b) _,none⟩=>(List.range i).any fun c=> match al.getD c default with
  |⟨some b',.callf (.pure (_::_)) _ _,none⟩=> b'==b
  |_=> false
 |⟨_,.appendZ _ _ _ (.t b) _,none⟩=>(List.range i).any fun c=> match al.getD c default with
  |⟨some b',.callf (.pure (_::_)) _ _,none⟩=> b'==b
  |_=> false
 |_=> false
def apartThr(al:List Op)(md:Ld)(i:Nat):Bool:=
 match md,al.getD i default with
 | .apart s,⟨_,.callf (.thr []) _ (.t t::_),none⟩=>(al.all fun y=> !(y.dst==some s))&&(List.range i).any fun f=> match al.getD f default with
  |⟨some t',.move (.t s'),none⟩=> t'==t && s'==s
  |_=> false
 | .apart s,⟨none,.store _ (.t d) _,none⟩=>(al.all fun y=> !(y.dst==some s))&& d==s
 |_,_=> false
def isCalm2(al:List Op)(tab:List (List Nat))(j:Nat):Bool:=
 match al.getD j default with
 |⟨some _,.load md _ (.t a),none⟩=>
  let s:=match addrBase al j a with
   |some (_,s)=> s
   |none=> a
  (al.all fun y=> !(y.dst==some s))&&(List.range al.length).all fun i=>(al.getD i default).op.quiet ||(((al.getD i default).op.isAppend ||(al.getD i default).op.isStore)&&((tab.getD j []).contains i ||(tab.getD i []).contains j || isFar al i))|| apartThr al md i
 |_=> false
def isLate(al:List Op)(tab:List (List Nat))(j:Nat):Bool:=
 match al.getD j default with
 |⟨some d,.buildSlice _ n _ _,none⟩=> decide (0 < n)&& tame al tab j &&
   (List.range al.length).any fun q=>(tab.getD q []).contains j && match al.getD q default with
    |⟨_,.append _ _ _ (.t d'),none⟩=> d'==d
    |_=> false
 |_=> false
def drawOkP(al:List Op)(af:List (List Nat))(p:Nat):Bool:=
 let tab:=xg af []
 af.length==al.length && loneOk al tab p &&(List.range al.length).all fun j=>
  (af.getD j []).all (fun k=> decide (k < j))&&(tab.getD j []).all (fun i=>(af.getD j []).contains i ||(af.getD j []).any fun k=>(tab.getD k []).contains i)&&
  (List.range j).all fun i=> pairOk (al.getD i default) (al.getD j default) ((tab.getD j []).contains i) (j==p ||(p==al.length &&(isCalm al tab j || isCalm2 al tab j))) (p==al.length &&(newSt2 al i j ||(isCalm al tab i || isCalm2 al tab i)|| isLate al tab i))
def drawOk(al:List Op)(af:List (List Nat)):Bool:=drawOkP al af al.length ||(List.range al.length).any (drawOkP al af)
structure Tame (al:List Op) (pre:Nat→Nat→Prop) (j:Nat):Prop where
 loud:∀ (i:Nat) y,al[i]? =some y→y.op.quiet=false→y.op.isAppend=true∨(y.op.isStore=true∧(pre i j∨pre j i))
structure CalmAt (al:List Op) (pre:Nat→Nat→Prop) (j:Nat):Prop extends Tame al pre j where
 ex:∃d n a s q f o n' b x f' o',al[j]? =some ⟨some d,.load .any n (.t a),none⟩∧al[f]? =some ⟨some a,.fieldAddr o (.t s),none⟩∧f < j∧(∀ (i:Nat) y,al[i]? =some y→y.dst≠some s)∧
  al[q]? =some ⟨none,.store n' (.t b) x,none⟩∧al[f']? =some ⟨some b,.fieldAddr o' (.t s),none⟩∧f' < q∧pre j q
def Far(al:List Op)(i:Nat):Prop:=∃t b c s ss g l,c < i∧al[c]? =some ⟨some b,.callf (.pure (s::ss)) g l,none⟩∧((∃z y x,al[i]? =some ⟨t,.append z y (.t b) x,none⟩)∨∃z y q x,al[i]? =some ⟨t,.appendZ z y q (.t b) x,none⟩)
def ThrAt(al:List Op)(md:Ld)(i:Nat):Prop:=(∃s t f g l d,md= .apart s∧al[i]? =some ⟨d,.callf (.thr []) g (.t t::l),none⟩∧al[f]? =some ⟨some t,.move (.t s),none⟩∧f < i∧∀ (k:Nat) y,al[k]? =some y→y.dst≠some s)∨
 ∃s n x,md= .apart s∧al[i]? =some ⟨none,.store n (.t s) x,none⟩∧∀ (k:Nat) y,al[k]? =some y→y.dst≠some s
structure Calm2At (al:List Op) (pre:Nat→Nat→Prop) (j:Nat):Prop where
 ex:∃d md n a s,al[j]? =some ⟨some d,.load md n (.t a),none⟩∧(a=s∨∃f o,al[f]? =some ⟨some a,.fieldAddr o (.t s),none⟩∧f < j)∧(∀ (i:Nat) y,al[i]? =some y→y.dst≠some s)∧
  ∀ (i:Nat) y,al[i]? =some y→y.op.quiet=false→((y.op.isAppend=true∨y.op.isStore=true)∧(pre i j∨pre j i∨Far al i))∨ThrAt al md i
structure LateAt (al:List Op) (pre:Nat→Nat→Prop) (j:Nat):Prop extends Tame al pre j where
 ex:∃d sz n z ps q t s b x,al[j]? =some ⟨some d,.buildSlice sz n z ps,none⟩∧0 < n∧al[q]? =some ⟨t,.append s b x (.t d),none⟩∧pre j q
structure Drawn (al:List Op) (af:List (List Nat)) (pre:Nat→Nat→Prop) (p:Nat) (C L:Nat→Prop):Prop where
 down:∀i j,j < al.length→pre i j→i∈af.getD j []∨∃k∈af.getD j [],pre i k
 lt:∀j k,j < al.length→k∈af.getD j []→k < j
 dst:∀ (i j:Nat) (x y:Op) (d:Nat),al[i]? =some x→al[j]? =some y→i≠j→x.dst=some d→y.dst≠some d
 apart:∀ (i j:Nat) (x y:Op),i < j→al[i]? =some x→al[j]? =some y→¬pre i j→(∀d,x.dst=some d→d∉y.looks)∧∀d,y.dst=some d→d∉x.looks
 w:∀ (i j:Nat) (x y:Op),i < j→al[i]? =some x→al[j]? =some y→¬pre i j→(x.op.quiet=false→y.op.free=true∨j=p∨C j)∧(y.op.quiet=false→x.op.free=true∨(newSt2 al i j=true∧p=al.length)∨C i∨L i)
 lone:∀o,al[p]? =some o→∃d cs,o=⟨some d,.alloc cs,none⟩∧cs≠ []∧∀x∈cs,V.plainC x=true
 look:∀ (i k d:Nat) (x y o:Op),al[p]? =some o→o.dst=some d→al[i]? =some x→x.op.quiet=false→i < p→¬pre i p→al[k]? =some y→d∈y.looks→pre i k
 calm:∀j,C j→CalmAt al pre j∨Calm2At al pre j
 late:∀j,L j→LateAt al pre j
 alone:∀j,C j∨L j→p=al.length
theorem apartOf_spec{x y:Op}(h:apartOf x y=true):∀d,x.dst=some d→d∉y.looks:=by
 intro d hd;simp[apartOf,hd]at h;exact h
theorem xM{al:List Op}{n t f s:Nat}(h:addrBase al n t=some (f,s)):f < n∧∃o,al.getD f default=⟨some t,.fieldAddr o (.t s),none⟩:=by
 unfold addrBase at h;obtain⟨g,hg,h1⟩:=List.exists_of_findSome?_eq_some h;split at h1
 ·rename_i t' o s' he
  split at h1
  ·rename_i ht
   subst ht;cases h1;exact⟨wX.1 hg,o,he⟩
  ·cases h1
 ·cases h1
theorem tame_spec{al:List Op}{tab:List (List Nat)}{j:Nat}(h:tame al tab j=true):Tame al (fun i j=> i∈tab.getD j []) j:=by
 unfold tame at h;simp only[wO,wX]at h;refine⟨fun i y hy hl=>?_⟩;obtain⟨hi,he⟩:=gM.1 hy;have:=h i hi;rw[show al.getD i default=y by simp[gD,hy]]at this;simp only[yC,wL,hl,wP,false_or]at this;rcases this with h5|⟨h5,h6⟩
 ·exact .inl h5
 ·refine .inr ⟨h5,?_⟩
  rcases h6 with h6|h6
  ·exact .inl (by simpa using h6)
  ·exact .inr (by simpa using h6)
theorem isCalm_spec{al:List Op}{tab:List (List Nat)}{j:Nat}(hj:j < al.length)(h:isCalm al tab j=true):CalmAt al (fun i j=> i∈tab.getD j []) j:=by
 have get:∀i x,i < al.length→al.getD i default=x→al[i]? =some x:=fun i x hi hx=> by rw[←hx,gD,gB hi]; rfl
 unfold isCalm at h;split at h
 ·rename_i d n a he
  split at h
  ·rename_i f s ha
   obtain⟨f1,o,f2⟩:=xM ha;simp only[wL,wO,vS,wX,vV,beq_eq_false_iff_ne,ne_eq]at h;obtain⟨⟨h1,h2⟩,q,hq,h3,h4⟩:=h;split at h4
   ·rename_i n' b x hb
    split at h4
    ·rename_i f' s' hb2
     have hs:s'=s:=by simpa using h4
     subst hs;obtain⟨g1,o',g2⟩:=xM hb2;exact⟨tame_spec h2,⟨d,n,a,s',q,f,o,n',b,x,f',o',get _ _ hj he,get _ _ (by omega) f2,f1,fun i y hy=> h1 y (gE hy),get _ _ hq hb,get _ _ (by omega) g2,g1,by simpa using h3⟩⟩
    ·cases h4
   ·cases h4
  ·cases h
 ·cases h
theorem isFar_spec{al:List Op}{i:Nat}(hi:i < al.length)(h:isFar al i=true):Far al i:=by
 have get:∀i x,i < al.length→al.getD i default=x→al[i]? =some x:=fun i x hi hx=> by rw[←hx,gD,gB hi]; rfl
 have find:∀b,((List.range i).any fun c=> match al.getD c default with
  |⟨some b',.callf (.pure (_::_)) _ _,none⟩=> b'==b
  |_=> false)=true→∃c s ss g l,c < i∧al[c]? =some ⟨some b,.callf (.pure (s::ss)) g l,none⟩:=fun b hb=> by
  obtain⟨c,hc,h1⟩:=vS.1 hb;have hc':=wX.1 hc;split at h1
  ·rename_i b' s ss g l he
   have:b'=b:=by simpa using h1
   subst this;exact⟨c,s,ss,g,l,hc',get _ _ (by omega) he⟩
  ·cases h1
 unfold isFar at h;split at h
 ·rename_i t z y b x he
  obtain⟨c,s,ss,g,l,h1,h2⟩:=find b h;exact⟨t,b,c,s,ss,g,l,h1,h2,.inl ⟨z,y,x,get _ _ hi he⟩⟩
 ·rename_i t z y q b x he
  obtain⟨c,s,ss,g,l,h1,h2⟩:=find b h;exact⟨t,b,c,s,ss,g,l,h1,h2,.inr ⟨z,y,q,x,get _ _ hi he⟩⟩
 ·cases h
theorem apartThr_spec{al:List Op}{md:Ld}{i:Nat}(hi:i < al.length)(h:apartThr al md i=true):ThrAt al md i:=by
 have get:∀i x,i < al.length→al.getD i default=x→al[i]? =some x:=fun i x hi hx=> by rw[←hx,gD,gB hi]; rfl
 unfold apartThr at h;split at h
 ·rename_i s d g t l he
  simp only[wL,wO,vS,wX,vV,beq_eq_false_iff_ne,ne_eq]at h;obtain⟨h1,f,hf,h2⟩:=h;split at h2
  ·rename_i t' s' hm
   simp only[wL,beq_iff_eq]at h2;obtain⟨rfl,rfl⟩:=h2;exact .inl ⟨_,_,f,g,l,d,rfl,get _ _ hi he,get _ _ (by omega) hm,hf,fun k y hy=> h1 y (gE hy)⟩
  ·cases h2
 ·rename_i s n d x he
  simp only[wL,wO,vV,beq_eq_false_iff_ne,ne_eq,beq_iff_eq]at h;obtain⟨h1,rfl⟩:=h;exact .inr ⟨_,n,x,rfl,get _ _ hi he,fun k y hy=> h1 y (gE hy)⟩
 ·cases h
theorem isCalm2_spec{al:List Op}{tab:List (List Nat)}{j:Nat}(hj:j < al.length)(h:isCalm2 al tab j=true):Calm2At al (fun i j=> i∈tab.getD j []) j:=by
 have get:∀i x,i < al.length→al.getD i default=x→al[i]? =some x:=fun i x hi hx=> by rw[←hx,gD,gB hi]; rfl
 unfold isCalm2 at h;split at h
 ·rename_i d md n a he
  simp only[wL,wO,wX,vV,beq_eq_false_iff_ne,ne_eq]at h;obtain⟨h1,h2⟩:=h;refine⟨⟨d,md,n,a,_,get _ _ hj he,?_,fun i y hy=> h1 y (gE hy),fun i y hy hl=>?_⟩⟩
  ·cases hb:addrBase al j a with
   |none=> exact .inl rfl
   |some p=>
    obtain⟨f,s⟩:=p;obtain⟨f1,o,f2⟩:=xM hb;exact .inr ⟨f,o,get _ _ (by omega) f2,f1⟩
  ·obtain⟨hi,hx⟩:=gM.1 hy
   have:=h2 i hi;rw[show al.getD i default=y by simp[gD,hy]]at this;simp only[yC,wL,hl,wP,false_or]at this;rcases this with⟨h3,(h4|h4)|h4⟩|h5
   ·exact .inl ⟨h3,.inl (by simpa using h4)⟩
   ·exact .inl ⟨h3,.inr (.inl (by simpa using h4))⟩
   ·exact .inl ⟨h3,.inr (.inr (isFar_spec hi h4))⟩
   ·exact .inr (apartThr_spec hi h5)
 ·cases h
theorem isLate_spec{al:List Op}{tab:List (List Nat)}{j:Nat}(hj:j < al.length)(h:isLate al tab j=true):LateAt al (fun i j=> i∈tab.getD j []) j:=by
 have get:∀i x,i < al.length→al.getD i default=x→al[i]? =some x:=fun i x hi hx=> by rw[←hx,gD,gB hi]; rfl
 unfold isLate at h;split at h
 ·rename_i d sz n z ps he
  simp only[wL,vS,wX,decide_eq_true_eq]at h;obtain⟨⟨h1,h2⟩,q,hq,h3,h4⟩:=h;split at h4
  ·rename_i t s b x d' hb
   have hs:d'=d:=by simpa using h4
   subst hs;exact⟨tame_spec h2,⟨d',sz,n,z,ps,q,t,s,b,x,get _ _ hj he,h1,get _ _ hq hb,by simpa using h3⟩⟩
  ·cases h4
 ·cases h
theorem drawOkP_spec{al:List Op}{af:List (List Nat)}{p:Nat}(h:drawOkP al af p=true):∃pre C L,Drawn al af pre p C L:=by
 unfold drawOkP at h;simp only[wL,wO,wX,beq_iff_eq,decide_eq_true_eq]at h;obtain⟨⟨_,hl⟩,h⟩:=h;have get:∀i x,al[i]? =some x→al.getD i default=x∧i < al.length:=fun i x hx=>⟨by simp[gD,hx],(gA hx)⟩;have hlone:∀o,al[p]? =some o→∃d cs,o=⟨some d,.alloc cs,none⟩∧(cs≠ []∧∀x∈cs,V.plainC x=true)∧
   ∀i,i < p→(al.getD i default).op.quiet=false→((xg af []).getD p []).contains i=false→∀k,k < al.length→d∈(al.getD k default).looks→((xg af []).getD k []).contains i=true:=by
  intro o ho;obtain⟨dst,op,gd⟩:=o;unfold loneOk at hl;simp only[ho]at hl;split at hl
  ·rename_i cs d
   simp only[wL,wO,wX,yC,vV]at hl;refine⟨d,cs,rfl,⟨fun e=> by rw[e]at hl; simp at hl,hl.1.2⟩,fun i hi hq hc k hk hd=>?_⟩;rcases hl.2 i hi with(h1|h1)|h1
   ·rw[hq]at h1; cases h1
   ·rw[hc]at h1; cases h1
   ·rcases h1 k hk with h2|h2
    ·have:=List.contains_iff_mem.2 hd
     rw[h2]at this; cases this
    ·exact h2
  ·cases hl
 refine⟨fun i j=> i∈(xg af []).getD j [],fun j=> j < al.length∧p=al.length∧(isCalm al (xg af []) j=true∨isCalm2 al (xg af []) j=true),fun j=> j < al.length∧p=al.length∧isLate al (xg af []) j=true,fun i j hj hp=>?_,fun j k hj hk=>(h j hj).1.1 k hk,fun i j x y d hx hy hne hd=>?_,fun i j x y hlt hx hy hp=>?_,fun i j x y hlt hx hy hp=>?_,fun o ho=>?_,fun i k d x y o ho hd hi hq hlt hp hk hlk=>?_,fun j hC=> hC.2.2.elim (fun h=> .inl (isCalm_spec hC.1 h)) (fun h=> .inr (isCalm2_spec hC.1 h)),fun j hL=> isLate_spec hL.1 hL.2.2,fun j h=> h.elim (fun h=> h.2.1) fun h=> h.2.1⟩
 ·have:=(h j hj).1.2 i hp
  rcases yC _ _▸this with h1|h1
  ·exact .inl (by simpa using h1)
  ·obtain⟨k,hk,hc⟩:=vS.1 h1
   exact .inr ⟨k,hk,by simpa using hc⟩
 ·obtain⟨e1,l1⟩:=get i x hx
  obtain⟨e2,l2⟩:=get j y hy;rcases Nat.lt_or_gt_of_ne hne with hlt|hlt
  ·have:=(h j l2).2 i hlt
   rw[e1,e2]at this;simp only[pairOk,wL]at this;intro hy';have:=this.1;simp[dstNe,hd,hy']at this
  ·have:=(h i l1).2 j hlt
   rw[e1,e2]at this;simp only[pairOk,wL]at this;intro hy';have:=this.1;simp[dstNe,hd,hy']at this
 ·obtain⟨e1,l1⟩:=get i x hx
  obtain⟨e2,l2⟩:=get j y hy;have:=(h j l2).2 i hlt;rw[e1,e2]at this;have hc:((xg af []).getD j []).contains i=false:=by
   cases hc:((xg af []).getD j []).contains i with
   |false=> rfl
   |true=> exact absurd (by simpa using hc) hp
  rw[hc]at this;simp only[pairOk,wL,yC,wP,false_or]at this;exact⟨apartOf_spec this.2.1.1.1,apartOf_spec this.2.1.1.2⟩
 ·obtain⟨e1,l1⟩:=get i x hx
  obtain⟨e2,l2⟩:=get j y hy;have:=(h j l2).2 i hlt;rw[e1,e2]at this;have hc:((xg af []).getD j []).contains i=false:=by
   cases hc:((xg af []).getD j []).contains i with
   |false=> rfl
   |true=> exact absurd (by simpa using hc) hp
  rw[hc]at this;simp only[pairOk,wL,yC,wP,false_or,beq_iff_eq]at this;obtain⟨_,⟨_,h1⟩,h2⟩:=this;refine⟨fun hq=>?_,fun hq=>?_⟩
  ·rcases h1 with(h1|h1)|h1|h1
   ·rw[hq]at h1; cases h1
   ·exact .inl h1
   ·exact .inr (.inl h1)
   ·exact .inr (.inr ⟨l2,h1⟩)
  ·rcases h2 with h2|h2|⟨h2,(h3|h3)|h3⟩
   ·rw[hq]at h2; cases h2
   ·exact .inl h2
   ·exact .inr (.inl ⟨h3,h2⟩)
   ·exact .inr (.inr (.inl ⟨l1,h2,h3⟩))
   ·exact .inr (.inr (.inr ⟨l1,h2,h3⟩))
 ·obtain⟨d,cs,h1,h2,_⟩:=hlone o ho
  exact⟨d,cs,h1,h2⟩
 ·obtain⟨d',cs,h1,_,h3⟩:=hlone o ho
  subst h1;cases hd;obtain⟨e1,l1⟩:=get i x hi;obtain⟨e2,l2⟩:=get k y hk;have hc:((xg af []).getD p []).contains i=false:=by
   cases hc:((xg af []).getD p []).contains i with
   |false=> rfl
   |true=> exact absurd (by simpa using hc) hp
  have:=h3 i hlt (by rw[e1]; exact hq) hc k l2 (by rw[e2]; exact hlk);simpa using this
theorem drawOk_spec{al:List Op}{af:List (List Nat)}(h:drawOk al af=true):∃pre p C L,Drawn al af pre p C L:=by
 unfold drawOk at h;rcases yC _ _▸h with h1|h1
 ·obtain⟨pre,C,L,D⟩:=drawOkP_spec h1
  exact⟨pre,_,C,L,D⟩
 ·obtain⟨p,_,hp⟩:=vS.1 h1
  obtain⟨pre,C,L,D⟩:=drawOkP_spec hp;exact⟨pre,p,C,L,D⟩
theorem Drawn.closed{al:List Op}{af:List (List Nat)}{pre:Nat→Nat→Prop}{p:Nat}{C L:Nat→Prop}(D:Drawn al af pre p C L){S:Nat→Prop}(hS:∀j,S j→∀k∈af.getD j [],S k)(i:Nat):∀j,j < al.length→(∀k∈af.getD j [],S k)→pre i j→S i:=by
 intro j;induction j using Nat.strongRecOn with
 |_ j ih=>
  intro hj ha hp;rcases D.down i j hj hp with h1|⟨k,hk,h1⟩
  ·exact ha i h1
  ·have hlt:=D.lt j k hj hk
   exact ih k hlt (by omega) (hS k (ha k hk)) h1
theorem Drawn.pre_lt{al:List Op}{af:List (List Nat)}{pre:Nat→Nat→Prop}{p:Nat}{C L:Nat→Prop}(D:Drawn al af pre p C L)(i:Nat):∀j,j < al.length→pre i j→i < j:=by
 intro j;induction j using Nat.strongRecOn with
 |_ j ih=>
  intro hj hp;rcases D.down i j hj hp with h1|⟨k,hk,h1⟩
  ·exact D.lt j i hj h1
  ·have hlt:=D.lt j k hj hk
   have:=ih k hlt (by omega) h1;omega
theorem evOps_states{call:Call}:∀ (al:List Op) (e:Env) (h:Heap) (e':Env) (h':Heap),jG call al e h=some (e',h')→
  ∃ (E:Nat→Env) (H:Nat→Heap),E 0=e∧H 0=h∧E al.length=e'∧H al.length=h'∧∀i o,al[i]? =some o→o.ev call (E i) (H i)=some (E (i+1),H (i+1)):=by
 intro al;induction al with
 |nil=>
  intro e h e' h' hev;simp only[jG]at hev;obtain⟨rfl,rfl⟩:=qd hev;exact⟨fun _=> e',fun _=> h',rfl,rfl,rfl,rfl,fun i o hi=> by simp at hi⟩
 |cons o os ih=>
  intro e h e' h' hev;simp only[jG]at hev;split at hev
  ·rename_i e1 h1 ho
   obtain⟨E,H,hE,hH,hE',hH',hst⟩:=ih e1 h1 e' h' hev;refine⟨fun|0=> e|i+1=> E i,fun|0=> h|i+1=> H i,rfl,rfl,hE',hH',fun i x hx=>?_⟩;cases i with
   |zero=>
    simp at hx;subst hx;simp only[hE,hH];exact ho
   |succ i=>
    simp at hx;exact hst i x hx
  ·cases hev
theorem jh(e:Env)(dst:Option Nat)(v:V)(t:Nat):(e.put dst v).at t=if dst=some t∧t < e.length then v else e.at t:=by
 cases dst with
 |none=> simp[Env.put]
 |some d=>
  simp only[Env.put,Env.at,gD,gK,wB];by_cases hd:d=t
  ·subst hd
   by_cases hl:d < e.length
   ·simp[hl]
   ·simp[hl]
  ·simp[hd]
theorem xm(e:Env)(dst:Option Nat)(v:V):(e.put dst v).length=e.length:=by cases dst <;> simp[Env.put]
theorem zV{call:Call}{o:Op}{e e1:Env}{h h1:Heap}(hev:o.ev call e h=some (e1,h1)):∃v,e1=e.put o.dst v∧((o.wanted e=true∧opEv call o.op e h=some (v,h1))∨(o.wanted e=false∧h1=h∧v=V.undef)):=by
 unfold Op.ev at hev;split at hev
 ·rename_i hw
  split at hev
  ·rename_i v h2 ho
   obtain⟨rfl,rfl⟩:=qd hev;exact⟨v,rfl,.inl ⟨hw,ho⟩⟩
  ·cases hev
 ·rename_i hw
  obtain⟨rfl,rfl⟩:=qd hev;exact⟨V.undef,rfl,.inr ⟨by simpa using hw,rfl,rfl⟩⟩
theorem env_ext{e e':Env}(hl:e.length=e'.length)(h:∀t,e.at t=e'.at t):e=e':=by
 apply List.ext_getElem?;intro i;have:=h i;simp only[Env.at,gD]at this;rcases wS i e.length with hi|hi
 ·rw[gB hi,gB (by omega)]at this ⊢
  simpa using this
 ·rw[gF hi,gF (by omega)]
theorem More.get{h h':Heap}(m:More h h'){k:Nat}{x:Nat×Option (List V)}(hx:h.ents[k]? =some x):h'.ents[k]? =some x:=by
 obtain⟨⟨n,h1,_⟩,_⟩:=m;rw[h1,gC (gA hx)];exact hx
theorem More.split{h h':Heap}(m:More h h'){k:Nat}{x:Nat×Option (List V)}(hx:h'.ents[k]? =some x):h.ents[k]? =some x∨(h.clk≤x.1∧x.1 < h'.clk∧h.ents.length≤k):=by
 obtain⟨⟨n,h1,h2⟩,_⟩:=m;rw[h1]at hx;rcases wS k h.ents.length with hk|hk
 ·rw[gC hk]at hx; exact .inl hx
 ·rw[gI hk]at hx
  have:=h2 x (gE hx);exact .inr ⟨this.1,this.2,hk⟩
theorem St.less{ι:Iota}{I:Imm}{h h':Heap}{w:World}(m:More h h')(hs:St tbl ι I h' w):St tbl ι I h w:=by
 refine⟨fun k u cs l a b=> hs.ent k u cs l (m.get a) b,fun k u cs l k' u' cs' l' a b c d=> hs.sep k u cs l k' u' cs' l' (m.get a) b (m.get c) d,hs.imm,fun b o v hv ho=> hs.immsep b o v hv ?_⟩;obtain⟨k,u,cs,l,a,r⟩:=ho;exact⟨k,u,cs,l,m.get a,r⟩
theorem more_ent{ι:Iota}{h h':Heap}(m:More h h')(hf:zM ι h){k u:Nat}{cs:List V}{l:Loc}(a:h'.ents[k]? =some (u,some cs))(b:ι k u=some l):h.ents[k]? =some (u,some cs):=by
 rcases m.split a with h1|⟨h1,_⟩
 ·exact h1
 ·rw[hf k u h1]at b; cases b
theorem more_owned{ι:Iota}{h h':Heap}(m:More h h')(hf:zM ι h){b i:Nat}(ho:zb ι h' b i):zb ι h b i:=by
 obtain⟨k,u,cs,l,a,b',r⟩:=ho;exact⟨k,u,cs,l,more_ent m hf a b',b',r⟩
theorem St.more{ι:Iota}{I:Imm}{h h':Heap}{w:World}(m:More h h')(hf:zM ι h)(hs:St tbl ι I h w):St tbl ι I h' w:=
 ⟨fun k u cs l a b=> hs.ent k u cs l (more_ent m hf a b) b,fun k u cs l k' u' cs' l' a b c d=> hs.sep k u cs l k' u' cs' l' (more_ent m hf a b) b (more_ent m hf c d) d,hs.imm,fun b o v hv ho=> hs.immsep b o v hv (more_owned m hf ho)⟩
theorem Post.more{ι κ:Iota}{I J:Imm}{h h1 h2:Heap}{w w1:World}(p:Post tbl ι I h w κ J h1 w1)(m:More h1 h2)(hf:zM κ h1):Post tbl ι I h w κ J h2 w1:=
 ⟨fun k u hk=> p.iota k u (by have:=m.clk; omega),vM p.clk m.clk,p.imm,p.st.more m hf,p.frm,fun b i ho=> p.own b i (more_owned m hf ho),p.immnew⟩
theorem Post.quiet{ι0 ι κ:Iota}{I0 I J:Imm}{h0 hj hj1 hm:Heap}{w0 w w':World}(p:Post tbl ι0 I0 h0 w0 ι I hm w)(q:QPost tbl ι I hj w κ J hj1 w')(m1:More hj1 hm)(hclk:h0.clk≤hj.clk)
  (hole:∀k u,hj.clk≤u→u < hj1.clk→ι k u=none):Post tbl ι0 I0 h0 w0 κ J hm w':=by
 have hle:ι.le κ:=xx q.iota hole;have m0:More hj hj1:=⟨q.ents,q.clk⟩;have hm1:=m1.clk
 -- an entry of the whole memory
 have hcase:∀k u cs l,hm.ents[k]? =some (u,some cs)→κ k u=some l→hj1.ents[k]? =some (u,some cs)∨ι k u=some l:=by
  intro k u cs l a b;rcases m1.split a with h1|⟨h1,_,_⟩
  ·exact .inl h1
  ·right
   rw[q.iota k u (.inr h1)]at b;exact b
 have hold:∀k u cs l,hm.ents[k]? =some (u,some cs)→ι k u=some l→Lies tbl κ J w' cs l∧l.b < w.heap.size:=by
  intro k u cs l a b;have h1:=p.st.ent k u cs l a b;exact⟨h1.mono hle q.imm (q.below.block _ h1.size),h1.size⟩
 have hloc:∀k u cs l,hm.ents[k]? =some (u,some cs)→κ k u=some l→ι k u=some l∨w.heap.size≤l.b∨l.ext=0:=fun k u cs l _ b=> q.locs k u l b;have hown:∀b i,zb κ hm b i→zb ι hm b i∨w.heap.size≤b:=by
  rintro b i ⟨k,u,cs,l,a,b',r1,r2,r3⟩;rcases hloc k u cs l a b' with h1|h1|h1
  ·exact .inl ⟨k,u,cs,l,a,h1,r1,r2,r3⟩
  ·right; omega
  ·omega
 have hsz:=p.frm.size;refine⟨fun k u hk=>?_,p.clk,Imm.le_trans p.imm q.imm,⟨fun k u cs l a b=>?_,fun k u cs l k' u' cs' l' a b c d hne b0 i x1 x2 x3 y1 y2 y3=>?_,q.st.imm,fun b o v hv ho=>?_⟩,⟨q.below.os.trans p.frm.os,q.below.tape.trans p.frm.tape,q.below.output.trans p.frm.output,vM p.frm.size q.below.size,fun b hb hn=>?_,fun b hb c elem fr hc=>?_⟩,fun b i ho=>?_,fun b i v hv=>?_⟩
 ·rw[q.iota k u (by have:=q.clk; omega)]
  exact p.iota k u hk
 ·rcases hcase k u cs l a b with h1|h1
  ·exact q.st.ent k u cs l h1 b
  ·exact(hold k u cs l a h1).1
 ·rcases hcase k u cs l a b with h1|h1 <;> rcases hcase k' u' cs' l' c d with h2|h2
  ·exact q.st.sep k u cs l k' u' cs' l' h1 b h2 d hne b0 i x1 x2 x3 y1 y2 y3
  ·have h3:=(hold k' u' cs' l' c h2).2
   rcases hloc k u cs l a b with h4|h4|h4
   ·exact p.st.sep k u cs l k' u' cs' l' a h4 c h2 hne b0 i x1 x2 x3 y1 y2 y3
   ·omega
   ·omega
  ·have h3:=(hold k u cs l a h1).2
   rcases hloc k' u' cs' l' c d with h4|h4|h4
   ·exact p.st.sep k u cs l k' u' cs' l' a h1 c h4 hne b0 i x1 x2 x3 y1 y2 y3
   ·omega
   ·omega
  ·exact p.st.sep k u cs l k' u' cs' l' a h1 c h2 hne b0 i x1 x2 x3 y1 y2 y3
 ·rcases q.immnew b o v hv with h1|h1
  ·rcases hown b o ho with h2|h2
   ·exact p.st.immsep b o v h1 h2
   ·have:=World.block_lt_of_cell? w _ (p.st.imm b o v h1)
    simp only at this;omega
  ·-- a new immutable cell lies in no row
   obtain⟨k,u,cs,l,a,b',r1,r2,r3⟩:=ho;rcases hcase k u cs l a b' with h3|h3
   ·exact q.st.immsep b o v hv ⟨k,u,cs,l,h3,b',r1,r2,r3⟩
   ·have:=(hold k u cs l a h3).2
    omega
 ·rw[q.below.block b (by omega),p.frm.block b hb hn]
 ·obtain⟨c',a1,a2,a3⟩:=p.frm.cell b hb c elem fr hc
  exact⟨c',by rw[q.below.block b (by omega)]; exact a1,a2,a3⟩
 ·rcases hown b i ho with h1|h1
  ·exact p.own b i h1
  ·exact .inr (by omega)
 ·rcases q.immnew b i v hv with h1|h1
  ·exact p.immnew b i v h1
  ·exact .inr (.inr (by omega))
theorem zb.of_locs{ι κ:Iota}{h:Heap}{n b i:Nat}(hl:∀k u l,κ k u=some l→ι k u=some l∨n≤l.b∨l.ext=0)(hb:b < n)(ho:zb κ h b i):zb ι h b i:=by
 obtain⟨k,u,cs,l,a,b',r1,r2,r3⟩:=ho;rcases hl k u l b' with h1|h1|h1
 ·exact⟨k,u,cs,l,a,h1,r1,r2,r3⟩
 ·omega
 ·omega
theorem Post.below{ι κ:Iota}{I J:Imm}{h h1:Heap}{w w1 w2:World}(p:Post tbl ι I h w κ J h1 w1)(b:Go.RowKit.Below w1.heap.size w1 w2):Post tbl ι I h w κ J h1 w2:=by
 have hsz:=p.frm.size;refine⟨p.iota,p.clk,p.imm,⟨fun k u cs l x y=>?_,p.st.sep,fun b' o v hv=>?_,p.st.immsep⟩,⟨b.os.trans p.frm.os,b.tape.trans p.frm.tape,b.output.trans p.frm.output,vM p.frm.size b.size,fun b' hb hn=>?_,fun b' hb c elem fr hc=>?_⟩,p.own,p.immnew⟩
 ·have h1:=p.st.ent k u cs l x y
  exact h1.mono (Iota.le_refl _) (Imm.le_refl _) (b.block _ h1.size)
 ·have h1:=p.st.imm b' o v hv
  have:=World.block_lt_of_cell? w1 _ h1;rw[b.cell (p:=⟨b',o,none⟩) this]; exact h1
 ·rw[b.block b' (by omega),p.frm.block b' hb hn]
 ·obtain⟨c',a1,a2,a3⟩:=p.frm.cell b' hb c elem fr hc
  exact⟨c',by rw[b.block b' (by omega)]; exact a1,a2,a3⟩
theorem Post.adopt{ι0 ι:Iota}{I0 I:Imm}{h0 hm:Heap}{w0 w:World}{l:Loc}{key uid:Nat}{cs:List V}(p:Post tbl ι0 I0 h0 w0 ι I hm w)(hb:∀i,¬zb ι hm l.b i)(hI:∀i v,I l.b i≠some v)
  (hl:Lies tbl ι I w cs l) (hge:w0.heap.size≤l.b) (hn:ι key uid=none) (h1:h0.clk≤uid) (h2:uid < hm.clk) (he:hm.ents[key]? =some (uid,some cs)):
  ι.le (fun k u=> if k=key∧u=uid then some l else ι k u)∧Post tbl ι0 I0 h0 w0 (fun k u=> if k=key∧u=uid then some l else ι k u) I hm w:=by
 have hle:ι.le (fun k u=> if k=key∧u=uid then some l else ι k u):=fun k u l' hx=> by
  simp only;rw[if_neg (fun e=> by rw[e.1,e.2,hn]at hx; cases hx)];exact hx
 have hcase:∀k u l',(if k=key∧u=uid then some l else ι k u)=some l'→(k=key∧u=uid∧l'=l)∨ι k u=some l':=fun k u l' hx=> by
  split at hx
  ·rename_i hc; cases hx; exact .inl ⟨hc.1,hc.2,rfl⟩
  ·exact .inr hx
 have hown:∀b i,zb (fun k u=> if k=key∧u=uid then some l else ι k u) hm b i→zb ι hm b i∨b=l.b:=by
  rintro b i ⟨k,u,cs',l',a,b',r1,r2,r3⟩;rcases hcase k u l' b' with⟨_,_,e⟩|e
  ·subst e; exact .inr r1.symm
  ·exact .inl ⟨k,u,cs',l',a,e,r1,r2,r3⟩
 refine⟨hle,fun k u hk=>?_,p.clk,p.imm,⟨fun k u cs' l' a b=>?_,fun k u cs1 l1 k' u' cs2 l2 a b c d hne b0 i x1 x2 x3 y1 y2 y3=>?_,p.st.imm,fun b o v hv ho=>?_⟩,p.frm,fun b i ho=>?_,p.immnew⟩
 ·rw[if_neg (fun e=> by omega)]
  exact p.iota k u hk
 ·rcases hcase k u l' b with⟨e1,e2,e3⟩|e
  ·subst e1; subst e2; subst e3
   rw[he]at a; cases a;exact hl.mono hle (Imm.le_refl _) rfl
  ·exact(p.st.ent k u cs' l' a e).mono hle (Imm.le_refl _) rfl
 ·rcases hcase k u l1 b with⟨e1,e2,e3⟩|e <;> rcases hcase k' u' l2 d with⟨f1,f2,f3⟩|f
  ·exact hne (e1.trans f1.symm)
  ·subst e3
   exact hb i ⟨k',u',cs2,l2,c,f,by omega,y2,y3⟩
  ·subst f3
   exact hb i ⟨k,u,cs1,l1,a,e,by omega,x2,x3⟩
  ·exact p.st.sep k u cs1 l1 k' u' cs2 l2 a e c f hne b0 i x1 x2 x3 y1 y2 y3
 ·rcases hown b o ho with e|e
  ·exact p.st.immsep b o v hv e
  ·subst e; exact hI o v hv
 ·rcases hown b i ho with e|e
  ·exact p.own b i e
  ·subst e; exact .inr hge
theorem RV.plainC{ι κ:Iota}{I J:Imm}{x:V}{c:Value}(hx:x.plainC=true)(h:RV tbl ι I x c):RV tbl κ J x c:=by
 cases h with
 |imm h=> cases h with
  |int k n=> exact .imm (.int k n)
  |bool b=> exact .imm (.bool b)
  |str s l h=> exact .imm (.str s l h)
  |nilp=> exact .imm .nilp
  |nils=> exact .imm .nils
  |nilf=> exact .imm .nilf
  |_=> simp[V.plainC]at hx
 |_=> simp[V.plainC]at hx
end Rv
namespace Rv
open Go (IntKind BinOp UnOp Program Value Operand Oper Code TypeId Func World Addr Obj Act Calls execOp wpOps wpOp wpAny)
set_option maxRecDepth 10000
variable {tbl:Nat→Option Nat} {P:Program}
section
variable {call:Call} {al:List Op} {af:List (List Nat)} {pre:Nat→Nat→Prop} {E:Nat→Env} {H:Nat→Heap}
theorem E_at(hst:∀i o,al[i]? =some o→o.ev call (E i) (H i)=some (E (i+1),H (i+1))){t:Nat}:∀ (n i:Nat),i+n≤al.length→(∀k o,i≤k→k < i+n→al[k]? =some o→o.dst≠some t)→(E (i+n)).at t=(E i).at t:=by
 intro n;induction n with
 |zero=> intro i _ _; rfl
 |succ n ih=>
  intro i hl hn;have hlt:i+n < al.length:=by omega
  have ho:al[i+n]? =some al[i+n]:=gB hlt;obtain⟨v,hv,_⟩:=zV (hst _ _ ho);rw[show i+(n+1)=i+n+1 from rfl,hv,jh,if_neg (fun h=> hn _ _ (by omega) (by omega) ho h.1)];exact ih i (by omega) fun k o h1 h2=> hn k o h1 (by omega)
theorem E_len(hst:∀i o,al[i]? =some o→o.ev call (E i) (H i)=some (E (i+1),H (i+1))):∀i,i≤al.length→(E i).length=(E 0).length:=by
 intro i;induction i with
 |zero=> intro _; rfl
 |succ i ih=>
  intro hl;have hlt:i < al.length:=by omega
  obtain⟨v,hv,_⟩:=zV (hst _ _ (gB hlt));rw[hv,xm];exact ih (by omega)
theorem H_more(hst:∀i o,al[i]? =some o→o.ev call (E i) (H i)=some (E (i+1),H (i+1))):∀ (n i:Nat),i+n≤al.length→(∀k o,i≤k→k < i+n→al[k]? =some o→o.op.quiet=true)→More (H i) (H (i+n)):=by
 intro n;induction n with
 |zero=> intro i _ _; exact .refl _
 |succ n ih=>
  intro i hl hn;have hlt:i+n < al.length:=by omega
  have ho:al[i+n]? =some al[i+n]:=gB hlt;obtain⟨v,_,hv⟩:=zV (hst _ _ ho);refine(ih i (by omega) fun k o h1 h2=> hn k o h1 (by omega)).trans ?_;rcases hv with⟨_,hv⟩|⟨_,hv,_⟩
  ·exact jL (hn _ _ (by omega) (by omega) ho) hv
  ·rw[show i+(n+1)=i+n+1 from rfl,hv]; exact .refl _
theorem H_more'(hst:∀i o,al[i]? =some o→o.ev call (E i) (H i)=some (E (i+1),H (i+1))){i j:Nat}(hij:i≤j)(hj:j≤al.length)(hq:∀k o,i≤k→k < j→al[k]? =some o→o.op.quiet=true):More (H i) (H j):=by
 obtain⟨n,rfl⟩:=Nat.le.dest hij;exact H_more hst n i hj hq
structure Pend (tbl:Nat→Option Nat) (cs:List V) (d:Nat) (w0:World) (e:Env) (a:Act) (w:World) (ι:Iota) (I:Imm) (h:Heap) (l:Loc):Prop where
 tmp:d < e.length→a.tmps[d]? =some (.pointer (some ⟨l.b,l.o,none⟩))
 lies:Lies tbl (fun _ _=> none) (fun _ _=> none) w cs l
 own:∀i,¬zb ι h l.b i
 imm:∀i v,I l.b i≠some v
 ge:w0.heap.size≤l.b
structure Inv (p:Nat) (C:Nat→Prop) (tbl:Nat→Option Nat) (al:List Op) (E:Nat→Env) (H:Nat→Heap) (ι0:Iota) (I0:Imm) (w0:World) (a0:Act) (S:Nat→Prop) (a:Act) (w:World) (ι:Iota) (I:Imm) (m:Nat) (e:Env):Prop where
 post:Post tbl ι0 I0 (H 0) w0 ι I (H m) w
 hole:∀j,j < m→¬S j→∀k u,(H j).clk≤u→u < (H (j+1)).clk→ι k u=none
 mle:m≤al.length
 mW:∀o,al[m]? =some o→o.op.quiet=false
 before:∀i o,i < m→al[i]? =some o→o.op.quiet=false→S i
 after:∀i o,m≤i→i≠p→al[i]? =some o→o.op.free=false→¬C i→¬S i
 len:e.length=(E 0).length
 done:∀j o d,al[j]? =some o→S j→¬(j=p∧m≤p)→o.dst=some d→e.at d=(E (j+1)).at d
 undone:∀d,(∀j o,al[j]? =some o→S j→o.dst≠some d)→e.at d=(E 0).at d
 clk:∀j o,j < m→al[j]? =some o→o.op.free=false→¬S j→(H 0).clk≤(H j).clk
 env:RVe tbl ι I e a.tmps
 defers:a.defers=a0.defers
 pend:S p→m≤p→∀d cs g,al[p]? =some ⟨some d,.alloc cs,g⟩→∃l,Pend tbl cs d w0 e a w ι I (H m) l
theorem zo{o:O}(h:o.quiet=false):o.free=false:=by
 cases hf:o.free with
 |false=> rfl
 |true=> rw[free_quiet hf]at h; cases h
theorem next_loud(p:Nat)(hp:p≤al.length):∃m,p≤m∧m≤al.length∧(∀o,al[m]? =some o→o.op.quiet=false)∧∀k o,p≤k→k < m→al[k]? =some o→o.op.quiet=true:=by
 obtain⟨n,hn⟩:=Nat.le.dest hp;induction n generalizing p with
 |zero=> exact⟨p,wE _,hp,fun o ho=>(by rw[gF (by omega)]at ho; cases ho),fun k o h1 h2=> by omega⟩
 |succ n ih=>
  have ho:al[p]? =some al[p]:=gB (by omega);cases hq:al[p].op.quiet with
  |false=> exact⟨p,wE _,hp,fun o ho'=> by rw[ho]at ho'; cases ho'; exact hq,fun k o h1 h2=> by omega⟩
  |true=>
   obtain⟨m,h1,h2,h3,h4⟩:=ih (p+1) (by omega) (by omega);refine⟨m,by omega,h2,h3,fun k o hk1 hk2 hko=>?_⟩;by_cases hk:k=p
   ·subst hk; rw[ho]at hko; cases hko; exact hq
   ·exact h4 k o (by omega) hk2 hko
variable {p:Nat} {C L:Nat→Prop} (D:Drawn al af pre p C L) (hst:∀i o,al[i]? =some o→o.ev call (E i) (H i)=some (E (i+1),H (i+1)))
variable {ι0:Iota} {I0:Imm} {w0 w:World} {a0 a:Act} {S:Nat→Prop} {ι:Iota} {I:Imm} {m:Nat} {e:Env}
variable (Vh:Inv p C tbl al E H ι0 I0 w0 a0 S a w ι I m e) (hS:∀j,S j→∀k∈af.getD j [],S k)
variable {j:Nat} {o:Op} (hj:al[j]? =some o) (hnj:¬S j) (hrd:∀k∈af.getD j [],S k) (hfr0:zM ι0 (H 0))
include D in
theorem loud_nC{i:Nat}{x:Op}(hi:al[i]? =some x)(hq:x.op.quiet=false):¬C i:=fun hC=> by
 rcases D.calm i hC with hC|hC
 ·obtain⟨d,n,a,s,q,f,o,n',b,y,f',o',h1,_⟩:=hC.ex
  rw[hi]at h1; cases h1;simp[O.quiet]at hq
 ·obtain⟨d,md,n,a,s,h1,_⟩:=hC.ex
  rw[hi]at h1; cases h1;simp[O.quiet]at hq
include D hS hj hrd in
theorem pre_in{i:Nat}(hp:pre i j):S i:=D.closed hS i j (gA hj) hrd hp
include D hS in
theorem pre_of{i k:Nat}(hk:k < al.length)(hs:S k)(hp:pre i k):S i:=D.closed hS i k hk (hS k hs) hp
include D hst Vh hS hj hnj hrd in
theorem looks_same:∀t∈o.looks,e.at t=(E j).at t:=by
 intro t ht;have hjl:=gA hj;by_cases hx:∃ (i:Nat) (x:Op),al[i]? =some x∧x.dst=some t
 ·obtain⟨i,x,hi,hd⟩:=hx
  have hil:=gA hi;have huniq:∀ (k:Nat) (y:Op),al[k]? =some y→k≠i→y.dst≠some t:=fun k y hk hne=> D.dst i k x y t hi hk (yK hne) hd;by_cases hSi:S i
  ·-- i comes before j
   have hlt:i < j:=by
    rcases yJ i j with h1|h1|h1
    ·exact h1
    ·subst h1; exact absurd hSi hnj
    ·by_cases hp:pre j i
     ·exact absurd (pre_of D hS hil hSi hp) hnj
     ·exact absurd ht ((D.apart j i o x h1 hj hi hp).2 t hd)
   have hpn:¬(i=p∧m≤p):=by
    rintro⟨rfl,hm⟩;obtain⟨d,cs,h1,_⟩:=D.lone x hi;have hml:m < al.length:=by omega
    have hx:al[m]? =some al[m]:=gB hml;have hq:=Vh.mW _ hx;have hne:m≠i:=by
     rintro rfl;rw[hi]at hx;rw[←wA hx,h1]at hq;simp[O.quiet]at hq
    have hnS:¬S m:=Vh.after m _ (wE _) hne hx (zo hq) (loud_nC D hx hq);have hnp:¬pre m i:=fun h=> hnS (pre_of D hS hil hSi h);exact hnS (pre_in D hS hj hrd (D.look m j t _ o x hi hd hx hq (by omega) hnp hj ht))
   rw[Vh.done i x t hi hSi hpn hd];obtain⟨n,hn⟩:=Nat.le.dest hlt;have:=E_at (t:=t) hst n (i+1) (by omega) fun k y h1 h2 hk=> huniq k y hk (by omega);rw[show i+1+n=j from by omega]at this;exact this.symm
  ·have hle:j≤i:=by
    rcases wS i j with h1|h1
    ·by_cases hp:pre i j
     ·exact absurd (pre_in D hS hj hrd hp) hSi
     ·exact absurd ht ((D.apart i j x o h1 hi hj hp).1 t hd)
    ·exact h1
   rw[Vh.undone t fun k y hk hs=> by
    by_cases hki:k=i
    ·subst hki; exact absurd hs hSi
    ·exact huniq k y hk hki]
   have:=E_at (t:=t) hst j 0 (by omega) fun k y h1 h2 hk=> huniq k y hk (by omega);rw[wV]at this;exact this.symm
 ·have hno:∀ (k:Nat) (y:Op),al[k]? =some y→y.dst≠some t:=fun k y hk hd=> hx ⟨k,y,hk,hd⟩
  rw[Vh.undone t fun k y hk _=> hno k y hk];have:=E_at (t:=t) hst j 0 (by omega) fun k y h1 h2 hk=> hno k y hk;rw[wV]at this;exact this.symm
def with_(S:Nat→Prop)(j:Nat):Nat→Prop:=fun i=> S i∨i=j
include D hst Vh hj in
theorem env_next{v:V}(hv:E (j+1)=(E j).put o.dst v)(dst:Option Nat):(e.put o.dst v).length=(E 0).length∧
  (∀ (i:Nat) (x:Op) (d:Nat),al[i]? =some x→with_ S j i→¬(i=p∧m≤p)→x.dst=some d→(e.put o.dst v).at d=(E (i+1)).at d)∧(∀d,(∀ (i:Nat) (x:Op),al[i]? =some x→with_ S j i→x.dst≠some d)→(e.put o.dst v).at d=(E 0).at d):=by
 have hjl:=gA hj;refine⟨by rw[xm]; exact Vh.len,fun i x d hi hs hpn hd=>?_,fun d hd=>?_⟩
 ·by_cases hij:i=j
  ·subst hij
   rw[hj]at hi; cases hi;rw[hv,jh,jh,Vh.len,E_len hst i (by omega)];split
   ·rfl
   ·rename_i hn
    have hge:¬d < (E 0).length:=fun h=> hn ⟨hd,h⟩;simp only[Env.at,gD];rw[gF (by have:=Vh.len; omega),gF (by have:=E_len hst i (by omega); omega)]
  ·have hs':S i:=hs.resolve_right hij
   rw[jh,if_neg (fun h=> D.dst i j x o d hi hj hij hd h.1)];exact Vh.done i x d hi hs' hpn hd
 ·rw[jh,if_neg (fun h=> hd j o hj (.inr rfl) h.1)]
  exact Vh.undone d fun i x hi hs=> hd i x hi (.inl hs)
include D Vh hS hj hnj hrd in
theorem le_m(hf:o.op.free=false)(hC:¬C j):(j≤m∧(o.op.quiet=true→j < m)∧(o.op.quiet=false→j=m))∨(j=p∧m < p):=by
 have hjl:=gA hj;have h1:j≤m∨(j=p∧m < p):=by
  rcases wS m j with hlt|hge
  ·have hx:al[m]? =some al[m]:=gB (by omega)
   have hq:=Vh.mW _ hx;by_cases hp:pre m j
   ·exfalso
    have hne:m≠p:=by
     rintro rfl;obtain⟨d,cs,h1,_⟩:=D.lone _ hx;rw[h1]at hq;simp[O.quiet]at hq
    exact Vh.after m _ (wE _) hne hx (zo hq) (loud_nC D hx hq) (pre_in D hS hj hrd hp)
   ·rcases(D.w m j _ o hlt hx hj hp).1 hq with this|this|this
    ·rw[hf]at this; cases this
    ·exact .inr ⟨this,by omega⟩
    ·exact absurd this hC
  ·exact .inl hge
 rcases h1 with h1|h1
 ·refine .inl ⟨h1,fun hq=>?_,fun hq=>?_⟩
  ·rcases wS j m with h2|h2
   ·exact h2
   ·have:j=m:=by omega
    subst this;rw[Vh.mW o hj]at hq; cases hq
  ·rcases wS j m with h2|h2
   ·exact absurd (Vh.before j o h2 hj hq) hnj
   ·omega
 ·exact .inr h1
include D Vh hS hj hnj hrd in
theorem loud_m(hq:o.op.quiet=false):j=m:=by
 rcases le_m D Vh hS hj hnj hrd (zo hq) (loud_nC D hj hq)with h|⟨rfl,_⟩
 ·exact h.2.2 hq
 ·obtain⟨d,cs,h1,_⟩:=D.lone _ hj
  rw[h1]at hq;simp[O.quiet]at hq
theorem newSt_spec{al:List Op}{i j:Nat}{y:Op}(h:newSt al i j=true)(hj:al[j]? =some y):∃n d x q cs,y=⟨none,.store n (.t d) x,none⟩∧i < q∧q < j∧al[q]? =some ⟨some d,.alloc cs,none⟩:=by
 have hjl:=gA hj;unfold newSt at h;rw[show al.getD j default=y by simp[gD,hj]]at h;split at h
 ·rename_i n d x
  obtain⟨q,hq,h1⟩:=vS.1 h;simp only[wL,decide_eq_true_eq]at h1;have hq':=wX.1 hq;have hql:q < al.length:=by omega
  rw[show al.getD q default=al[q] by simp[gD,hql]]at h1;have h2:=h1.2;unfold isAlloc at h2;split at h2
  ·rename_i d' cs he
   have:d'=d:=by simpa using h2
   subst this;exact⟨n,d',x,q,cs,rfl,h1.1,hq',by rw[gB hql,he]⟩
  ·cases h2
 ·cases h
include D hst in
theorem put_more{i k:Nat}{y:Op}(hk:al[k]? =some y)(hn:newSt al i k=true){g:Heap}(hM:∀a,i+1≤a→a≤k→g.ents.length≤(H a).ents.length∧g.clk≤(H a).clk)(Mk:More g (H k))(hC:∀a,i+1≤a→a≤k→(H a).clk≤(H k).clk):More g (H (k+1))∧(H (k+1)).clk=(H k).clk:=by
 obtain⟨n,d,x,q,cs,rfl,h1,h2,hq⟩:=newSt_spec hn hk;have hkl:=gA hk;have hev':=hst q _ hq;simp only[Op.ev,Op.wanted,opEv,if_true,Heap.push]at hev';obtain⟨hE,hH⟩:=qd hev';have hat:(E k).at d=(E (q+1)).at d:=by
  have:=E_at hst (t:=d) (k - (q+1)) (q+1) (by omega) fun a o ha1 ha2 ha=> by
   have:=D.dst q a _ o d hq ha (by omega) rfl;exact this
  rwa[show q+1+(k - (q+1))=k by omega]at this
 rw[hE,jh]at hat;obtain⟨v, -,hv⟩:=zV (hst k _ hk);rcases hv with⟨-,hv⟩|⟨hw, -, -⟩
 case inr=> simp[Op.wanted]at hw
 simp only[opEv]at hv;by_cases hd:d < (E q).length
 case neg=>
  rw[if_neg (fun h=> hd h.2)]at hat;have hX:X.ev (E k) (.t d)=V.undef:=by
   show(E k).at d=V.undef;rw[hat];simp only[Env.at,gD];rw[gF (by omega)]; rfl
  rw[hX]at hv;cases hv
 rw[if_pos ⟨rfl,hd⟩]at hat;have hX:X.ev (E k) (.t d)=V.ptr (H q).ents.length (H q).clk 0:=hat;rw[hX]at hv;dsimp only at hv;have hv2:∃cs',H (k+1)=(H k).put (H q).ents.length (H q).clk cs':=by
  cases hg:(H k).get (H q).ents.length (H q).clk with
  |none=> rw[hg]at hv; cases hv
  |some cs0=>
   rw[hg]at hv;dsimp only at hv;split at hv
   ·obtain⟨-,hH2⟩:=qd hv; exact⟨_,hH2⟩
   ·cases hv
 obtain⟨cs',hH2⟩:=hv2;have Mq:=hM q (by omega) (by omega);have c1:=hC (q+1) (by omega) (by omega);have c2:(H (q+1)).clk=(H q).clk+1:=by rw[hH]
 obtain⟨⟨b,b1,b2⟩,b3⟩:=Mk;have hge:g.ents.length≤(H q).ents.length:=Mq.1;have a3:g.clk≤(H q).clk:=Mq.2;refine⟨⟨⟨b.set ((H q).ents.length - g.ents.length) ((H q).clk,some cs'),?_,fun e he=>?_⟩,?_⟩,?_⟩
 rotate_left
 ·rw[hH2]
  show g.clk≤e.1∧e.1 < (H k).clk;rcases List.mem_or_eq_of_mem_set he with h|h
  ·exact b2 e h
  ·subst h; simp only; omega
 ·rw[hH2]; exact b3
 ·rw[hH2]; rfl
 rw[hH2];show(H k).ents.set _ _=_;rw[b1,List.set_append_right _ _ hge]
theorem new_ev{o:Op}(hn:isNew o=true){e:Env}{h h1:Heap}{v:V}(hev:opEv call o.op e h=some (v,h1)):∃cs,h1=h.push cs∧∀g:Heap,g.ents.length=h.ents.length→g.clk=h.clk→opEv call o.op e g=some (v,g.push cs):=by
 obtain⟨dst,op,gd⟩:=o;unfold isNew at hn;split at hn
 ·rename_i d cs hx
  cases hx;simp only[opEv]at hev ⊢;obtain⟨rfl,rfl⟩:=qd hev;exact⟨_,rfl,fun g h1 h2=> by rw[h1,h2]⟩
 ·rename_i d sz n z ps hx
  cases hx;simp only[opEv]at hev ⊢;split at hev
  ·rename_i cs hf
   obtain⟨rfl,rfl⟩:=qd hev;exact⟨_,rfl,fun g h1 h2=> by rw[h1,h2]⟩
  ·cases hev
 ·cases hn
theorem thr_get{o:O}{e:Env}{h h':Heap}{v:V}{g:Nat}{x:X}{l:List X}(ho:o= .callf (.thr []) g (x::l))(hev:opEv call o e h=some (v,h')):∃key uid cs cs0,x.ev e= .ptr key uid 0∧h'=h.put key uid cs∧h.ents[key]? =some (uid,some cs0):=by
 subst ho;simp only[opEv,zY,vB]at hev;split at hev
 ·rename_i key uid rest hx
  obtain⟨e1,e2⟩:=List.cons.inj hx;cases hg:h.get key uid with
  |none=> rw[hg]at hev; cases hev
  |some cs0=>
   have hk:h.ents[key]? =some (uid,some cs0):=by
    unfold Heap.get at hg;split at hg
    ·rename_i u' c2 he2
     split at hg
     ·rename_i hu2; subst hu2; cases hg; exact he2
     ·cases hg
    ·cases hg
   rw[hg]at hev;simp only at hev
   repeat' split at hev
   all_goals first
    |(cases hev; done)
    |(obtain⟨_,rfl⟩:=qd hev; exact⟨key,uid,_,cs0,e1,rfl,hk⟩)
 ·cases hev
theorem thrBox_spec{al:List Op}{j:Nat}{y:Op}(h:thrBox al j=true)(hj:al[j]? =some y):∃s t f g l d,y=⟨d,.callf (.thr []) g (.t t::l),none⟩∧al[f]? =some ⟨some t,.move (.t s),none⟩∧f < j∧∀ (k:Nat) z,al[k]? =some z→z.dst≠some s:=by
 have hjl:=gA hj;unfold thrBox at h;rw[show al.getD j default=y by simp[gD,hj]]at h;split at h
 ·rename_i d g t l
  obtain⟨f,hf,h1⟩:=vS.1 h;have hf':=wX.1 hf;have hfl:f < al.length:=by omega
  rw[show al.getD f default=al[f] by simp[gD,hfl]]at h1;split at h1
  ·rename_i t' s he
   simp only[wL,beq_iff_eq,wO,vV,beq_eq_false_iff_ne,ne_eq]at h1;obtain⟨rfl,h2⟩:=h1;exact⟨s,t',f,g,l,d,rfl,by rw[gB hfl,he],hf',fun k z hz=> h2 z (gE hz)⟩
  ·cases h1
 ·cases h
include D hst in
theorem thr_old(hP0:∀s k u o,(E 0).at s=V.ptr k u o→u < (H 0).clk){k:Nat}{y:Op}(hk:al[k]? =some y)(hb:thrBox al k=true):H (k+1)=H k∨∃key uid cs cs0,H (k+1)=(H k).put key uid cs∧(H k).ents[key]? =some (uid,some cs0)∧uid < (H 0).clk:=by
 obtain⟨s,t,f,g,l,d,rfl,h1,h2,h3⟩:=thrBox_spec hb hk;have hkl:=gA hk;obtain⟨v,_,h⟩:=zV (hst k _ hk);rcases h with⟨_,h⟩|⟨_,h,_⟩
 ·obtain⟨key,uid,cs,cs0,k5,k6,k7⟩:=thr_get rfl h
  refine .inr ⟨key,uid,cs,cs0,k6,k7,?_⟩;have e1:(E f).at s=(E 0).at s:=by
   have:=E_at (t:=s) hst f 0 (by omega) fun i y _ _ hi=> h3 i y hi
   rwa[wV]at this
  have e2:(E k).at t=(E (f+1)).at t:=by
   have:=E_at (t:=t) hst (k - (f+1)) (f+1) (by omega) fun q y _ _ hq'=> D.dst f q _ y t h1 hq' (by omega) rfl
   rwa[show f+1+(k - (f+1))=k by omega]at this
  have k8:=hst f _ h1;simp only[Op.ev,Op.wanted,if_true,opEv,X.ev]at k8;obtain⟨q1,_⟩:=qd k8;have k5':(E k).at t= .ptr key uid 0:=k5;rw[e2,q1,jh]at k5';split at k5'
  ·rw[e1]at k5'; exact hP0 _ _ _ _ k5'
  ·rename_i hn
   have hge:¬t < (E f).length:=fun h=> hn ⟨rfl,h⟩;simp only[Env.at,gD]at k5';rw[gF (by omega)]at k5';cases k5'
 ·exact .inl h
structure MoreB (x:Op) (a b g h:Heap):Prop where
 len:g.ents.length=b.ents.length
 clk:g.clk=b.clk
 more:More g h
 new:g=b∨(isNew x=true∧∀idx,a.ents.length≤idx→g.ents[idx]? =b.ents[idx]?)
theorem MoreB.ge{x:Op}{a b g h:Heap}(M:MoreB x a b g h):b.ents.length≤h.ents.length∧b.clk≤h.clk:=by
 obtain⟨⟨n,h1,h2⟩,h3⟩:=M.more;rw[←M.len,←M.clk,h1];exact⟨by simp,h3⟩
include D hst Vh hS in
theorem moreW(hP0:∀s k u o,(E 0).at s=V.ptr k u o→u < (H 0).clk){i:Nat}{x:Op}(hi:al[i]? =some x)(him:i < m)(hf:x.op.free=false)(hC:¬C i)(hL:¬L i)(hn:¬S i):∀n,i+1+n≤m→(∀a,i+1≤a→a≤i+1+n→(∃g,MoreB x (H i) (H (i+1)) g (H a))∧(H a).clk≤(H (i+1+n)).clk):=by
 have hc0:=Vh.clk i x him hi hf hn;intro n;induction n with
 |zero=>
  intro _ a h1 h2;have:a=i+1:=by omega
  subst this;exact⟨⟨_,rfl,rfl,.refl _,.inl rfl⟩,wE _⟩
 |succ n ih=>
  intro hm a h1 h2;have I:=ih (by omega);have hml:=Vh.mle;have hk:al[i+1+n]? =some al[i+1+n]:=gB (by omega);obtain⟨g,Mg⟩:=(I (i+1+n) (by omega) (wE _)).1;have key:(∃g,MoreB x (H i) (H (i+1)) g (H (i+1+n+1)))∧(H (i+1+n)).clk≤(H (i+1+n+1)).clk:=by
   cases hq:al[i+1+n].op.quiet with
   |true=>
    obtain⟨v, -,hv⟩:=zV (hst _ _ hk);have M:More (H (i+1+n)) (H (i+1+n+1)):=by
     rcases hv with⟨-,hv⟩|⟨-,hv, -⟩
     ·exact jL hq hv
     ·rw[hv]; exact .refl _
    exact⟨⟨g,Mg.len,Mg.clk,Mg.more.trans M,Mg.new⟩,M.clk⟩
   |false=>
    have hSk:=Vh.before _ _ (by omega) hk hq;by_cases hp:pre i (i+1+n)
    ·exact absurd (pre_of D hS (gA hk) hSk hp) hn
    ·rcases(D.w i _ x _ (by omega) hi hk hp).2 hq with h|h|h|h
     ·rw[hf]at h; cases h
     rotate_left
     ·exact absurd h hC
     ·exact absurd h hL
     ·have h0:=h.1
      unfold newSt2 at h0;rcases yC _ _▸h0 with h0|h0
      ·obtain⟨g1,g2⟩:=put_more D hst (g:=g) hk h0 (fun a a1 a2=> by
        obtain⟨g',Mg'⟩:=(I a a1 a2).1;have:=Mg'.ge;rw[Mg.len,Mg.clk]; exact this) Mg.more fun a a1 a2=>(I a a1 a2).2
       exact⟨⟨g,Mg.len,Mg.clk,g1,Mg.new⟩,by omega⟩
      ·simp only[wL]at h0
       have hnew:isNew x=true:=by
        have:=h0.1
        rwa[show al.getD i default=x by simp[gD,hi]]at this
       rcases thr_old D hst hP0 hk h0.2 with h3|⟨key,uid,cs,cs0,h3,h4,h5⟩
       ·exact⟨⟨g,Mg.len,Mg.clk,by rw[h3]; exact Mg.more,Mg.new⟩,by rw[h3]; exact wE _⟩
       ·obtain⟨v0, -,hv0⟩:=zV (hst i x hi)
        have hw:∃cs1,H (i+1)=(H i).push cs1:=by
         rcases hv0 with⟨-,hv0⟩|⟨hw, -, -⟩
         ·obtain⟨cs1,e1, -⟩:=new_ev hnew hv0; exact⟨cs1,e1⟩
         ·exfalso
          have:x.guard=none:=by
           unfold isNew at hnew; split at hnew <;> first|rfl|cases hnew
          simp[Op.wanted,this]at hw
        obtain⟨cs1,e1⟩:=hw;have hcl:(H (i+1)).clk=(H i).clk+1:=by rw[e1]; rfl
        have hle1:(H (i+1)).ents.length=(H i).ents.length+1:=by rw[e1]; simp[Heap.push]
        have hgk:g.ents[key]? =some (uid,some cs0):=by
         rcases Mg.more.split h4 with z|⟨z, -, -⟩
         ·exact z
         ·have:=Mg.clk
          simp only at z; omega
        have hkl:key < g.ents.length:=gA hgk;have gi:∀idx,(H i).ents.length≤idx→g.ents[idx]? =(H (i+1)).ents[idx]?:=fun idx hx=> by
         rcases Mg.new with z|z
         ·rw[z]
         ·exact z.2 idx hx
        have hne:key < (H i).ents.length:=by
         rcases wS key (H i).ents.length with z|z
         ·exact z
         ·exfalso
          have e2:=gi key z;rw[hgk,e1]at e2;have hlen:=Mg.len;have:key=(H i).ents.length:=by omega
          subst this;simp[Heap.push]at e2;omega
        refine⟨⟨⟨g.ents.set key (uid,some cs),g.clk⟩,by simp[Mg.len],Mg.clk,?_,.inr ⟨hnew,fun idx hx=>?_⟩⟩,by rw[h3]; exact wE _⟩
        ·obtain⟨⟨b,b1,b2⟩,b3⟩:=Mg.more
         rw[h3];refine⟨⟨b,?_,b2⟩,b3⟩;show(H (i+1+n)).ents.set _ _=_;rw[b1,List.set_append_left _ _ hkl]
        ·show(g.ents.set key _)[idx]? =_
         rw[gL (by omega),gi idx hx]
  by_cases ha:a≤i+1+n
  ·have:=I a h1 ha
   exact⟨this.1,by have:=this.2; have:=key.2; show _≤(H (i+1+n+1)).clk; omega⟩
  ·have:a=i+1+n+1:=by omega
   subst this;exact⟨key.1,wE _⟩
include D hst Vh hS in
theorem moreW'(hP0:∀s k u o,(E 0).at s=V.ptr k u o→u < (H 0).clk){i:Nat}{x:Op}(hi:al[i]? =some x)(him:i < m)(hf:x.op.free=false)(hC:¬C i)(hL:¬L i)(hn:¬S i){k:Nat}(h1:i+1≤k)(h2:k≤m):∃g,MoreB x (H i) (H (i+1)) g (H k):=by
 have:=moreW D hst Vh hS hP0 hi him hf hC hL hn (k - (i+1)) (by omega) k h1 (by omega);exact this.1
include D hst Vh hS in
theorem moreC(hP0:∀s k u o,(E 0).at s=V.ptr k u o→u < (H 0).clk){i:Nat}{x:Op}(hi:al[i]? =some x)(him:i < m)(hf:x.op.free=false)(hC:¬C i)(hL:¬L i)(hn:¬S i){k:Nat}(h1:i+1≤k)(h2:k≤m):(H (i+1)).clk≤(H k).clk:=by
 obtain⟨g,M⟩:=moreW' D hst Vh hS hP0 hi him hf hC hL hn h1 h2;exact M.ge.2
include D hst Vh hS in
theorem moreG(hP0:∀s k u o,(E 0).at s=V.ptr k u o→u < (H 0).clk){i:Nat}{x:Op}(hi:al[i]? =some x)(him:i < m)(hf:x.op.free=false)(hC:¬C i)(hL:¬L i)(hn:¬S i)(hq:x.op.quiet=true){e:Env}{v:V}(hev:opEv call x.op e (H i)=some (v,H (i+1))):
  ∃g0 g,g0.clk=(H i).clk∧g.clk=(H (i+1)).clk∧opEv call x.op e g0=some (v,g)∧More g0 g∧More g (H m):=by
 obtain⟨g,M⟩:=moreW' D hst Vh hS hP0 hi him hf hC hL hn (k:=m) (by omega) (wE _);rcases M.new with h|⟨h1,h2⟩
 ·subst h
  exact⟨H i,_,rfl,rfl,hev,jL hq hev,M.more⟩
 ·obtain⟨cs,e1,e2⟩:=new_ev h1 hev
  have hl:g.ents.length=(H i).ents.length+1:=by rw[M.len,e1]; simp[Heap.push]
  have e3:=e2 ⟨g.ents.take (H i).ents.length,(H i).clk⟩ (by simp; omega) rfl;have e4:(⟨g.ents.take (H i).ents.length,(H i).clk⟩:Heap).push cs=g:=by
   have q:=h2 (H i).ents.length (wE _);rw[e1]at q;simp[Heap.push]at q;have c:=M.clk;rw[e1]at c;obtain⟨ge,gc⟩:=g;simp only[Heap.push]at c q hl ⊢;subst c
   congr 1
   refine List.ext_getElem? fun n=>?_;rcases yJ n (H i).ents.length with z|z|z
   ·rw[gC (by simp; omega),List.getElem?_take_of_lt z]
   ·subst z
    rw[gI (by simp; omega),q];simp[hl]
   ·rw[gI (by simp; omega),gF (l:=ge) (by omega)]
    simp; omega
  rw[e4]at e3;have e5:More ⟨g.ents.take (H i).ents.length,(H i).clk⟩ g:=by
   have:=More.push (⟨g.ents.take (H i).ents.length,(H i).clk⟩:Heap) cs
   rwa[e4]at this
  exact⟨⟨g.ents.take (H i).ents.length,(H i).clk⟩,g,rfl,M.clk,e3,e5,M.more⟩
include hst in
theorem free_H{i:Nat}{x:Op}(hi:al[i]? =some x)(hf:x.op.free=true):H (i+1)=H i:=by
 obtain⟨v,_,h⟩:=zV (hst i x hi);rcases h with⟨_,h⟩|⟨_,h,_⟩
 ·exact(free_heap hf h).1
 ·exact h
theorem jx{h h':Heap}{sz b n:Nat}{x v:V}{ds:List V}(hev:za sz b x n ds h=some (v,h')):
  h.clk≤h'.clk∧∀ (k u:Nat) (cs':List V),u < h.clk→h'.ents[k]? =some (u,some cs')→h.ents[k]? =some (u,some cs'):=by
 unfold za at hev;split at hev
 ·split at hev
  ·obtain⟨_,rfl⟩:=qd hev; exact⟨wE _,fun k u cs' _ hk=> hk⟩
  ·obtain⟨_,rfl⟩:=qd hev; exact⟨wE _,fun k u cs' _ hk=> hk⟩
  ·cases hev
 ·split at hev
  ·split at hev
   ·obtain⟨_,rfl⟩:=qd hev
    refine⟨yY _,fun k u cs' hu hk=>?_⟩;rcases(More.push h ds).split hk with h1|⟨h1,_⟩
    ·exact h1
    ·simp only at h1; omega
   ·cases hev
  ·rename_i key uid off len s
   split at hev
   ·rename_i cs hg
    split at hev
    ·obtain⟨_,rfl⟩:=qd hev
     refine⟨yY _,fun k u cs' hu hk=>?_⟩;by_cases hkk:k=key
     ·subst hkk
      have hl:k < h.ents.length:=by
       have:=gA hk;simpa[Heap.renew]using this
      simp only[Heap.renew]at hk;rw[gQ hl]at hk;have:=congrArg (fun x=> x.map Prod.fst) hk;simp at this;omega
     ·simp only[Heap.renew]at hk
      rw[gL (yK hkk)]at hk;exact hk
    ·cases hev
   ·cases hev
  ·cases hev
theorem mapS_hsub{f:V→Heap→Option (V×Heap)}(hf:∀v h t h',f v h=some (t,h')→HSub h' h):∀ (xs:List V) (h:Heap) (ys:List V) (h':Heap),mapS f xs h=some (ys,h')→HSub h' h
 | [],h,ys,h',hm=> by
  simp only[mapS,wB,wH]at hm;rw[←hm.2]; exact .refl h
 |x::xs,h,ys,h',hm=> by
  simp only[mapS]at hm;split at hm
  ·rename_i y h1 hy
   split at hm
   ·rename_i ys' h2 hys
    simp only[wB,wH]at hm;obtain⟨rfl,rfl⟩:=hm;exact(mapS_hsub hf xs h1 ys' h2 hys).trans (hf x h y h1 hy)
   ·cases hm
  ·cases hm
theorem take_hsub:∀ (f:Nat) (ss:List Nat) (v:V) (h:Heap) (t:V) (h':Heap),take f ss v h=some (t,h')→HSub h' h
 |0,ss,v,h,t,h',e=> by simp[take]at e
 |f+1,ss,v,h,t,h',e=> by
  have S:=fun ss=> mapS_hsub (f:=take f ss) (fun v h t h' e=> take_hsub f ss v h t h' e);cases v <;> cases ss <;> simp only[take,take_sl]at e
  all_goals repeat' split at e
  all_goals first
   |(cases e; done)
   |(obtain⟨_,rfl⟩:=qd e; exact .refl _)
   |(rename_i hm; obtain⟨_,rfl⟩:=qd e; exact S _ _ _ _ _ hm)
   |(rename_i hm; obtain⟨_,rfl⟩:=qd e; exact(S _ _ _ _ _ hm).trans (xF _ _))
theorem tame_step{o:O}{e:Env}{h h':Heap}{v:V}(ho:o.quiet=true∨o.isAppend=true∨o.isStore=true)(hev:opEv call o e h=some (v,h')):
  h.clk≤h'.clk∧∀ (k u:Nat) (cs':List V),u < h.clk→h'.ents[k]? =some (u,some cs')→∃cs,h.ents[k]? =some (u,some cs)∧(o.isStore=false→cs=cs'):=by
 rcases ho with ho|ho|ho
 ·have M:=jL ho hev
  refine⟨M.clk,fun k u cs' hu hk=>?_⟩;rcases M.split hk with h1|⟨h1,_⟩
  ·exact⟨cs',h1,fun _=> rfl⟩
  ·simp only at h1; omega
 ·cases o with
  |append sz b x y=>
   simp only[opEv]at hev;split at hev
   ·obtain⟨h1,h2⟩:=jx hev
    exact⟨h1,fun k u cs' hu hk=>⟨cs',h2 k u cs' hu hk,fun _=> rfl⟩⟩
   ·cases hev
  |appendZ sz b z x y=>
   simp only[opEv]at hev;split at hev
   ·split at hev
    ·obtain⟨h1,h2⟩:=jx hev
     exact⟨h1,fun k u cs' hu hk=>⟨cs',h2 k u cs' hu hk,fun _=> rfl⟩⟩
    ·cases hev
   ·cases hev
  |frz x=>
   simp only[opEv]at hev;have S:=take_hsub _ _ _ _ _ _ hev;exact⟨Nat.le_of_eq S.clk.symm,fun k u cs' hu hk=>⟨cs',S.live k u cs' hk,fun _=> rfl⟩⟩
  |fz o=>
   simp only[opEv]at hev;split at hev
   ·rename_i v1 h1 he
    have S:=take_hsub _ _ _ _ _ _ hev;have ho':o.quiet=true∨o.isApp=true:=by simpa[O.isAppend]using ho
    have in1:h.clk≤h1.clk∧∀ (k u:Nat) (cs':List V),u < h.clk→h1.ents[k]? =some (u,some cs')→h.ents[k]? =some (u,some cs'):=by
     rcases ho' with ho'|ho'
     ·have M:=jL ho' he
      refine⟨M.clk,fun k u cs' hu hk=>?_⟩;rcases M.split hk with h2|⟨h2,_⟩
      ·exact h2
      ·simp only at h2; omega
     ·cases o with
      |append sz b x y=>
       simp only[opEv]at he;split at he
       ·exact jx he
       ·cases he
      |appendZ sz b z x y=>
       simp only[opEv]at he;split at he
       ·split at he
        ·exact jx he
        ·cases he
       ·cases he
      |_=> simp[O.isApp]at ho'
    exact⟨by rw[S.clk]; exact in1.1,fun k u cs' hu hk=>⟨cs',in1.2 k u cs' hu (S.live k u cs' hk),fun _=> rfl⟩⟩
   ·cases hev
  |_=> simp[O.isAppend]at ho
 ·cases o with
  |store n a x=>
   simp only[opEv]at hev;split at hev
   ·rename_i key uid off _
    split at hev
    ·rename_i cs hg
     split at hev
     ·obtain⟨_,rfl⟩:=qd hev
      refine⟨wE _,fun k u cs' hu hk=>?_⟩;simp only[Heap.put]at hk;by_cases hkk:k=key
      ·subst hkk
       have hl:k < h.ents.length:=by
        have:=gA hk;simpa using this
       rw[gQ hl]at hk;have:=congrArg (fun x=> x.map Prod.fst) hk;simp at this;subst this;unfold Heap.get at hg;split at hg
       ·rename_i u' cs0 hh
        split at hg
        ·rename_i hu'; subst hu'; exact⟨_,hh,fun hs=> by simp[O.isStore]at hs⟩
        ·cases hg
       ·cases hg
      ·rw[gL (yK hkk)]at hk
       exact⟨cs',hk,fun _=> rfl⟩
     ·cases hev
    ·cases hev
   ·cases hev
  |_=> simp[O.isStore]at ho
include hst in
theorem tame_at{j0:Nat}(T:Tame al pre j0){i:Nat}{x:Op}(hi:al[i]? =some x):(H i).clk≤(H (i+1)).clk∧∀ (k u:Nat) (cs':List V),u < (H i).clk→(H (i+1)).ents[k]? =some (u,some cs')→∃cs,(H i).ents[k]? =some (u,some cs)∧(x.op.isStore=false→cs=cs'):=by
 obtain⟨v,_,h⟩:=zV (hst i x hi);rcases h with⟨_,h⟩|⟨_,h,_⟩
 ·refine tame_step ?_ h
  cases hq:x.op.quiet with
  |true=> exact .inl rfl
  |false=>
   rcases T.loud i x hi hq with h1|h1
   ·exact .inr (.inl h1)
   ·exact .inr (.inr h1.1)
 ·rw[h]; exact⟨wE _,fun k u cs' _ hk=>⟨cs',hk,fun _=> rfl⟩⟩
include hst in
theorem jO{j0:Nat}(T:Tame al pre j0){i k:Nat}(hik:i≤k)(hk:k≤al.length):(H i).clk≤(H k).clk:=by
 obtain⟨n,rfl⟩:=Nat.le.dest hik;clear hik;induction n with
 |zero=> exact wE _
 |succ n ih=> exact vM (ih (by omega)) (tame_at hst T (gB (show i+n < al.length by omega))).1
include hst in
theorem tame_back{j0:Nat}(T:Tame al pre j0){t0 q k u:Nat}{cq:List V}(hq:q≤al.length)(hu:u < (H t0).clk)(he:(H q).ents[k]? =some (u,some cq)):∀n t,t0≤t→t+n=q→∃cs,(H t).ents[k]? =some (u,some cs):=by
 intro n;induction n with
 |zero=> intro t _ h; subst h; exact⟨cq,he⟩
 |succ n ih=>
  intro t h0 h1;obtain⟨cs,hc⟩:=ih (t+1) (by omega) (by omega);have hm:=jO hst T h0 (by omega);obtain⟨cs2,h2,_⟩:=(tame_at hst T (gB (show t < al.length by omega))).2 k u cs (by omega) hc;exact⟨cs2,h2⟩
include hst in
theorem tame_same{j0:Nat}(T:Tame al pre j0){t0 q k u:Nat}{cq:List V}(hq:q≤al.length)(hu:u < (H t0).clk)(he:(H q).ents[k]? =some (u,some cq)){t:Nat}(ht:t0≤t):∀n,t+n≤q→(∀ (i:Nat) (x:Op),t≤i→i < t+n→al[i]? =some x→x.op.isStore=false)→(H t).ents[k]? =(H (t+n)).ents[k]?:=by
 intro n;induction n with
 |zero=> intro _ _; rfl
 |succ n ih=>
  intro hn hs;rw[ih (by omega) fun i x a b=> hs i x a (by omega)];have hx:al[t+n]? =some al[t+n]:=gB (by omega);obtain⟨cs,hc⟩:=tame_back hst T hq hu he (q - (t+n+1)) (t+n+1) (by omega) (by omega);have hm:=jO hst T (show t0≤t+n by omega) (by omega);obtain⟨cs2,h2,h3⟩:=(tame_at hst T hx).2 k u cs (by omega) hc;have:=h3 (hs _ _ (by omega) (by omega) hx);subst this;rw[h2]; exact hc.symm
include D in
theorem calm_H(hst:∀i o,al[i]? =some o→o.ev call (E i) (H i)=some (E (i+1),H (i+1))){i:Nat}(hC:C i):H (i+1)=H i:=by
 obtain⟨d,md,n,a,h1⟩:∃d md n a,al[i]? =some ⟨some d,.load md n (.t a),none⟩:=by
  rcases D.calm i hC with hC|hC
  ·obtain⟨d,n,a,s,q,f,o,n',b,y,f',o',h1,_⟩:=hC.ex
   exact⟨d,_,n,a,h1⟩
  ·obtain⟨d,md,n,a,s,h1,_⟩:=hC.ex
   exact⟨d,md,n,a,h1⟩
 have h:=hst i _ h1;simp only[Op.ev,Op.wanted,if_true]at h;split at h
 ·rename_i v h2 ho
  obtain⟨_,hH⟩:=qd h;rw[hH];simp only[opEv]at ho
  repeat' split at ho
  all_goals first
   |(cases ho; done)
   |(obtain⟨_,rfl⟩:=qd ho; rfl)
 ·cases h
include hst in
theorem addr_at(hd:∀ (i j:Nat) (x y:Op) (d:Nat),al[i]? =some x→al[j]? =some y→i≠j→x.dst=some d→y.dst≠some d){f a o s k:Nat}(hf:al[f]? =some ⟨some a,.fieldAddr o (.t s),none⟩)(hs:∀ (i:Nat) (y:Op),al[i]? =some y→y.dst≠some s)(hk:f < k)(hkl:k≤al.length):
  (∃cs,(E k).at a= .iptr cs)∨(∃key uid off o',(E 0).at s= .ptr key uid off∧(E k).at a= .ptr key uid o')∨(E k).at a=V.undef:=by
 have e0:(E f).at s=(E 0).at s:=by
  have:=E_at (t:=s) hst f 0 (by omega) fun i y _ _ hi=> hs i y hi
  rwa[wV]at this
 have e1:(E k).at a=(E (f+1)).at a:=by
  have:=E_at (t:=a) hst (k - (f+1)) (f+1) (by omega) fun i y h1 _ hi=> hd f i _ y a hf hi (by omega) rfl
  rwa[show f+1+(k - (f+1))=k by omega]at this
 have h:=hst f _ hf;simp only[Op.ev,Op.wanted,if_true]at h;split at h
 ·rename_i v h2 ho
  obtain⟨hE,_⟩:=qd h;rw[e1,hE,jh];split
  ·simp only[opEv]at ho
   have hX:X.ev (E f) (.t s)=(E 0).at s:=e0;rw[hX]at ho;split at ho
   ·rename_i key uid off hp
    obtain⟨rfl,_⟩:=qd ho;exact .inr (.inl ⟨key,uid,off,_,hp,rfl⟩)
   ·obtain⟨rfl,_⟩:=qd ho
    exact .inl ⟨_,rfl⟩
   ·cases ho
  ·rename_i hn
   right; right;have hge:¬a < (E f).length:=fun h=> hn ⟨rfl,h⟩;simp only[Env.at,gD];rw[gF (by omega)]; rfl
 ·cases h
theorem no_store(D:Drawn al af pre p C L)(Vh:Inv p C tbl al E H ι0 I0 w0 a0 S a w ι I m e)(hS:∀j,S j→∀k∈af.getD j [],S k)(hj:al[j]? =some o)(hnj:¬S j)(hrd:∀k∈af.getD j [],S k)(T:Tame al pre j)(hoq:o.op.quiet=true){i:Nat}{x:Op}(hi:al[i]? =some x)(hb:(j≤i∧i < m)∨(m≤i∧i < j)):x.op.isStore=false:=by
 cases hs:x.op.isStore with
 |false=> rfl
 |true=>
  exfalso;have hq:x.op.quiet=false:=by
   cases hx:x.op <;> rw[hx]at hs <;> first|rfl|(simp[O.isStore]at hs; done)
  have hjl:=gA hj;have hil:=gA hi;have hap:x.op.isAppend=false:=by
   cases hx:x.op <;> rw[hx]at hs <;> first|rfl|(simp[O.isStore]at hs; done)
  rcases T.loud i x hi hq with h1|⟨_,h1⟩
  ·rw[hap]at h1; cases h1
  ·have hij:i≠j:=fun e=> by subst e; rw[hj]at hi; cases hi; rw[hoq]at hq; cases hq
   rcases hb with⟨b1,b2⟩|⟨b1,b2⟩
   ·have hSi:=Vh.before i x b2 hi hq
    rcases h1 with h1|h1
    ·have:=D.pre_lt i j hjl h1; omega
    ·exact hnj (pre_of D hS hil hSi h1)
   ·rcases h1 with h1|h1
    ·have hSi:=pre_in D hS hj hrd h1
     have hp:i≠p:=by
      rintro rfl;obtain⟨d,cs,h3,_⟩:=D.lone _ hi;rw[h3]at hq;simp[O.quiet]at hq
     exact Vh.after i x b1 hp hi (zo hq) (loud_nC D hi hq) hSi
    ·have:=D.pre_lt j i hil h1; omega
theorem q_le(D:Drawn al af pre p C L)(Vh:Inv p C tbl al E H ι0 I0 w0 a0 S a w ι I m e)(hS:∀j,S j→∀k∈af.getD j [],S k)(hnj:¬S j){q:Nat}{x:Op}(hq:al[q]? =some x)(hl:x.op.quiet=false)(hp:pre j q):m≤q:=by
 rcases wS q m with h|h
 ·exact absurd (pre_of D hS (gA hq) (Vh.before q x h hq hl) hp) hnj
 ·exact h
theorem calm_val1(D:Drawn al af pre p C L)(hst:∀i o,al[i]? =some o→o.ev call (E i) (H i)=some (E (i+1),H (i+1)))(Vh:Inv p C tbl al E H ι0 I0 w0 a0 S a w ι I m e)(hS:∀j,S j→∀k∈af.getD j [],S k)(hj:al[j]? =some o)(hnj:¬S j)(hrd:∀k∈af.getD j [],S k)(hP0:∀s k u o,(E 0).at s=V.ptr k u o→u < (H 0).clk)(Cm:CalmAt al pre j){v:V}(hev:opEv call o.op (E j) (H j)=some (v,H (j+1))):
  opEv call o.op (E j) (H m)=some (v,H m):=by
 obtain⟨d,n,b,s,q,f,o1,n',b',y,f',o',h1,h2,h3,h4,h5,h6,h7,h8⟩:=Cm.ex;rw[hj]at h1; cases h1;have hjl:=gA hj;have hql:=gA h5;have hmq:=q_le D Vh hS hnj h5 rfl h8;have hjq:=D.pre_lt j q hql h8;simp only[opEv]at hev ⊢;have hX:X.ev (E j) (.t b)=(E j).at b:=rfl;rw[hX]at hev ⊢;rcases addr_at hst D.dst h2 h4 h3 (by omega)with⟨cs,hc⟩|⟨key,uid,off,o2,g1,g2⟩|hc
 ·rw[hc]at hev ⊢
  simp only at hev ⊢;split at hev
  ·obtain⟨rfl,_⟩:=qd hev; rfl
  ·cases hev
 ·have hu:=hP0 _ _ _ _ g1
  -- the store finds the row
  have hg:∃cq,(H q).ents[key]? =some (uid,some cq):=by
   have h:=hst q _ h5;simp only[Op.ev,Op.wanted,if_true]at h;split at h
   ·rename_i v2 h9 ho
    simp only[opEv]at ho;have hX2:X.ev (E q) (.t b')=(E q).at b':=rfl;rw[hX2]at ho;rcases addr_at hst D.dst h6 h4 h7 (by omega)with⟨cs,hc⟩|⟨key2,uid2,off2,o3,k1,k2⟩|hc
    ·rw[hc]at ho; cases ho
    ·rw[g1]at k1; cases k1
     rw[k2]at ho;simp only at ho;split at ho
     ·rename_i cq hgq
      unfold Heap.get at hgq;split at hgq
      ·rename_i u' c2 he2
       split at hgq
       ·rename_i hu2; subst hu2; exact⟨_,he2⟩
       ·cases hgq
      ·cases hgq
     ·cases ho
    ·rw[hc]at ho; cases ho
   ·cases h
  obtain⟨cq,hcq⟩:=hg;have same:(H j).ents[key]? =(H m).ents[key]?:=by
   rcases Nat.le_total j m with hle|hle
   ·have:=tame_same hst Cm.toTame (t0:=0) (t:=j) (by omega) hu hcq (vD _) (m - j) (by omega) fun i x a b hx=> no_store D Vh hS hj hnj hrd Cm.toTame rfl hx (.inl ⟨a,by omega⟩)
    rwa[show j+(m - j)=m by omega]at this
   ·have:=tame_same hst Cm.toTame (t0:=0) (t:=m) (by omega) hu hcq (vD _) (j - m) (by omega) fun i x a b hx=> no_store D Vh hS hj hnj hrd Cm.toTame rfl hx (.inr ⟨a,by omega⟩)
    rw[show m+(j - m)=j by omega]at this;exact this.symm
  rw[g2]at hev ⊢;simp only[Heap.get]at hev ⊢;rw[←same];split at hev
  ·cases hev
  ·rename_i hb
   rw[if_neg hb];split at hev
   ·rename_i cs hcs
    split at hev
    ·rename_i w1 hw1
     obtain⟨rfl,_⟩:=qd hev;simp only[hcs,hw1]
    ·cases hev
   ·cases hev
 ·rw[hc]at hev; cases hev
theorem thr_step{o:O}{e:Env}{h h':Heap}{v:V}{g:Nat}{x:X}{l:List X}(ho:o= .callf (.thr []) g (x::l))(hev:opEv call o e h=some (v,h')):∃key uid cs,x.ev e= .ptr key uid 0∧h'=h.put key uid cs:=by
 subst ho;simp only[opEv,zY,vB]at hev;split at hev
 ·rename_i key uid rest hx
  obtain⟨e1,e2⟩:=List.cons.inj hx
  repeat' split at hev
  all_goals first
   |(cases hev; done)
   |(obtain⟨_,rfl⟩:=qd hev; exact⟨key,uid,_,e1,rfl⟩)
 ·cases hev
include hst in
theorem clk_mono(hl:∀ (i:Nat) y,al[i]? =some y→y.op.quiet=false→(y.op.isAppend=true∨y.op.isStore=true)∨∃g x l,y.op= .callf (.thr []) g (x::l)){i k:Nat}(hik:i≤k)(hk:k≤al.length):(H i).clk≤(H k).clk:=by
 obtain⟨n,rfl⟩:=Nat.le.dest hik;clear hik;induction n with
 |zero=> exact wE _
 |succ n ih=>
  refine vM (ih (by omega)) ?_;have hx:al[i+n]? =some al[i+n]:=gB (by omega);obtain⟨v,_,h⟩:=zV (hst _ _ hx);rcases h with⟨_,h⟩|⟨_,h,_⟩
  ·cases hq:al[i+n].op.quiet with
   |true=> exact(tame_step (.inl hq) h).1
   |false=>
    rcases hl _ _ hx hq with h2|⟨g,x,l,h2⟩
    ·exact(tame_step (.inr h2) h).1
    ·obtain⟨key,uid,cs,_,h3⟩:=thr_step h2 h
     rw[show i+(n+1)=i+n+1 from rfl,h3]; exact wE _
  ·rw[show i+(n+1)=i+n+1 from rfl,h]; exact wE _
theorem take_noSl:∀ (f s:Nat) (ss:List Nat) (r:V) (h h':Heap) (t:V),take f (s::ss) r h=some (t,h')→(∀key uid off len sz,t≠ .sl key uid off len sz)∧∀v,t= .iptr [v]→∀key uid off len sz,v≠ .sl key uid off len sz:=by
 intro f s ss r h h' t ht;cases f with
 |zero=> simp[take]at ht
 |succ f=>
  cases r <;> simp only[take]at ht
  all_goals (repeat' split at ht)
  all_goals first
   |(cases ht; done)
   |(obtain⟨rfl,_⟩:=qd ht
     refine⟨?_,?_⟩
     ·intro _ _ _ _ _ e; cases e
     ·intro v e
      first
       |(cases e; done)
       |(cases e; intro _ _ _ _ _ e2; cases e2))
theorem thaw_newSl{f s:Nat}{ss:List Nat}{t v:V}{h h':Heap}(hn:(∀key uid off len sz,t≠ .sl key uid off len sz)∧∀v,t= .iptr [v]→∀key uid off len sz,v≠ .sl key uid off len sz)(ht:thaw f (s::ss) t h=some (v,h')){key uid off len sz:Nat}(hv:v= .sl key uid off len sz):h.clk≤uid:=by
 subst hv;cases f with
 |zero=> simp[thaw]at ht
 |succ f=>
  cases t with
  |isl xs=>
   simp only[thaw]at ht;split at ht
   ·rename_i ds h2 hm
    obtain⟨e,_⟩:=qd ht;cases e;have:∀ (f:Nat) (ss:List Nat) (xs:List V) (h) (ds:List V) (h2:Heap),mapS (thaw f ss) xs h=some (ds,h2)→h.clk≤h2.clk:=by
     intro f ss xs;induction xs with
     |nil=> intro h ds h2 hm; simp only[mapS]at hm; obtain⟨_,rfl⟩:=qd hm; exact wE _
     |cons x xs ih=>
      intro h ds h2 hm;simp only[mapS]at hm;split at hm
      ·rename_i y s1 hy
       split at hm
       ·rename_i ys s2 hys
        obtain⟨_,rfl⟩:=qd hm;exact vM (thaw_more _ _ _ _ _ _ hy).clk (ih _ _ _ hys)
       ·cases hm
      ·cases hm
    exact this _ _ _ _ _ _ hm
   ·cases ht
  |iptr vs=>
   simp only[thaw]at ht;split at ht
   ·rename_i v
    obtain⟨rfl,_⟩:=qd ht;exact absurd rfl (hn.2 _ rfl _ _ _ _ _)
   ·cases ht
  |agg cs=> simp only[thaw]at ht; split at ht <;> first|(obtain⟨e,_⟩:=qd ht; cases e; done)|(cases ht; done)
  |tup cs=> simp only[thaw]at ht; split at ht <;> first|(obtain⟨e,_⟩:=qd ht; cases e; done)|(cases ht; done)
  |sl=> exact absurd rfl (hn.1 _ _ _ _ _)
  |_=> simp only[thaw]at ht; obtain⟨e,_⟩:=qd ht; cases e
theorem pure_newSl{s:Nat}{ss:List Nat}{g:Nat}{args:List V}{h h':Heap}{v:V}(hev:zY call (.pure (s::ss)) g args h=some (v,h')){key uid off len sz:Nat}(hv:v= .sl key uid off len sz):h.clk≤uid:=by
 simp only[zY]at hev;split at hev
 ·cases hev
 ·split at hev
  ·cases hev
  ·split at hev
   ·rename_i t _ ht
    split at hev
    ·exact thaw_newSl (take_noSl _ _ _ _ _ _ _ ht) hev hv
    ·cases hev
   ·cases hev
include hst in
theorem far_keep(hd:∀ (i j:Nat) (x y:Op) (d:Nat),al[i]? =some x→al[j]? =some y→i≠j→x.dst=some d→y.dst≠some d)(hl:∀ (i:Nat) y,al[i]? =some y→y.op.quiet=false→(y.op.isAppend=true∨y.op.isStore=true)∨∃g x l,y.op= .callf (.thr []) g (x::l)){i k u:Nat}(hF:Far al i)(hu:u < (H 0).clk)(cs:List V):(H i).ents[k]? =some (u,some cs)↔(H (i+1)).ents[k]? =some (u,some cs):=by
 obtain⟨t,b,c,s,ss,g,l,hci,hc,ha⟩:=hF;have hil:i < al.length:=by
  rcases ha with⟨z,y,x,h⟩|⟨z,y,q,x,h⟩<;> exact(gA h)
 have h0c:=clk_mono hst hl (vD c) (by omega);have h0i:=clk_mono hst hl (vD i) (by omega)
 -- the value appended to
 have eb:(E i).at b=(E (c+1)).at b:=by
  have:=E_at (t:=b) hst (i - (c+1)) (c+1) (by omega) fun q y _ _ hq=> hd c q _ y b hc hq (by omega) rfl
  rwa[show c+1+(i - (c+1))=i by omega]at this
 have new:∀key uid off len sz,(E i).at b= .sl key uid off len sz→(H 0).clk≤uid:=fun key uid off len sz hb=> by
  have h:=hst c _ hc;simp only[Op.ev,Op.wanted,if_true]at h;split at h
  ·rename_i v h2 ho
   obtain⟨hE,_⟩:=qd h;simp only[opEv]at ho;rw[eb,hE,jh]at hb;split at hb
   ·exact vM h0c (pure_newSl ho hb)
   ·rename_i hn
    have hge:¬b < (E c).length:=fun h=> hn ⟨rfl,h⟩;simp only[Env.at,gD]at hb;rw[gF (by omega)]at hb;cases hb
  ·cases h
 have key:∀ {sz bb n ds v h'},za sz bb ((E i).at b) n ds (H i)=some (v,h')→((H i).ents[k]? =some (u,some cs)↔h'.ents[k]? =some (u,some cs)):=fun {sz bb n ds v h'} hev=> by
  refine⟨fun hk=>?_,(jx hev).2 k u cs (by omega)⟩;unfold za at hev;split at hev
  ·split at hev
   ·obtain⟨_,rfl⟩:=qd hev; exact hk
   ·obtain⟨_,rfl⟩:=qd hev; exact hk
   ·cases hev
  ·split at hev
   ·split at hev
    ·obtain⟨_,rfl⟩:=qd hev
     exact(More.push _ _).get hk
    ·cases hev
   ·rename_i key uid off len s hx
    have hge:=new _ _ _ _ _ hx;split at hev
    ·rename_i cs0 hg
     split at hev
     ·obtain⟨_,rfl⟩:=qd hev
      have hkk:k≠key:=by
       rintro rfl;simp only[Heap.get,hk]at hg;split at hg
       ·omega
       ·cases hg
      simp only[Heap.renew];rw[gL (yK hkk)];exact hk
     ·cases hev
    ·cases hev
   ·cases hev
 rcases ha with⟨z,y,x,h⟩|⟨z,y,q,x,h⟩
 ·have h:=hst i _ h
  simp only[Op.ev,Op.wanted,if_true]at h;split at h
  ·rename_i v h2 ho
   obtain⟨_,hH⟩:=qd h;rw[hH];simp only[opEv]at ho;split at ho
   ·exact key ho
   ·cases ho
  ·cases h
 ·have h:=hst i _ h
  simp only[Op.ev,Op.wanted,if_true]at h;split at h
  ·rename_i v h2 ho
   obtain⟨_,hH⟩:=qd h;rw[hH];simp only[opEv]at ho;split at ho
   ·split at ho
    ·exact key ho
    ·cases ho
   ·cases ho
  ·cases h
theorem calm_val2(D:Drawn al af pre p C L)(hst:∀i o,al[i]? =some o→o.ev call (E i) (H i)=some (E (i+1),H (i+1)))(Vh:Inv p C tbl al E H ι0 I0 w0 a0 S a w ι I m e)(hS:∀j,S j→∀k∈af.getD j [],S k)(hj:al[j]? =some o)(hnj:¬S j)(hrd:∀k∈af.getD j [],S k)(hP0:∀s k u o,(E 0).at s=V.ptr k u o→u < (H 0).clk)(Cm:Calm2At al pre j){v:V}(hev:opEv call o.op (E j) (H j)=some (v,H (j+1))):
  opEv call o.op (E j) (H m)=some (v,H m):=by
 obtain⟨d,md,n,b,s,h1,h2,h3,loud⟩:=Cm.ex;rw[hj]at h1; cases h1;have hjl:=gA hj;have hml:=Vh.mle;have hl:∀ (i:Nat) y,al[i]? =some y→y.op.quiet=false→(y.op.isAppend=true∨y.op.isStore=true)∨∃g x l,y.op= .callf (.thr []) g (x::l):=fun i y hi hq=> by
  rcases loud i y hi hq with h|⟨s,t,f,g,l,d',_,h,_⟩|⟨s,n,x,_,h,_⟩
  ·exact .inl h.1
  ·rw[hi]at h; cases h
   exact .inr ⟨g,.t t,l,rfl⟩
  ·rw[hi]at h; cases h
   exact .inl (.inr rfl)
 simp only[opEv]at hev ⊢;have hX:X.ev (E j) (.t b)=(E j).at b:=rfl;rw[hX]at hev ⊢;have hadr:(∃cs,(E j).at b= .iptr cs)∨(∃key uid o',uid < (H 0).clk∧(E j).at b= .ptr key uid o')∨((∀cs,(E j).at b≠ .iptr cs)∧∀key uid o',(E j).at b≠ .ptr key uid o'):=by
  rcases h2 with rfl|⟨f,o1,hf,hfj⟩
  ·have e0:(E j).at b=(E 0).at b:=by
    have:=E_at (t:=b) hst j 0 (by omega) fun i y _ _ hi=> h3 i y hi
    rwa[wV]at this
   rw[e0];cases hv:(E 0).at b with
   |iptr cs=> exact .inl ⟨cs,rfl⟩
   |ptr k u o=> exact .inr (.inl ⟨k,u,o,hP0 _ _ _ _ hv,rfl⟩)
   |_=> exact .inr (.inr ⟨fun _ h=>(by cases h),fun _ _ _ h=>(by cases h)⟩)
  ·rcases addr_at hst D.dst hf h3 hfj (by omega)with h|⟨key,uid,off,o2,g1,g2⟩|h
   ·exact .inl h
   ·exact .inr (.inl ⟨key,uid,o2,hP0 _ _ _ _ g1,g2⟩)
   ·exact .inr (.inr ⟨fun _ h'=>(by rw[h]at h'; cases h'),fun _ _ _ h'=>(by rw[h]at h'; cases h')⟩)
 rcases hadr with⟨cs,hc⟩|⟨key,uid,o2,hu,g2⟩|⟨n1,n2⟩
 ·rw[hc]at hev ⊢
  simp only at hev ⊢;split at hev
  ·obtain⟨rfl,_⟩:=qd hev; rfl
  ·cases hev
 ·-- the row is not one that is handed through
  have hbar:md.bars (E j) key=false:=by
   rw[g2]at hev;simp only at hev;split at hev
   ·cases hev
   ·rename_i hb; simpa using hb
  -- every operation between leaves the row
  have step:∀ (i:Nat) (cs:List V),i < al.length→((j≤i∧i < m)∨(m≤i∧i < j))→((H i).ents[key]? =some (uid,some cs)↔(H (i+1)).ents[key]? =some (uid,some cs)):=fun i cs hil hb=> by
   have hx:al[i]? =some al[i]:=gB hil;have h0i:=clk_mono hst hl (vD i) (by omega);obtain⟨v',_,h⟩:=zV (hst _ _ hx);rcases h with⟨_,h⟩|⟨_,h,_⟩
   ·cases hq:al[i].op.quiet with
    |true=>
     have M:=jL hq h;refine⟨fun h=> M.get h,fun h=>?_⟩;rcases M.split h with h5|⟨h5,_⟩
     ·exact h5
     ·simp only at h5; omega
    |false=>
     rcases loud i _ hx hq with⟨_,h4|h4|h4⟩|h5|h5
     ·exfalso
      have hlt:=D.pre_lt i j hjl h4;have hSi:=pre_in D hS hj hrd h4;rcases hb with⟨b1,b2⟩|⟨b1,b2⟩
      ·omega
      ·have hp:i≠p:=by
        rintro rfl;obtain⟨d,cs,h3,_⟩:=D.lone _ hx;rw[h3]at hq;simp[O.quiet]at hq
       exact Vh.after i _ b1 hp hx (zo hq) (loud_nC D hx hq) hSi
     ·exfalso
      have hlt:=D.pre_lt j i hil h4;rcases hb with⟨b1,b2⟩|⟨b1,b2⟩
      ·exact hnj (pre_of D hS hil (Vh.before i _ b2 hx hq) h4)
      ·omega
     ·exact far_keep hst D.dst hl h4 hu cs
     ·obtain⟨s',t,f,g,l,d',rfl,k1,k2,k3,k4⟩:=h5
      rw[hx]at k1;have k1':=congrArg Op.op (wA k1);obtain⟨key',uid',cs',k5,k6⟩:=thr_step k1' h;have e1:∀q,q≤al.length→(E q).at s'=(E 0).at s':=fun q hq'=> by
       have:=E_at (t:=s') hst q 0 (by omega) fun i y _ _ hi=> k4 i y hi
       rwa[wV]at this
      have hfl:=gA k2;have e2:(E i).at t=(E (f+1)).at t:=by
       have:=E_at (t:=t) hst (i - (f+1)) (f+1) (by omega) fun q y _ _ hq'=> D.dst f q _ y t k2 hq' (by omega) rfl
       rwa[show f+1+(i - (f+1))=i by omega]at this
      have k7:=hst f _ k2;simp only[Op.ev,Op.wanted,if_true,opEv,X.ev]at k7;have k8:(E (f+1)).at t=(E 0).at s'∨(E (f+1)).at t=V.undef:=by
       obtain⟨q1,_⟩:=qd k7;rw[q1,jh];split
       ·exact .inl (e1 f (by omega))
       ·rename_i hn
        have hge:¬t < (E f).length:=fun h=> hn ⟨rfl,h⟩;right;simp only[Env.at,gD];rw[gF (by omega)]; rfl
      have k9:(E 0).at s'= .ptr key' uid' 0:=by
       have k5':(E i).at t= .ptr key' uid' 0:=k5;rw[e2]at k5';rcases k8 with k8|k8
       ·rw[←k8]; exact k5'
       ·rw[k8]at k5'; cases k5'
      have hne:key'≠key:=by
       simp only[Ld.bars,e1 j (by omega),k9]at hbar;intro h;rw[h]at hbar;simp at hbar
      rw[k6];simp only[Heap.put];rw[gL hne]
     ·obtain⟨s',n',x',rfl,k1,k4⟩:=h5
      rw[hx]at k1;have k1':=congrArg Op.op (wA k1);rw[k1']at h;have e1:∀q,q≤al.length→(E q).at s'=(E 0).at s':=fun q hq'=> by
       have:=E_at (t:=s') hst q 0 (by omega) fun i y _ _ hi=> k4 i y hi
       rwa[wV]at this
      simp only[opEv]at h;rw[show X.ev (E i) (.t s')=(E i).at s' from rfl]at h;split at h
      ·rename_i key' uid' off' hk
       split at h
       ·split at h
        ·obtain⟨_,k6⟩:=qd h
         rw[e1 i (by omega)]at hk;have hne:key'≠key:=by
          simp only[Ld.bars,e1 j (by omega),hk]at hbar;intro h;rw[h]at hbar;simp at hbar
         rw[k6];simp only[Heap.put];rw[gL hne]
        ·cases h
       ·cases h
      ·cases h
   ·rw[h]
  have walk:∀ (n i:Nat) (cs:List V),i+n≤al.length→(∀q,i≤q→q < i+n→(j≤q∧q < m)∨(m≤q∧q < j))→((H i).ents[key]? =some (uid,some cs)↔(H (i+n)).ents[key]? =some (uid,some cs)):=by
   intro n;induction n with
   |zero=> intro i cs _ _; exact yA
   |succ n ih=>
    intro i cs hn hq;exact(ih i cs (by omega) fun q a b=> hq q a (by omega)).trans (step (i+n) cs (by omega) (hq _ (by omega) (by omega)))
  have same:∀cs,(H j).ents[key]? =some (uid,some cs)↔(H m).ents[key]? =some (uid,some cs):=fun cs=> by
   rcases Nat.le_total j m with hle|hle
   ·have:=walk (m - j) j cs (by omega) fun q a b=> .inl ⟨a,by omega⟩
    rwa[show j+(m - j)=m by omega]at this
   ·have:=walk (j - m) m cs (by omega) fun q a b=> .inr ⟨a,by omega⟩
    rw[show m+(j - m)=j by omega]at this;exact this.symm
  rw[g2]at hev ⊢;simp only at hev ⊢;split at hev
  ·cases hev
  ·rename_i hb
   rw[if_neg hb];split at hev
   ·rename_i cs hcs
    have hg:(H m).get key uid=some cs:=by
     unfold Heap.get at hcs ⊢;split at hcs
     ·rename_i u' c2 he2
      split at hcs
      ·rename_i hu2
       subst hu2;cases hcs;rw[(same cs).1 he2];simp
      ·cases hcs
     ·cases hcs
    rw[hg];split at hev
    ·rename_i w1 hw1
     obtain⟨rfl,_⟩:=qd hev;simp only[hw1]
    ·cases hev
   ·cases hev
 ·exfalso
  cases hv:(E j).at b with
  |iptr cs=> exact n1 cs hv
  |ptr k u o=> exact n2 k u o hv
  |_=> rw[hv]at hev; cases hev
theorem calm_val(D:Drawn al af pre p C L)(hst:∀i o,al[i]? =some o→o.ev call (E i) (H i)=some (E (i+1),H (i+1)))(Vh:Inv p C tbl al E H ι0 I0 w0 a0 S a w ι I m e)(hS:∀j,S j→∀k∈af.getD j [],S k)(hj:al[j]? =some o)(hnj:¬S j)(hrd:∀k∈af.getD j [],S k)(hP0:∀s k u o,(E 0).at s=V.ptr k u o→u < (H 0).clk)(hC:C j){v:V}(hev:opEv call o.op (E j) (H j)=some (v,H (j+1))):
  opEv call o.op (E j) (H m)=some (v,H m):=by
 rcases D.calm j hC with Cm|Cm
 ·exact calm_val1 D hst Vh hS hj hnj hrd hP0 Cm hev
 ·exact calm_val2 D hst Vh hS hj hnj hrd hP0 Cm hev
theorem late_ent(D:Drawn al af pre p C L)(hst:∀i o,al[i]? =some o→o.ev call (E i) (H i)=some (E (i+1),H (i+1)))(Vh:Inv p C tbl al E H ι0 I0 w0 a0 S a w ι I m e)(hS:∀j,S j→∀k∈af.getD j [],S k)(hj:al[j]? =some o)(hnj:¬S j)(hrd:∀k∈af.getD j [],S k)(hL:L j)(hjm:j < m):
  ∃d sz n z ps cs,o=⟨some d,.buildSlice sz n z ps,none⟩∧0 < n∧jX (E j) ps z=some cs∧E (j+1)=(E j).put (some d) (.sl (H j).ents.length (H j).clk 0 n sz)∧H (j+1)=(H j).push cs∧(H m).ents[(H j).ents.length]? =some ((H j).clk,some cs):=by
 have T:=D.late j hL;obtain⟨d,sz,n,z,ps,q,t,s,b,x,h1,h2,h3,h4⟩:=T.ex;rw[hj]at h1; cases h1;have hjl:=gA hj;have hql:=gA h3;have hmq:=q_le D Vh hS hnj h3 rfl h4;have hjq:=D.pre_lt j q hql h4;have hev:=hst j _ hj;simp only[Op.ev,Op.wanted,if_true,opEv]at hev;cases hf:jX (E j) ps z with
 |none=> rw[hf]at hev; cases hev
 |some cs=>
  rw[hf]at hev;simp only at hev;obtain⟨hE,hH⟩:=qd hev;refine⟨d,sz,n,z,ps,cs,rfl,h2,hf,hE,hH,?_⟩;have hg:∃cq,(H q).ents[(H j).ents.length]? =some ((H j).clk,some cq):=by
   have h:=hst q _ h3;simp only[Op.ev,Op.wanted,if_true]at h;split at h
   ·rename_i v2 h9 ho
    simp only[opEv]at ho;have hX2:X.ev (E q) (.t d)=(E (j+1)).at d:=by
     show(E q).at d=_;have:=E_at (t:=d) hst (q - (j+1)) (j+1) (by omega) fun i y k1 _ hi=> D.dst j i _ y d hj hi (by omega) rfl
     rwa[show j+1+(q - (j+1))=q by omega]at this
    rw[hX2,hE,jh]at ho;by_cases hd:d < (E j).length
    ·rw[if_pos ⟨rfl,hd⟩]at ho
     simp only[srcV]at ho;cases hgq:(H q).get (H j).ents.length (H j).clk with
     |none=> rw[hgq]at ho; cases ho
     |some cq=>
      unfold Heap.get at hgq;split at hgq
      ·rename_i u' c2 he2
       split at hgq
       ·rename_i hu2; subst hu2; exact⟨_,he2⟩
       ·cases hgq
      ·cases hgq
    ·rw[if_neg (fun h=> hd h.2)]at ho
     have:(E j).at d=V.undef:=by
      simp only[Env.at,gD];rw[gF (by omega)]; rfl
     rw[this]at ho;cases ho
   ·cases h
  obtain⟨cq,hcq⟩:=hg;have hclk:(H j).clk < (H (j+1)).clk:=by rw[hH]; simp[Heap.push]
  have:=tame_same hst T.toTame (t0:=j+1) (t:=j+1) (by omega) hclk hcq (wE _) (m - (j+1)) (by omega) fun i y k1 k2 hx=> no_store D Vh hS hj hnj hrd T.toTame rfl hx (.inl ⟨by omega,by omega⟩);rw[show j+1+(m - (j+1))=m by omega]at this;rw[←this,hH];simp[Heap.push]
theorem Pend.more{cs:List V}{d:Nat}{w0 w:World}{e:Env}{a:Act}{ι:Iota}{I:Imm}{h h':Heap}{l:Loc}(q:Pend tbl cs d w0 e a w ι I h l)(M:More h h')(hf:zM ι h):Pend tbl cs d w0 e a w ι I h' l:=
 ⟨q.tmp,q.lies,fun i ho=> q.own i (more_owned M hf ho),q.imm,q.ge⟩
include D hst Vh hS hj hnj hrd in
theorem inv_loud(hP0:∀s k u o,(E 0).at s=V.ptr k u o→u < (H 0).clk)(hq:o.op.quiet=false){κ:Iota}{J:Imm}{w':World}{v:V}{a':Act}(hv:E (j+1)=(E j).put o.dst v)(q:Post tbl ι0 I0 (H 0) w0 κ J (H (j+1)) w')(hfr:zM κ (H (j+1)))
  (henv:RVe tbl κ J (e.put o.dst v) a'.tmps) (hdf:a'.defers=a0.defers) (hpe:S p→m≤p→∀d cs g,al[p]? =some ⟨some d,.alloc cs,g⟩→∃l,Pend tbl cs d w0 (e.put o.dst v) a' w' κ J (H (j+1)) l) (hio:∀k u,u < (H j).clk→κ k u=ι k u):
  ∃m' κ' e',Inv p C tbl al E H ι0 I0 w0 a0 (with_ S j) a' w' κ' J m' e':=by
 have hjl:=gA hj;have hjm:=loud_m D Vh hS hj hnj hrd hq;have hall:∀ (i:Nat) (x:Op),i < j→al[i]? =some x→x.op.free=false→S i∨p=al.length:=fun i x hlt hi hf=> by
  by_cases hp:pre i j
  ·exact .inl (pre_in D hS hj hrd hp)
  ·rcases(D.w i j x o hlt hi hj hp).2 hq with this|this|this
   ·rw[hf]at this; cases this
   ·exact .inr this.2
   ·exact .inr (D.alone i this)
 obtain⟨m',h1,h2,h3,h4⟩:=next_loud (al:=al) (j+1) (by omega);have M:∀k,j+1≤k→k≤m'→More (H (j+1)) (H k):=fun k hk1 hk2=> H_more' hst hk1 (by omega) fun i x a b c=> h4 i x a (by omega) c;obtain⟨l1,l2,l3⟩:=env_next D hst Vh hj hv none;have hhole:∀i,i < m'→¬with_ S j i→∀k u,(H i).clk≤u→u < (H (i+1)).clk→κ k u=none∧(j < i∨p=al.length):=fun i hi hn k u hk1 hk2=> by
  have hil:i < al.length:=by omega
  have hx:al[i]? =some al[i]:=gB hil;rcases yJ i j with hij|hij|hij
  ·cases hf:al[i].op.free with
   |true=> rw[free_H hst hx hf]at hk2; omega
   |false=>
    have hnS:¬S i:=fun h=> hn (.inl h);have him:i < m:=by omega
    have:¬C i→(H (i+1)).clk≤(H j).clk:=fun hC=> by
     by_cases hL:L i
     ·exact jO hst (D.late i hL).toTame (by omega) (by omega)
     ·exact moreC D hst Vh hS hP0 hx him hf hC hL hnS (k:=j) (by omega) (by omega)
    have hC:¬C i:=fun hC=> by rw[calm_H D hst hC]at hk2; omega
    have:=this hC;rw[hio k u (by omega)];exact⟨Vh.hole i him hnS k u hk1 hk2,.inr ((hall i _ hij hx hf).resolve_left hnS)⟩
  ·exact absurd (.inr hij) hn
  ·have:=(M i (by omega) (by omega)).clk
   exact⟨hfr k u (by omega),.inl hij⟩
 have hbefore:∀ (i:Nat) (x:Op),i < m'→al[i]? =some x→x.op.quiet=false→with_ S j i:=fun i x hi hx hxq=> by
  rcases yJ i j with hij|hij|hij
  ·exact .inl (Vh.before i x (by omega) hx hxq)
  ·exact .inr hij
  ·rw[h4 i x (by omega) hi hx]at hxq; cases hxq
 have hafter:∀ (i:Nat) (x:Op),m'≤i→i≠p→al[i]? =some x→x.op.free=false→¬C i→¬with_ S j i:=fun i x hi hip hx hxf hxC hs=> by
  rcases hs with hs|hs
  ·exact Vh.after i x (by omega) hip hx hxf hxC hs
  ·omega
 have hclk:∀ (i:Nat) (x:Op),i < m'→al[i]? =some x→x.op.free=false→¬with_ S j i→(H 0).clk≤(H i).clk:=fun i x hi hx hxf hn=> by
  rcases yJ i j with hij|hij|hij
  ·exact Vh.clk i x (by omega) hx hxf fun h=> hn (.inl h)
  ·exact absurd (.inr hij) hn
  ·have:=(M i (by omega) (by omega)).clk
   have:=q.clk;omega
 have hm':=M m' h1 (wE _);have hjp:∀x,al[p]? =some x→j≠p:=fun x hx e=> by
  subst e;obtain⟨d,cs,h1,_⟩:=D.lone _ hj;rw[h1]at hq;simp[O.quiet]at hq
 generalize hee:e.put o.dst v=ee at henv hpe l1 l2 l3;by_cases hp:S p∧m≤p∧p < m'
 ·obtain⟨hSp,hmp,hpm⟩:=hp
  have hpl:p < al.length:=by omega
  have hx:al[p]? =some al[p]:=gB hpl;obtain⟨d,cs,ho,hcs,hpl'⟩:=D.lone _ hx;rw[ho]at hx;obtain⟨l,pd⟩:=hpe hSp hmp d cs none hx;have hjlt:j < p:=by have:=hjp _ hx; omega
  -- the row of the text's order
  have hev:=hst p _ hx;simp only[Op.ev,Op.wanted,opEv,if_true,Heap.push]at hev;obtain⟨hE,hH⟩:=qd hev;have M1:=M p (by omega) (by omega);have M2:More (H (p+1)) (H m'):=H_more' hst (by omega) h2 fun i x a b c=> h4 i x (by omega) b c;have hHp:(H (p+1)).clk=(H p).clk+1:=by rw[hH]
  have hent:(H m').ents[(H p).ents.length]? =some ((H p).clk,some cs):=M2.get (by rw[hH]; simp);have hc1:=M1.clk;have hc2:=M2.clk;have hc3:=q.clk;have q':=q.more hm' hfr;have pd':=pd.more hm' hfr;obtain⟨hle,q2⟩:=q'.adopt pd'.own pd'.imm (pd'.lies.mono (fun _ _ _ x=> by cases x) (fun _ _ _ x=> by cases x) rfl) pd'.ge (hfr (H p).ents.length (H p).clk hc1) (by omega) (by omega) hent;refine⟨m',_,ee.put (some d) (.ptr (H p).ents.length (H p).clk 0),⟨q2,fun i hi hn k u hk1 hk2=>?_,h2,h3,hbefore,hafter,by rw[xm]; exact l1,fun i x d' hi hs hpn hd=>?_,fun d' hd=>?_,hclk,?_,hdf,fun _ hh=> by omega⟩⟩
  ·obtain⟨g1,g2⟩:=hhole i hi hn k u hk1 hk2
   have g2:j < i:=g2.resolve_right (by omega);have hip:i≠p:=fun e=> hn (.inl (e▸hSp));rw[if_neg (fun e=>?_)]
   ·exact g1
   ·rcases Nat.lt_or_gt_of_ne hip with h5|h5
    ·have:=(H_more' hst (i:=i+1) (j:=p) (by omega) (by omega) fun k x a b c=> h4 k x (by omega) (by omega) c).clk
     omega
    ·have:=(H_more' hst (i:=p+1) (j:=i) (by omega) (by omega) fun k x a b c=> h4 k x (by omega) (by omega) c).clk
     omega
  ·by_cases hip:i=p
   ·subst hip
    rw[hx]at hi; cases hi;cases hd;have hl:List.length (E i)=List.length ee:=by rw[E_len hst i (by omega),←l1]
    rw[jh,hE,jh,hl];split
    ·rfl
    ·rename_i hn
     have hge:¬d < List.length ee:=fun h=> hn ⟨rfl,h⟩;simp only[Env.at,gD];rw[gF (by omega),gF (by omega)]
   ·rw[jh,if_neg (fun h=> D.dst p i _ x d hx hi (yK hip) rfl (by rw[hd]; exact h.1.symm))]
    exact l2 i x d' hi hs (fun h=> hip h.1) hd
  ·rw[jh,if_neg (fun h=> hd p _ hx (.inl hSp) h.1)]
   exact l3 d' hd
  ·-- the pointer
   have he2:=henv.mono fun _ _ x=> x.mono hle (Imm.le_refl _);refine⟨by rw[xm]; exact he2.len,fun i x y hx' hy=>?_⟩;simp only[Env.put,gK]at hx';split at hx'
   ·rename_i hdi
    subst hdi;split at hx'
    ·rename_i hdl
     cases hx';have ht:=pd.tmp hdl;rw[←gJ,hy]at ht;cases ht;exact RV.ptr _ _ 0 l (by simp)
    ·cases hx'
   ·exact he2.at_ i x y hx' hy
 ·refine⟨m',κ,_,⟨q.more hm' hfr,fun i hi hn k u hk1 hk2=>(hhole i hi hn k u hk1 hk2).1,h2,h3,hbefore,hafter,l1,fun i x d hi hs hpn hd=>?_,l3,hclk,henv,hdf,fun hSp hmp d cs g hx=>?_⟩⟩
  ·refine l2 i x d hi hs (fun h=>?_) hd
   obtain⟨rfl,hmi⟩:=h;rcases hs with hs|hs
   ·exact hp ⟨hs,hmi,by omega⟩
   ·exact hjp x hi hs.symm
  ·rcases hSp with hSp|hSp
   ·obtain⟨l,pd⟩:=hpe hSp (by omega) d cs g hx
    exact⟨l,pd.more hm' hfr⟩
   ·exact absurd hSp.symm (hjp _ hx)
theorem Pend.step{cs:List V}{d:Nat}{w0 w w':World}{e:Env}{a:Act}{ι κ:Iota}{I J:Imm}{h h':Heap}{l:Loc}(q:Pend tbl cs d w0 e a w ι I h l)(dst:Option Nat)(v:V)(c:Value)(hd:dst≠some d)
  (hb:w'.heap[l.b]? =w.heap[l.b]?) (ho:∀i,zb κ h' l.b i→zb ι h l.b i) (hi:∀i v,J l.b i=some v→I l.b i=some v):Pend tbl cs d w0 (e.put dst v) (a.put dst c) w' κ J h' l:=by
 refine⟨fun hl=>?_,q.lies.mono (Iota.le_refl _) (Imm.le_refl _) hb,fun i x=> q.own i (ho i x),fun i v x=> q.imm i v (hi i v x),q.ge⟩;rw[xm]at hl;cases dst with
 |none=> exact q.tmp hl
 |some t=>
  simp only[Act.put];rw[Array.getElem?_setIfInBounds_ne (fun e=> hd (by rw[e]))];exact q.tmp hl
theorem pend_new{cs:List V}(hT:TblOK P tbl)(hcall:jD P tbl call){ι:Iota}{I:Imm}{h:Heap}{w w0:World}{a:Act}{e:Env}(hs:St tbl ι I h w)(hfr:zM ι h)(he:RVe tbl ι I e a.tmps)(hw:w0.heap.size≤w.heap.size){go:Oper}(hc:qx P tbl go=some (qR (.alloc cs)))
  (hcs:cs≠ []) (hpl:∀x∈cs,V.plainC x=true):Does P go a w fun c w'=>∃l,c= .pointer (some ⟨l.b,l.o,none⟩)∧Go.RowKit.Below w.heap.size w w'∧Lies tbl (fun _ _=> none) (fun _ _=> none) w' cs l∧(∀i,¬zb ι h l.b i)∧(∀i v,I l.b i≠some v)∧w0.heap.size≤l.b:=by
 have hs':St tbl ι I ⟨[],h.clk⟩ w:=⟨fun k u cs l x=> by simp at x,fun k u cs l k' u' cs' l' x=> by simp at x,hs.imm,fun b o v _ ho=> by obtain⟨k,u,cs,l,x,_⟩:=ho; simp at x⟩;have hev:opEv call (.alloc cs) e ⟨[],h.clk⟩=some (.ptr 0 h.clk 0,(⟨[],h.clk⟩:Heap).push cs):=rfl;have hk:∀k,ι k h.clk=none:=fun k=> hfr k h.clk (wE _);refine(xt hT hcall hs' he hc rfl (fun k u h1 h2=> hfr k u h1) hev).mono fun c w' q=>?_;obtain⟨κ,J,q,r⟩:=q;cases r with
 |imm r=> cases r
 |ptr key uid off l hl=>
  have hent:(Heap.push ⟨[],h.clk⟩ cs).ents[0]? =some (h.clk,some cs):=rfl;have hL:=q.st.ent 0 h.clk cs l hent hl;have hL':Lies tbl (fun _ _=> none) (fun _ _=> none) w' cs l:=by
   obtain⟨he',c,elem,fr,h1,h2,h3,h4⟩:=hL;exact⟨he',c,elem,fr,h1,h2,h3,fun i x hx=> let ⟨v,a,b,o⟩:=h4 i x hx;⟨v,a,RV.plainC (hpl x (gE hx)) b,o⟩⟩
  have hb:w.heap.size≤l.b:=by
   rcases q.locs 0 h.clk l hl with h1|h1|h1
   ·rw[hk]at h1; cases h1
   ·exact h1
   ·have:=hL.ext
    have:0 < cs.length:=by cases cs with
     |nil=> exact absurd rfl hcs
     |cons=> simp
    omega
  refine⟨l,rfl,q.below,hL',fun i ho=>?_,fun i v hv=>?_,by omega⟩
  ·obtain⟨k,u,cs',l',x,y,r1,r2,r3⟩:=ho
   have:=(hs.ent k u cs' l' x y).size;omega
  ·have:=World.block_lt_of_cell? w _ (hs.imm _ _ _ hv)
   simp only at this;omega
theorem late_new(hT:TblOK P tbl){ι:Iota}{I:Imm}{h:Heap}{w:World}{a:Act}{e:Env}(hs:St tbl ι I h w)(he:RVe tbl ι I e a.tmps){go:Oper}{sz n:Nat}{z:List V}{ps:List (Nat×Nat×X)}{cs:List V}(hn:0 < n)(hc:qx P tbl go=some (qR (.buildSlice sz n z ps)))(hfl:jX e ps z=some cs):
  Does P go a w fun c w'=>∃l:Loc,(∀ (κ:Iota) (J:Imm) key uid,κ key uid=some l→RV tbl κ J (.sl key uid 0 n sz) c)∧Go.RowKit.Below w.heap.size w w'∧Lies tbl ι I w' cs l∧l.b=w.heap.size:=by
 obtain⟨dst,op,ty,pos,af,gd⟩:=go;simp only[qR]at hc;cases op with
 |buildSlice t m qs=>
  simp only[qx]at hc;split at hc
  ·rename_i el ht
   split at hc
   ·rename_i i z0 hi hz
    split at hc
    ·rename_i hcond
     split at hc
     ·rename_i l hm
      cases hc;obtain⟨hzl,h0,hle⟩:=hcond;obtain⟨j,zv,hj,hzv,h2,h3⟩:=zt hz;rw[hi]at hj;cases hj;have hzs:zv.cells.size=i.size:=by rw[←wJ,(h2 I).len,hzl]
      have hbase:((Array.range (n*i.size)).map fun q=> zv.cells[q% zv.cells.size]!).toList=(List.replicate n zv.cells.toList).flatten:=by
       have:=jp zv.cells (by omega) n;rw[←this,hzs]; simp
      obtain⟨arr,h4,h5,h6⟩:=fill_run (I:=I) he (fun q=> some (q*i.size,i.size)) qs.toList ps _ cs ((Array.range (n*i.size)).map fun q=> zv.cells[q% zv.cells.size]!) hm
       (by rw[hbase]; exact zL (h2 I).rv n) (by rw[hbase]; exact zR h3 n) hfl
      have hal:arr.size=n*i.size:=by
       have:arr.toList.length=cs.length:=h5.len;have h7:=xf hfl;rw[←wJ,this,h7];simp[hzl]
      refine .of_run (c:= .slice (some ⟨w.heap.size,0,none⟩) n n) (w':={w with heap:=w.heap.push (.cells arr el)}) ?_ ⟨⟨w.heap.size,0,arr.size⟩,fun κ J key uid hk=>?_,?_,⟨?_,arr,el,(0,0),by simp,by simp,fun i _=> by simp,fun i x hx=>?_⟩,rfl⟩
      ·have hne:¬n*i.size=0:=by
        have:=Nat.mul_pos hn h0;omega
       rw[←map_pair hs he]at h4;simp only[execOp,Go.Instr.buildSlice,wY,wF ht,wM,qE hi];rw[if_neg (by omega),if_neg hne];simp only[wY,vO,wM,zm hi hzv,h4,Go.newRow];rfl
      ·have:=RV.sl (tbl:=tbl) (ι:=κ) (I:=J) key uid 0 n i.size n ⟨w.heap.size,0,arr.size⟩ hk (by simp[hal]) (wE _) h0
       simpa using this
      ·exact below_push w _ w.drawn
      ·have:=h5.len
       simp only[wJ]at this;simp only; omega
      ·obtain⟨v,hv1,hv2⟩:=h5.get hx
       exact⟨v,by simpa using hv1,hv2,h6 v (gE hv1)⟩
     ·cases hc
    ·cases hc
   ·cases hc
  ·cases hc
 |call c=>
  obtain⟨callee,args,ats⟩:=c;cases callee with
  |invoke r n=> simp only[qx]at hc; cases hc
  |builtin b=> exfalso; cases b <;> simp only[qx]at hc <;>(repeat' split at hc)<;> cases hc
  |value f=> exfalso; cases f <;> simp only[qx]at hc <;>(repeat' split at hc)<;> cases hc
 |makeFunc f fst cap=> exfalso; cases f <;> simp only[qx]at hc <;>(repeat' split at hc)<;> cases hc
 |slice t x lo hi mx=> exfalso; cases mx <;> simp only[qx]at hc <;>(repeat' split at hc)<;> cases hc
 |_=> exfalso; simp only[qx]at hc;(repeat' split at hc)<;> cases hc
include D hst Vh hS hj hnj hrd hfr0 in
theorem any_step(hP0:∀s k u o,(E 0).at s=V.ptr k u o→u < (H 0).clk)(hT:TblOK P tbl)(hcall:jD P tbl call){ops:Array Oper}{go:Oper}{r:Nat}(hgo:ops[r]? =some go)(hc:compOp P tbl ops go=some (erOp o)){Q:Go.Exit→Act→World→Prop}{K:Act→World→Prop}
  (hK:∀a' w' ι' I' m' e',Inv p C tbl al E H ι0 I0 w0 a0 (with_ S j) a' w' ι' I' m' e'→K a' w'):wpOp P ops Q r K a w:=by
 have hjl:=gA hj;unfold wpOp;simp only[hgo];obtain⟨hd,hco,hg⟩:=compOp_inv hc;have same:=looks_same D hst Vh hS hj hnj hrd;have hwant:o.wanted e=o.wanted (E j):=by
  unfold Op.wanted;cases hgd:o.guard with
  |none=> rfl
  |some tw=>
   obtain⟨t,wv⟩:=tw;simp only;rw[same t (by simp[Op.looks,hgd])]
 obtain⟨v,hv,hcase⟩:=zV (hst j o hj);rw[wanted_eq Vh.env hg,hwant];have hfrm:=Vh.post.fresh hfr0;have keep_hole:∀i,i < m→¬with_ S j i→∀k u,(H i).clk≤u→u < (H (i+1)).clk→ι k u=none:=fun i hi hn=> Vh.hole i hi fun h=> hn (.inl h);obtain⟨l1,l2,l3⟩:=env_next D hst Vh hj hv none;have hdp:S p→∀d cs g,al[p]? =some ⟨some d,.alloc cs,g⟩→o.dst≠some d:=fun hSp d cs g hx=> by
  have hne:p≠j:=fun e=> hnj (e▸hSp);exact D.dst p j _ o d hx hj hne rfl
 have hpS:with_ S j p→S p∨p=j:=id;by_cases hpj:j=p∧m < p
 ·-- laid before its turn
  obtain⟨rfl,hmp⟩:=hpj;obtain⟨d,cs,ho,hcs,hpl⟩:=D.lone _ hj;subst ho;have hw:(⟨some d,.alloc cs,none⟩:Op).wanted (E j)=true:=rfl;rw[if_pos hw];left;rcases hco with hco|hco
  ·have hsz:w0.heap.size≤w.heap.size:=Vh.post.frm.size
   refine pend_new hT hcall Vh.post.st hfrm Vh.env hsz hco hcs hpl K Q ?_;rintro c w' ⟨l,rfl,hbel,hL,hown,himm,hge⟩;have henv:RVe tbl ι I (e.put (some d) (.iptr [])) (a.put go.dst (.pointer (some ⟨l.b,l.o,none⟩))).tmps:=by
    rw[hd];exact put_rv Vh.env (some d) (.imm (.iptr [] l.b l.o [] rfl (fun v hv=> by simp at hv) (fun i v hv=> by simp at hv) (fun i c v hc=> by simp at hc)))
   obtain⟨_,_,l3'⟩:=env_next D hst Vh hj (v:=v) hv none;refine hK _ w' ι I m (e.put (some d) (.iptr [])) ⟨Vh.post.below hbel,keep_hole,Vh.mle,Vh.mW,fun i x hi hx hxq=> .inl (Vh.before i x hi hx hxq),fun i x hi hip hx hxf hxC hs=>?_,by rw[xm]; exact Vh.len,fun i x d' hi hs hpn hdx=>?_,fun d' hd'=>?_,fun i x hi hx hxf hn=> Vh.clk i x hi hx hxf fun h=> hn (.inl h),henv,by rw[zD]; exact Vh.defers,fun _ _ d' cs' g hx=>?_⟩
   ·rcases hs with hs|hs
    ·exact Vh.after i x hi hip hx hxf hxC hs
    ·exact hip hs
   ·have hij:i≠j:=fun e=> hpn ⟨e,by omega⟩
    rw[jh,if_neg (fun h=> D.dst j i _ x d hj hi (yK hij) rfl (by rw[hdx]; exact h.1.symm))];exact Vh.done i x d' hi (hs.resolve_right hij) hpn hdx
   ·rw[jh,if_neg (fun h=> hd' j _ hj (.inr rfl) h.1)]
    exact Vh.undone d' fun i x hi hs=> hd' i x hi (.inl hs)
   ·rw[hj]at hx; cases hx
    refine⟨l,fun hdl=>?_,hL,hown,himm,hge⟩;rw[xm]at hdl;rw[hd];simp only[Act.put];rw[Array.getElem?_setIfInBounds_self_of_lt];have hlen:=Vh.env.len;simp only[wJ]at hlen;omega
  ·cases hco
 rcases hcase with⟨hw,hop⟩|⟨hw,hH,hvu⟩
 ·rw[if_pos hw]
  left;rcases hco with hco|hco
  ·have hev:opEv call o.op e (H j)=some (v,H (j+1)):=by
    rw[opEv_congr (e':=E j) fun t ht=> same t (by simp[Op.looks,ht])]; exact hop
   cases hf:o.op.free with
   |true=>
    have hev2:=(free_heap hf hev).2 (H m);refine xt hT hcall Vh.post.st Vh.env hco (free_quiet hf) (fun k u h1 h2=> by omega) hev2 K Q ?_;rintro c w' ⟨κ,J,q,r⟩;have hκ:∀k u,κ k u=ι k u:=fun k u=> q.iota k u (wS _ _);have p':=Vh.post.trans (q.post Vh.post.st fun k u h1 h2=> by omega);refine hK _ w' κ J m (e.put o.dst v) ⟨p',fun i hi hn k u h1 h2=> by rw[hκ]; exact keep_hole i hi hn k u h1 h2,Vh.mle,Vh.mW,fun i x hi hx hxq=> .inl (Vh.before i x hi hx hxq),fun i x hi hip hx hxf hxC hs=>?_,l1,l2,l3,fun i x hi hx hxf hn=> Vh.clk i x hi hx hxf fun h=> hn (.inl h),?_,by rw[zD]; exact Vh.defers,fun hSp hmp d cs g hx=>?_⟩
    ·rcases hs with hs|hs
     ·exact Vh.after i x hi hip hx hxf hxC hs
     ·subst hs; rw[hj]at hx; cases hx; rw[hf]at hxf; cases hxf
    ·rw[hd]
     exact put_rv (Vh.env.mono fun _ _ x=> x.mono (fun k u l hl=> by rw[hκ]; exact hl) q.imm) o.dst r
    ·have hSp':S p:=(hpS hSp).resolve_right fun e=> by subst e; rw[hj]at hx; cases hx; cases hf
     obtain⟨l,pd⟩:=Vh.pend hSp' hmp d cs g hx;have hsz:=pd.lies.size;rw[hd];refine⟨l,pd.step _ _ _ (hdp hSp' d cs g hx) (q.below.block _ hsz) (fun i ho=>?_) fun i v hv=>?_⟩
     ·exact ho.of_locs q.locs hsz
     ·rcases q.immnew _ _ _ hv with h1|h1
      ·exact h1
      ·omega
   |false=>
    by_cases hC:C j
    ·have hHj:=calm_H D hst hC
     have hev2:opEv call o.op e (H m)=some (v,H m):=by
      rw[opEv_congr (e':=E j) fun t ht=> same t (by simp[Op.looks,ht])];exact calm_val D hst Vh hS hj hnj hrd hP0 hC hop
     have hqt:o.op.quiet=true:=by
      cases hq:o.op.quiet with
      |true=> rfl
      |false=> exact absurd hC (loud_nC D hj hq)
     have hpl:=D.alone j (.inl hC);refine xt hT hcall Vh.post.st Vh.env hco hqt (fun k u h1 h2=> by omega) hev2 K Q ?_;rintro c w' ⟨κ,J,q,r⟩;have hκ:∀k u,κ k u=ι k u:=fun k u=> q.iota k u (wS _ _);have p':=Vh.post.trans (q.post Vh.post.st fun k u h1 h2=> by omega);refine hK _ w' κ J m (e.put o.dst v) ⟨p',fun i hi hn k u h1 h2=> by rw[hκ]; exact keep_hole i hi hn k u h1 h2,Vh.mle,Vh.mW,fun i x hi hx hxq=> .inl (Vh.before i x hi hx hxq),fun i x hi hip hx hxf hxC hs=>?_,l1,l2,l3,fun i x hi hx hxf hn=> Vh.clk i x hi hx hxf fun h=> hn (.inl h),?_,by rw[zD]; exact Vh.defers,fun hSp hmp d cs g hx=>?_⟩
     ·rcases hs with hs|hs
      ·exact Vh.after i x hi hip hx hxf hxC hs
      ·subst hs; exact hxC hC
     ·rw[hd]
      exact put_rv (Vh.env.mono fun _ _ x=> x.mono (fun k u l hl=> by rw[hκ]; exact hl) q.imm) o.dst r
     ·rw[gF (by omega)]at hx; cases hx
    obtain⟨hle,hlt,heq⟩:=(le_m D Vh hS hj hnj hrd hf hC).resolve_right hpj;by_cases hL:L j
    ·have hpl:=D.alone j (.inr hL)
     have T:=(D.late j hL).toTame;have hqt:o.op.quiet=true:=by
      obtain⟨d,sz,n,z,ps,q,t,s,b,x,h1,_⟩:=(D.late j hL).ex;rw[hj]at h1; cases h1; rfl
     have hjm:=hlt hqt;obtain⟨d,sz,n,z,ps,cs,ho,hn0,hfl,hEj,hHj,hent⟩:=late_ent D hst Vh hS hj hnj hrd hL hjm;subst ho;have hfe:jX e ps z=some cs:=by
      rw[xH (e':=E j) fun t ht=> same t (by simp[Op.looks,O.looks,ht])]; exact hfl
     refine late_new hT Vh.post.st Vh.env hn0 hco hfe K Q ?_;rintro c w' ⟨l,hval,hbel,hlies,hlb⟩;have hhole:=Vh.hole j hjm hnj;have hclk:(H (j+1)).clk=(H j).clk+1:=by rw[hHj]; rfl
     have hm1:=jO hst T (show j+1≤m by omega) Vh.mle;have hnone:ι (H j).ents.length (H j).clk=none:=hhole _ _ (wE _) (by omega);have hown:∀i,¬zb ι (H m) l.b i:=fun i ho=> by
      obtain⟨k,u,cs',l',x,y,r1,r2,r3⟩:=ho;have:=(Vh.post.st.ent k u cs' l' x y).size;omega
     have himm:∀i v,I l.b i≠some v:=fun i v hv=> by
      have:=World.block_lt_of_cell? w _ (Vh.post.st.imm _ _ _ hv);simp only at this;omega
     have hsz:=Vh.post.frm.size;have hc0:=Vh.clk j _ hjm hj hf hnj;obtain⟨hle2,p2⟩:=(Vh.post.below hbel).adopt hown himm hlies (by omega) hnone hc0 (by omega) hent;have hEv:v= .sl (H j).ents.length (H j).clk 0 n sz:=by
      simp only[opEv,hfl]at hop;exact(qd hop).1
     subst hEv;refine hK _ w' _ I m (e.put (some d) (.sl (H j).ents.length (H j).clk 0 n sz)) ⟨p2,fun i hi hn k u h1 h2=>?_,Vh.mle,Vh.mW,fun i x hi hx hxq=> .inl (Vh.before i x hi hx hxq),fun i x hi hip hx hxf hxC hs=>?_,l1,l2,l3,fun i x hi hx hxf hn=> Vh.clk i x hi hx hxf fun h=> hn (.inl h),?_,by rw[zD]; exact Vh.defers,fun hSp hmp d cs g hx=>?_⟩
     ·have hnS:¬S i:=fun h=> hn (.inl h)
      have hij:i≠j:=fun h=> hn (.inr h);have hml:=Vh.mle;rw[if_neg (fun e=>?_)]
      ·exact Vh.hole i hi hnS k u h1 h2
      ·rcases Nat.lt_or_gt_of_ne hij with h3|h3
       ·have:=jO hst T (show i+1≤j by omega) (by omega)
        omega
       ·have:=jO hst T (show j+1≤i by omega) (by omega)
        omega
     ·rcases hs with hs|hs
      ·exact Vh.after i x hi hip hx hxf hxC hs
      ·omega
     ·rw[hd]
      exact put_rv (Vh.env.mono fun _ _ x=> x.mono hle2 (Imm.le_refl _)) (some d) (hval _ _ _ _ (by simp))
     ·rw[gF (by omega)]at hx; cases hx
    cases hq:o.op.quiet with
    |true=>
     have hjm:=hlt hq;obtain⟨g0,g1,gc0,gc1,hev,M0,M⟩:=moreG D hst Vh hS hP0 hj hjm hf hC hL hnj hq hev;have hhole:∀k u,g0.clk≤u→u < g1.clk→ι k u=none:=fun k u h1 h2=> Vh.hole j hjm hnj k u (by omega) (by omega);refine xt hT hcall (Vh.post.st.less (M0.trans M)) Vh.env hco hq hhole hev K Q ?_;rintro c w' ⟨κ,J,q,r⟩;have p':=Vh.post.quiet q M (by rw[gc0]; exact Vh.clk j o hjm hj hf hnj) hhole;have hle':ι.le κ:=xx q.iota hhole;refine hK _ w' κ J m (e.put o.dst v) ⟨p',fun i hi hn k u h1 h2=>?_,Vh.mle,Vh.mW,fun i x hi hx hxq=> .inl (Vh.before i x hi hx hxq),fun i x hi hip hx hxf hxC hs=>?_,l1,l2,l3,fun i x hi hx hxf hn=> Vh.clk i x hi hx hxf fun h=> hn (.inl h),?_,by rw[zD]; exact Vh.defers,fun hSp hmp d cs g hx=>?_⟩
     ·have hnS:¬S i:=fun h=> hn (.inl h)
      have hij:i≠j:=fun h=> hn (.inr h);have hil:i < al.length:=by have:=Vh.mle; omega
      have hx:al[i]? =some al[i]:=gB hil;cases hxf:al[i].op.free with
      |true=> rw[free_H hst hx hxf]at h2; omega
      |false=>
       rcases wS i j with h3|h3
       ·have:(H (i+1)).clk≤(H j).clk:=by
         by_cases hCi:C i
         ·rw[calm_H D hst hCi]at h2; omega
         by_cases hLi:L i
         ·exact jO hst (D.late i hLi).toTame (by omega) (by have:=Vh.mle; omega)
         ·exact moreC D hst Vh hS hP0 hx hi hxf hCi hLi hnS (k:=j) (by omega) (by omega)
        rw[q.iota k u (.inl (by omega))];exact Vh.hole i hi hnS k u h1 h2
       ·have:=moreC D hst Vh hS hP0 hj hjm hf hC hL hnj (k:=i) (by omega) (by omega)
        rw[q.iota k u (.inr (by omega))];exact Vh.hole i hi hnS k u h1 h2
     ·rcases hs with hs|hs
      ·exact Vh.after i x hi hip hx hxf hxC hs
      ·omega
     ·rw[hd]
      exact put_rv (Vh.env.mono fun _ _ x=> x.mono hle' q.imm) o.dst r
     ·have hSp':S p:=(hpS hSp).resolve_right fun e=> by omega
      obtain⟨l,pd⟩:=Vh.pend hSp' hmp d cs g hx;have hsz:=pd.lies.size;rw[hd];refine⟨l,pd.step _ _ _ (hdp hSp' d cs g hx) (q.below.block _ hsz) (fun i ho=>?_) fun i v hv=>?_⟩
      ·exact ho.of_locs q.locs hsz
      ·rcases q.immnew _ _ _ hv with h1|h1
       ·exact h1
       ·omega
    |false=>
     have hjm:=heq hq;subst hjm;refine op_does hT hcall Vh.post.st hfrm Vh.env hco hev K Q ?_;rintro c w' ⟨κ,J,q,r⟩;obtain⟨m',κ',e',hI⟩:=inv_loud D hst Vh hS hj hnj hrd hP0 hq hv (Vh.post.trans q) (q.fresh hfrm) (a':=a.put go.dst c) (by rw[hd]; exact put_rv (Vh.env.mono fun _ _ x=> x.mono (q.le hfrm) q.imm) o.dst r) (by rw[zD]; exact Vh.defers) (fun hSp hmp d cs g hx=> by
      obtain⟨l,pd⟩:=Vh.pend hSp hmp d cs g hx;have hsz:=pd.lies.size;rw[hd];refine⟨l,pd.step _ _ _ (hdp hSp d cs g hx) (q.frm.block _ hsz pd.own) (fun i ho=>?_) fun i v hv=>?_⟩
      ·rcases q.own _ _ ho with h1|h1
       ·exact h1
       ·omega
      ·rcases q.immnew _ _ _ hv with h1|h1|h1
       ·exact h1
       ·exact absurd h1 (pd.own i)
       ·omega) (fun k u hk=> q.iota k u (.inl hk))
     exact hK _ _ _ _ _ _ hI
  ·rw[abort_none hco]at hop; cases hop
 ·rw[if_neg (by simp[hw])]
  subst hvu;have henv:RVe tbl ι I (e.put o.dst V.undef) (a.put go.dst Go.undef).tmps:=by rw[hd]; exact put_rv Vh.env o.dst .undef
  have hpend:S p→m≤p→∀d cs g,al[p]? =some ⟨some d,.alloc cs,g⟩→∃l,Pend tbl cs d w0 (e.put o.dst V.undef) (a.put go.dst Go.undef) w ι I (H m) l:=fun hSp hmp d cs g hx=> by
   obtain⟨l,pd⟩:=Vh.pend hSp hmp d cs g hx;rw[hd];exact⟨l,pd.step _ _ _ (hdp hSp d cs g hx) rfl (fun i ho=> ho) fun i v hv=> hv⟩
  cases hq:o.op.quiet with
  |true=>
   refine hK _ w ι I m _ ⟨Vh.post,keep_hole,Vh.mle,Vh.mW,fun i x hi hx hxq=> .inl (Vh.before i x hi hx hxq),fun i x hi hip hx hxf hxC hs=>?_,l1,l2,l3,fun i x hi hx hxf hn=> Vh.clk i x hi hx hxf fun h=> hn (.inl h),henv,by rw[zD]; exact Vh.defers,fun hSp hmp d cs g hx=>?_⟩
   ·rcases hs with hs|hs
    ·exact Vh.after i x hi hip hx hxf hxC hs
    ·subst hs
     exact hip.elim (by
      rw[hj]at hx; cases hx;rcases le_m D Vh hS hj hnj hrd hxf hxC with h1|h1
      ·have:=h1.2.1 hq
       omega
      ·exact h1.1)
   ·refine hpend ((hpS hSp).resolve_right fun e=>?_) hmp d cs g hx
    subst e;obtain⟨d',cs',ho,_⟩:=D.lone _ hj;subst ho;simp[Op.wanted]at hw
  |false=>
   have hjm:=loud_m D Vh hS hj hnj hrd hq;subst hjm;obtain⟨m',κ',e',hI⟩:=inv_loud D hst Vh hS hj hnj hrd hP0 hq hv (by rw[hH]; exact Vh.post) (by rw[hH]; exact hfrm) henv (by rw[zD]; exact Vh.defers) (by rw[hH]; exact hpend) (fun _ _ _=> rfl);exact hK _ _ _ _ _ _ hI
end
theorem setl_getD{listed:Array Bool}{i j:Nat}(hi:i < listed.size):((listed.setIfInBounds i true).getD j false=true)↔(listed.getD j false=true∨j=i):=by
 by_cases h:i=j
 ·subst h; simp[hi]
 ·rw[Go.getD_set_ne false h]
  exact⟨.inl,fun hh=> hh.resolve_right (yK h)⟩
theorem afters_getD{l:List Oper}{j:Nat}{go:Oper}(h:l[j]? =some go):(afters l).getD j []=((go.after.toList.filter fun e=> Go.Region.binds .any e).map (·.on)):=by
 simp[afters,gD,h]
theorem any_opsP{call:Call}(hT:TblOK P tbl)(hcall:jD P tbl call){ops:Array Oper}{al:List Op}{af:List (List Nat)}{π ρ:Nat→Nat}(hlen:al.length=ops.size)(hπ:∀j,j < al.length→π j < al.length∧ρ (π j)=j)(hρ:∀r,r < al.length→ρ r < al.length∧π (ρ r)=r)
  (hget:∀j o,al[j]? =some o→∃go,ops[π j]? =some go∧compOp P tbl ops go=some (erOp o)) (haf:∀j,j < al.length→∀r,r∈(afters ops.toList).getD (π j) []↔∃k∈af.getD j [],π k=r) (hok:drawOk al af=true) {Q:Go.Exit→Act→World→Prop}
  {ι:Iota} {I:Imm} {h h':Heap} {w:World} {e e':Env} {a:Act} (hs:St tbl ι I h w) (hfr:zM ι h) (he:RVe tbl ι I e a.tmps) (hev:jG call al e h=some (e',h'))
  (hQ:∀a' w' κ J,Post tbl ι I h w κ J h' w'→RVe tbl κ J e' a'.tmps→a'.defers=a.defers→Q .normal a' w'):wpAny P .any ops Q ops.size (Array.replicate ops.size false) a w:=by
 obtain⟨pre,p,C,L,D⟩:=drawOk_spec hok;obtain⟨E,H,hE0,hH0,hEn,hHn,hst⟩:=evOps_states al e h e' h' hev;have hP0:∀s k u o,(E 0).at s=V.ptr k u o→u < (H 0).clk:=fun s k u o hs'=> by
  rw[hE0]at hs';rw[hH0];have hlt:s < e.length:=by
   rcases wS s e.length with h1|h1
   ·exact h1
   ·simp only[Env.at,gD,gF h1]at hs'
    cases hs'
  have hx:e[s]? =some (V.ptr k u o):=by
   rw[←hs'];simp only[Env.at,gD,gB hlt]; rfl
  have hsl:s < a.tmps.toList.length:=by rw[he.len]; exact hlt
  have hr:=he.at_ s _ _ hx (gB hsl);generalize a.tmps.toList[s]=c at hr;cases hr with
  |imm hr=> cases hr
  |ptr _ _ _ l hl=>
   rcases wS u h.clk with h1|h1
   ·exact h1
   ·rw[hfr k u h1]at hl; cases hl
 have inj:∀i j,i < al.length→j < al.length→π i=π j→i=j:=fun i j hi hj h=> by rw[←(hπ i hi).2,←(hπ j hj).2,h]
 -- at the end
 have fin:∀ (S:Nat→Prop) a' w' κ J m ee,(∀j,j < al.length→S j)→Inv p C tbl al E H ι I w a S a' w' κ J m ee→Q .normal a' w':=by
  intro S a' w' κ J m ee hall Vh;have hmn:m=al.length:=by
   rcases wS m al.length with hlt|hge
   ·have hx:al[m]? =some al[m]:=gB hlt
    have hne:m≠p:=by
     rintro rfl;obtain⟨d,cs,h1,_⟩:=D.lone _ hx;have hq:=Vh.mW _ hx;rw[h1]at hq;simp[O.quiet]at hq
    exact absurd (hall m hlt) (Vh.after m _ (wE _) hne hx (zo (Vh.mW _ hx)) (loud_nC D hx (Vh.mW _ hx)))
   ·have:=Vh.mle; omega
  have hee:ee=e':=by
   rw[←hEn];refine env_ext (by rw[Vh.len,E_len hst _ (wE _)]) fun t=>?_;by_cases hx:∃ (i:Nat) (x:Op),al[i]? =some x∧x.dst=some t
   ·obtain⟨i,x,hi,hd⟩:=hx
    have hil:=gA hi;rw[Vh.done i x t hi (hall i hil) (fun h=> by omega) hd];obtain⟨n,hn⟩:=Nat.le.dest hil;have:=E_at (t:=t) hst n (i+1) (by omega) fun k y h1 h2 hk=> D.dst i k x y t hi hk (by omega) hd;rw[show i+1+n=al.length from by omega]at this;exact this.symm
   ·rw[Vh.undone t fun i x hi _ hd=> hx ⟨i,x,hi,hd⟩]
    have:=E_at (t:=t) hst al.length 0 (by omega) fun k y h1 h2 hk hd=> hx ⟨k,y,hk,hd⟩;rw[wV]at this;exact this.symm
  have hp:=Vh.post;rw[hmn,hHn,hH0]at hp;exact hQ a' w' κ J hp (by rw[←hee]; exact Vh.env) Vh.defers
 have key:∀ (fuel:Nat) (listed:Array Bool) (a':Act) (w':World) κ J m ee,listed.size=ops.size→listed.toList.count false≤fuel→(∀j,(j < al.length∧listed.getD (π j) false=true)→∀k∈af.getD j [],k < al.length∧listed.getD (π k) false=true)→
   Inv p C tbl al E H ι I w a (fun j=> j < al.length∧listed.getD (π j) false=true) a' w' κ J m ee→wpAny P .any ops Q fuel listed a' w':=by
  intro fuel
  -- nothing is ready only when all is listed
  have hready:∀ (listed:Array Bool),listed.size=ops.size→Go.Region.ready .any ops listed=[]→∀j,j < al.length→listed.getD (π j) false=true:=by
   intro listed hsz hr j;induction j using Nat.strongRecOn with
   |_ j ih=>
    intro hjl;cases hb:listed.getD (π j) false with
    |true=> rfl
    |false=>
     exfalso;have hjs:π j < listed.size:=by have:=(hπ j hjl).1; omega
     obtain⟨go,hgo,_⟩:=hget j _ (gB hjl);have:π j∈Go.Region.ready .any ops listed:=Go.mem_ready.2 ⟨by simpa[hjs]using hb,go,hgo,fun ed hed hbd=> by
      have hk:ed.on∈(afters ops.toList).getD (π j) []:=by
       rw[afters_getD (go:=go) (by rw[gJ]; exact hgo)];exact wQ.2 ⟨ed,uA.2 ⟨by simpa using hed,hbd⟩,rfl⟩
      obtain⟨k,hk1,hk2⟩:=(haf j hjl ed.on).1 hk;have hlt:=D.lt j k hjl hk1;rw[←hk2];exact ih k hlt (by omega)⟩
     rw[hr]at this; cases this
  induction fuel with
  |zero=>
   intro listed a' w' κ J m ee hsz hcnt hcl Vh;have hall:∀r,r < al.length→listed.getD r false=true:=fun j hjl=> by
    have hjs:j < listed.size:=by omega
    have h0:false∉listed.toList:=List.count_eq_zero.1 (by omega);cases hb:listed[j]with
    |true=> simp[hjs,hb]
    |false=> exact absurd (by rw[←hb]; simp) h0
   refine⟨?_,fin _ a' w' κ J m ee (fun j hj=>⟨hj,hall _ (hπ j hj).1⟩) Vh⟩;apply List.eq_nil_iff_forall_not_mem.2;intro j hj;obtain⟨h1,o,ho,_⟩:=Go.mem_ready.1 hj;have hjs:j < ops.size:=(gP.1 ho).1;have h2:=hall j (by omega);have hjl:j < listed.size:=by omega
   simp[hjl]at h1 h2;rw[h1]at h2; cases h2
  |succ fuel ih=>
   intro listed a' w' κ J m ee hsz hcnt hcl Vh;refine⟨fun hr=> fin _ a' w' κ J m ee (fun j hj=>⟨hj,hready listed hsz hr j hj⟩) Vh,fun r hr=>?_⟩;obtain⟨h1,go,hgo,hall⟩:=Go.mem_ready.1 hr;have hrs:r < ops.size:=(gP.1 hgo).1;have hrl:r < listed.size:=by omega
   obtain⟨hjal,hπr⟩:=hρ r (by omega);obtain⟨j,rfl⟩:∃j,j=ρ r:=⟨_,rfl⟩;generalize ρ r=j at hjal hπr;have ho:al[j]? =some al[j]:=gB hjal;obtain⟨go',hgo',hc⟩:=hget j _ ho;rw[hπr,hgo]at hgo'; cases hgo';have hnj:¬(j < al.length∧listed.getD (π j) false=true):=by
    rintro⟨_,h3⟩;rw[hπr]at h3;simp[hrl]at h1 h3;rw[h1]at h3; cases h3
   have hrd:∀k∈af.getD j [],k < al.length∧listed.getD (π k) false=true:=fun k hk=> by
    have hlt:=D.lt j k hjal hk;refine⟨by omega,?_⟩;have h5:=(haf j hjal (π k)).2 ⟨k,hk,rfl⟩;rw[hπr,afters_getD (go:=go) (by rw[gJ]; exact hgo)]at h5;obtain⟨ed,hed,h6⟩:=wQ.1 h5;obtain⟨h3,h4⟩:=uA.1 hed;rw[←h6];exact hall ed (by simpa using h3) h4
   refine any_step D hst Vh hcl ho hnj hrd (by rw[hH0]; exact hfr) hP0 hT hcall hgo hc fun a2 w2 ι2 I2 m2 e2 V2=>?_;have hset:∀i,i < al.length→((listed.setIfInBounds r true).getD (π i) false=true↔(listed.getD (π i) false=true∨i=j)):=fun i hi=> by
    rw[setl_getD hrl];refine or_congr_right ⟨fun h=> inj i j hi hjal (by rw[h,hπr]),fun h=> by rw[h,hπr]⟩
   have hSeq:with_ (fun i=> i < al.length∧listed.getD (π i) false=true) j=fun i=> i < al.length∧(listed.setIfInBounds r true).getD (π i) false=true:=by
    funext i;apply propext;unfold with_;constructor
    ·rintro(⟨h3,h4⟩|rfl)
     ·exact⟨h3,(hset i h3).2 (.inl h4)⟩
     ·exact⟨hjal,(hset _ hjal).2 (.inr rfl)⟩
    ·rintro⟨h3,h4⟩
     rcases(hset i h3).1 h4 with h5|h5
     ·exact .inl ⟨h3,h5⟩
     ·exact .inr h5
   rw[hSeq]at V2;refine ih _ a2 w2 ι2 I2 m2 e2 (by simp[hsz]) ?_ (fun i hi k hk=>?_) V2
   ·rw[Array.toList_setIfInBounds,List.count_set (by simpa using hrl)]
    have hb:listed.toList[r]'(by simpa using hrl)=false:=by simpa[hrl]using h1
    have hpos:0 < listed.toList.count false:=List.count_pos_iff.2 (by rw[←hb]; exact wC _);simp[hb];simp at hcnt hpos;omega
   ·obtain⟨hi1,hi2⟩:=hi
    have hlt:=D.lt i k hi1 hk;refine⟨by omega,(hset k (by omega)).2 ?_⟩;rcases(hset i hi1).1 hi2 with hi3|rfl
    ·exact .inl (hcl i ⟨hi1,hi3⟩ k hk).2
    ·exact .inl (hrd k hk).2
 obtain⟨m0,g1,g2,g3,g4⟩:=next_loud (al:=al) 0 (vD _);have M:∀k,k≤m0→More (H 0) (H k):=fun k hk=> H_more' hst (vD _) (by omega) fun i x p q r=> g4 i x p (by omega) r;have hS1:∀r,¬(Array.replicate ops.size false).getD r false=true:=fun j=> by simp[Array.getElem?_replicate]; split <;> simp
 have hS0:∀j,¬(j < al.length∧(Array.replicate ops.size false).getD (π j) false=true):=fun j h=> hS1 _ h.2;refine key ops.size _ a w ι I m0 e (by simp) (by simp) (fun j hj=> absurd hj (hS0 j)) ⟨?_,fun j hj _ k u hk1 hk2=>?_,g2,g3,fun i o hi ho hq=>?_,fun i o _ _ _ _ _=> hS0 i,by rw[hE0],fun j o d _ hs=> absurd hs (hS0 j),fun d _=> by rw[hE0],fun j o hj _ _ _=>(M j (by omega)).clk,he,rfl,fun hs=> absurd hs (hS0 p)⟩
 ·rw[hH0]
  exact(Post.refl hs).more (by rw[←hH0]; exact M m0 (wE _)) hfr
 ·have:=(M j (by omega)).clk
  rw[hH0]at this;exact hfr k u (by omega)
 ·rw[g4 i o (vD _) hi ho]at hq; cases hq
theorem any_ops{call:Call}(hT:TblOK P tbl)(hcall:jD P tbl call){ops:Array Oper}{al:List Op}(hm:mapO (compOp P tbl ops) ops.toList=some (al.map erOp))(hok:drawOk al (afters ops.toList)=true){Q:Go.Exit→Act→World→Prop}
  {ι:Iota} {I:Imm} {h h':Heap} {w:World} {e e':Env} {a:Act} (hs:St tbl ι I h w) (hfr:zM ι h) (he:RVe tbl ι I e a.tmps) (hev:jG call al e h=some (e',h'))
  (hQ:∀a' w' κ J,Post tbl ι I h w κ J h' w'→RVe tbl κ J e' a'.tmps→a'.defers=a.defers→Q .normal a' w'):wpAny P .any ops Q ops.size (Array.replicate ops.size false) a w:=by
 obtain⟨hlm,hmm⟩:=zC hm;have hlen:al.length=ops.size:=by simpa using hlm
 refine any_opsP hT hcall (π:=id) (ρ:=id) hlen (fun j hj=>⟨hj,rfl⟩) (fun j hj=>⟨hj,rfl⟩) (fun j o ho=>?_) (fun j hj r=>⟨fun h=>⟨r,h,rfl⟩,fun⟨k,h,e⟩=> by cases e; exact h⟩) hok hs hfr he hev hQ;have hlt:j < ops.toList.length:=by
  have:=gA ho;simp only[wJ]; omega
 obtain⟨y,hy,hf⟩:=hmm j ops.toList[j] (by rw[gB hlt]);rw[gG,ho]at hy;cases hy;exact⟨_,by rw[id,←gJ,gB hlt],hf⟩
def permOk(n:Nat)(π:List Nat):Bool:=(List.range n).all fun j=> decide (π.getD j n < n)&& π.idxOf (π.getD j n)==j && decide (π.idxOf j < n)&& π.getD (π.idxOf j) n==j
theorem permOk_spec{n:Nat}{π:List Nat}(h:permOk n π=true):(∀j,j < n→π.getD j n < n∧π.idxOf (π.getD j n)=j)∧∀r,r < n→π.idxOf r < n∧π.getD (π.idxOf r) n=r:=by
 unfold permOk at h;simp only[wO,wX,wL,decide_eq_true_eq,beq_iff_eq]at h;exact⟨fun j hj=>⟨(h j hj).1.1.1,(h j hj).1.1.2⟩,fun r hr=>⟨(h r hr).1.2,(h r hr).2⟩⟩
theorem any_perm{call:Call}(hT:TblOK P tbl)(hcall:jD P tbl call){ops:Array Oper}{al:List Op}{af:List (List Nat)}{π:List Nat}(hm:mapO (compOp P tbl ops) ops.toList=some ((List.range al.length).map fun r=> erOp (al.getD (π.idxOf r) default)))
  (ha:afters ops.toList=(List.range al.length).map fun r=>(af.getD (π.idxOf r) []).map fun k=> π.getD k al.length) (hp:permOk al.length π=true) (hok:drawOk al af=true) {Q:Go.Exit→Act→World→Prop}
  {ι:Iota} {I:Imm} {h h':Heap} {w:World} {e e':Env} {a:Act} (hs:St tbl ι I h w) (hfr:zM ι h) (he:RVe tbl ι I e a.tmps) (hev:jG call al e h=some (e',h'))
  (hQ:∀a' w' κ J,Post tbl ι I h w κ J h' w'→RVe tbl κ J e' a'.tmps→a'.defers=a.defers→Q .normal a' w'):wpAny P .any ops Q ops.size (Array.replicate ops.size false) a w:=by
 obtain⟨hlm,hmm⟩:=zC hm;obtain⟨p1,p2⟩:=permOk_spec hp;have hlen:al.length=ops.size:=by simpa using hlm
 refine any_opsP hT hcall (π:=fun j=> π.getD j al.length) (ρ:=fun r=> π.idxOf r) hlen p1 p2 (fun j o ho=>?_) (fun j hj r=>?_) hok hs hfr he hev hQ
 ·have hjl:=gA ho
  obtain⟨q1,q2⟩:=p1 j hjl;have hlt:π.getD j al.length < ops.toList.length:=by
   simp only[wJ]; omega
  obtain⟨y,hy,hf⟩:=hmm (π.getD j al.length) ops.toList[π.getD j al.length] (by rw[gB hlt]);rw[gG,List.getElem?_range q1,vI,q2,show al.getD j default=o by simp[gD,ho]]at hy;cases hy;exact⟨_,by rw[←gJ,gB hlt],hf⟩
 ·obtain⟨q1,q2⟩:=p1 j hj
  have:(afters ops.toList).getD (π.getD j al.length) []=(af.getD j []).map fun k=> π.getD k al.length:=by
   rw[ha,gD,gG,List.getElem?_range q1,vI,yL,q2]
  rw[this];simp only[wQ]
end Rv
namespace Rv
open Go (IntKind BinOp UnOp Program Value Operand Oper Code TypeId Func World Addr Obj Act Calls execOp wpOps wpOp wpAny)
set_option maxRecDepth 10000
variable {tbl:Nat→Option Nat} {P:Program}
def Ex.go:Ex→Go.Exit
 | .normal=> .normal
 | .exit i=> .exit i
 | .ret=> .ret
def C.ok:C→Bool
 | .reg ops (some l)=> if l.length=ops.length+1 then permOk ops.length (l.getD ops.length [])&& drawOk ops (l.take ops.length)else drawOk ops l
 | .seq a b=> a.ok && b.ok
 | .cond _ a b=> a.ok && b.ok
 | .block _ a=> a.ok
 | .loop _ a=> a.ok
 | .clone _ _=> false
 |_=> true
theorem Post.sub{ι κ:Iota}{I J:Imm}{h h1 h2:Heap}{w w1:World}(p:Post tbl ι I h w κ J h1 w1)(s:HSub h2 h1):Post tbl ι I h w κ J h2 w1:=
 ⟨fun k u hk=> p.iota k u (by rw[s.clk]at hk; exact hk),by rw[s.clk]; exact p.clk,p.imm,p.st.sub s,p.frm,fun b i ho=> p.own b i (s.owned ho),p.immnew⟩
theorem cut_sub(keep:Bool)(n:Nat)(h:Heap):HSub (h.cut keep n) h:=by
 unfold Heap.cut;split
 ·exact .refl h
 ·refine⟨fun k u cs e=>?_,rfl⟩
  unfold Heap.trunc at e;simp only[gH]at e;split at e
  ·exact e
  ·cases e
theorem least{p:Nat→Prop}(h:∃n,p n):∃n,p n∧∀m,p m→n≤m:=by
 obtain⟨n,hn⟩:=h;induction n using Nat.strongRecOn with
 |_ n ih=>
  by_cases hx:∃m,m < n∧p m
  ·obtain⟨m,h1,h2⟩:=hx; exact ih m h1 h2
  ·exact⟨n,hn,fun m hm=> Nat.le_of_not_lt fun hlt=> hx ⟨m,hlt,hm⟩⟩
open Classical in
theorem wp_rounds{c:Code}{Q:Go.Exit→Act→World→Prop}{a:Act}{w:World}(R:Nat→Act→World→Prop)(h0:∃n,R n a w)(h:∀n a w,R n a w→c.wp P (Go.Exit.then (fun a' w'=>∃m,m < n∧R m a' w') Q) a w):(Code.loop c).wp P Q a w:=by
 have hex:∀ (a:Act) (w:World),∃k,∀hx:(∃n,R n a w),R k a w∧∀m,R m a w→k≤m:=fun a w=> by
  by_cases hx:∃n,R n a w
  ·obtain⟨n,h1⟩:=least hx; exact⟨n,fun _=> h1⟩
  ·exact⟨0,fun h=> absurd h hx⟩
 let μ:=fun a w=> Classical.choose (hex a w)
 have hμ:∀a w,(∃n,R n a w)→R (μ a w) a w∧∀m,R m a w→μ a w≤m:=fun a w hx=> vP (hex a w) hx;refine Go.wp_loop (fun a w=>∃n,R n a w) μ h0 fun a w hI=>?_;refine Go.wp_mono (h _ a w (hμ a w hI).1) fun e a' w' hq=>?_;cases e with
 |normal=>
  obtain⟨m,hm,hR⟩:=hq;exact⟨⟨m,hR⟩,Nat.lt_of_le_of_lt ((hμ a' w' ⟨m,hR⟩).2 m hR) hm⟩
 |_=> exact hq
theorem ops_er{ops:List Op}{x:List Op}{d:Option (List (List Nat))}(h:C.reg x none=zO (.reg ops d)):x=ops.map erOp:=by
 simp only[zO]at h;injection h with h1 h2
 cases d with
 |none=> exact h1
 |some l=>
  unfold eraseRD at h2;simp only at h2;split at h2 <;> cases h2
theorem ops_erS{ops:List Op}{x:List Op}{f:List (List Nat)}{d:Option (List (List Nat))}(h:C.reg x (some f)=zO (.reg ops d)):(d=some f∧f.length≠ops.length+1∧x=ops.map erOp)∨
  ∃l,d=some l∧l.length=ops.length+1∧x=((List.range ops.length).map fun r=> erOp (ops.getD ((l.getD ops.length []).idxOf r) default))∧f=(List.range ops.length).map fun r=>(l.getD ((l.getD ops.length []).idxOf r) []).map fun k=>(l.getD ops.length []).getD k ops.length:=by
 simp only[zO]at h;injection h with h1 h2
 cases d with
 |none=> cases h2
 |some l=>
  unfold eraseRD at h2;unfold eraseRO at h1;simp only at h1 h2;split at h2
  ·rename_i hl
   rw[if_pos hl]at h1;exact .inr ⟨l,rfl,hl,h1,wA h2⟩
  ·rename_i hl
   rw[if_neg hl]at h1;cases h2;exact .inl ⟨rfl,hl,h1⟩
theorem ev_sound(hm:P.follows .mixedOrders=true)(hT:TblOK P tbl){call:Call}(hcall:jD P tbl call)(k:Nat):∀ (cc:Code) (c:C),jV P tbl cc=some (zO c)→c.ok=true→∀ (ι:Iota) (I:Imm) (h:Heap) (w:World) (e:Env) (a:Act) (x:Ex) (e':Env) (h':Heap),
  St tbl ι I h w→zM ι h→RVe tbl ι I e a.tmps→C.ev call k c e h=some (x,e',h')→∀ (Q:Go.Exit→Act→World→Prop),
  (∀a' w' κ J,Post tbl ι I h w κ J h' w'→RVe tbl κ J e' a'.tmps→a'.defers=a.defers→Q x.go a' w')→cc.wp P Q a w:=by
 intro cc;induction cc with
 |skip=>
  intro c hc hok ι I h w e a x e' h' hs hfr he hev Q hQ;simp only[jV]at hc;cases c <;> simp only[zO]at hc <;> first|(simp only[C.ok]at hok; cases hok; done)|(cases hc; done)|skip;simp only[C.ev,wB,wH]at hev;obtain⟨rfl,rfl,rfl⟩:=hev;exact Go.wp_skip (hQ a w ι I (.refl hs) he rfl)
 |region id ops draw=>
  intro c hc hok ι I h w e a x e' h' hs hfr he hev Q hQ;simp only[jV]at hc;split at hc
  ·rename_i l hml
   cases c <;> first|(simp only[C.ok]at hok; cases hok; done)|(simp only[zO]at hc; cases hc; done)|skip;rename_i al af;have hc':=wA hc;simp only[C.ev]at hev;split at hev
   ·rename_i e1 h1 hops
    simp only[wB,wH]at hev;obtain⟨rfl,rfl,rfl⟩:=hev;cases draw with
    |false=>
     have:=ops_er (show C.reg _ none=_ from hc');subst this;refine Go.wp_region ?_;have hlen:ops.size=al.length:=by
      have:=(zC hml).1;simpa using this.symm
     rw[List.range_eq_range',hlen];exact seq_ops hT hcall hml al 0 rfl ι I h h1 w e e1 a hs hfr he hops hQ
    |true=>
     simp only[if_true]at hc';refine Go.wp_region_any hm ?_;rcases ops_erS hc' with⟨rfl,hne,rfl⟩|⟨l,rfl,hl,rfl,ha⟩
     ·simp only[C.ok]at hok
      rw[if_neg hne]at hok;refine any_ops hT hcall hml hok (hs.drew _) hfr he hops fun a' w' κ J p r hd=> hQ a' w' κ J ?_ r hd;exact⟨p.iota,p.clk,p.imm,p.st,⟨p.frm.os,p.frm.tape,p.frm.output,p.frm.size,p.frm.block,p.frm.cell⟩,p.own,p.immnew⟩
     ·simp only[C.ok]at hok
      rw[if_pos hl]at hok;obtain⟨hp,hok⟩:=(wL _ _▸hok:_∧_);have ha2:afters ops.toList=(List.range al.length).map fun r=>((l.take al.length).getD ((l.getD al.length []).idxOf r) []).map fun k=>(l.getD al.length []).getD k al.length:=by
       rw[ha];refine yQ fun r hr=>?_;have:=(permOk_spec hp).2 r (wX.1 hr);have e:∀N,N < al.length→(l.take al.length).getD N []=l.getD N []:=fun N hN=> by rw[gD,gH,if_pos hN,←gD]
       rw[e _ this.1]
      refine any_perm hT hcall hml ha2 hp hok (hs.drew _) hfr he hops fun a' w' κ J p r hd=> hQ a' w' κ J ?_ r hd;exact⟨p.iota,p.clk,p.imm,p.st,⟨p.frm.os,p.frm.tape,p.frm.output,p.frm.size,p.frm.block,p.frm.cell⟩,p.own,p.immnew⟩
   ·cases hev
  ·cases hc
 |seq ca cb iha ihb=>
  intro c hc hok ι I h w e a x e' h' hs hfr he hev Q hQ;simp only[jV]at hc;split at hc
  ·rename_i xa xb ha hb
   cases c <;> simp only[zO]at hc <;> first|(simp only[C.ok]at hok; cases hok; done)|(cases hc; done)|skip;rename_i c1 c2;injection hc with hc
   injection hc with h1 h2
   subst h1; subst h2;simp only[C.ok,wL]at hok;simp only[C.ev]at hev;refine Go.wp_seq ?_;split at hev
   ·rename_i e1 h1 hev1
    refine iha c1 ha hok.1 ι I h w e a _ e1 h1 hs hfr he hev1 _ fun a1 w1 κ J p r hd=>?_;refine ihb c2 hb hok.2 κ J h1 w1 e1 a1 x e' h' p.st (p.fresh hfr) r hev Q fun a2 w2 μ K q r2 hd2=>?_;exact hQ a2 w2 μ K (p.trans q) r2 (hd2.trans hd)
   ·rename_i hne
    refine iha c1 ha hok.1 ι I h w e a x e' h' hs hfr he hev _ fun a1 w1 κ J p r hd=>?_;have:=hQ a1 w1 κ J p r hd;cases x with
    |normal=> exact absurd hev (hne _ _)
    |_=> exact this
  ·cases hc
 |cond co ca cb iha ihb=>
  intro c hc hok ι I h w e a x e' h' hs hfr he hev Q hQ;simp only[jV]at hc;split at hc
  ·rename_i y xa xb hy ha hb
   cases c <;> simp only[zO]at hc <;> first|(simp only[C.ok]at hok; cases hok; done)|(cases hc; done)|skip;rename_i z c1 c2;injection hc with hc
   injection hc with h0 h1 h2
   subst h0; subst h1; subst h2;simp only[C.ok,wL]at hok;simp only[C.ev]at hev;have hv:=qp he hy;split at hev
   ·rename_i hb1
    rw[hb1]at hv;exact Go.wp_cond_true hv.of_bool (iha c1 ha hok.1 ι I h w e a x e' h' hs hfr he hev Q hQ)
   ·rename_i hb1
    rw[hb1]at hv;exact Go.wp_cond_false hv.of_bool (ihb c2 hb hok.2 ι I h w e a x e' h' hs hfr he hev Q hQ)
   ·cases hev
  ·cases hc
 |block id ca iha=>
  intro c hc hok ι I h w e a x e' h' hs hfr he hev Q hQ;simp only[jV]at hc;split at hc
  ·rename_i xa ha
   cases c <;> simp only[zO]at hc <;> first|(simp only[C.ok]at hok; cases hok; done)|(cases hc; done)|skip;rename_i i c1;injection hc with hc
   injection hc with h0 h1
   subst h0; subst h1;simp only[C.ok]at hok;simp only[C.ev]at hev;refine Go.wp_block ?_;split at hev
   ·rename_i j e1 h1 hev1
    refine iha c1 ha hok ι I h w e a _ e1 h1 hs hfr he hev1 _ fun a1 w1 κ J p r hd=>?_;simp only[Ex.go,Go.Exit.inBlock];split at hev
    ·rename_i hj
     simp only[wB,wH]at hev;obtain⟨rfl,rfl,rfl⟩:=hev;rw[if_pos hj];exact hQ a1 w1 κ J p r hd
    ·rename_i hj
     simp only[wB,wH]at hev;obtain⟨rfl,rfl,rfl⟩:=hev;rw[if_neg hj];exact hQ a1 w1 κ J p r hd
   ·rename_i hne
    refine iha c1 ha hok ι I h w e a x e' h' hs hfr he hev _ fun a1 w1 κ J p r hd=>?_;have:=hQ a1 w1 κ J p r hd;cases x with
    |exit j=> exact absurd hev (hne _ _ _)
    |_=> exact this
  ·cases hc
 |loop ca iha=>
  intro c hc hok ι I h w e a x e' h' hs hfr he hev Q hQ;simp only[jV]at hc;split at hc
  ·rename_i xa ha
   cases c <;> simp only[zO]at hc <;> first|(simp only[C.ok]at hok; cases hok; done)|(cases hc; done)|skip;rename_i keep c1;injection hc with hc
   injection hc with h0 h1
   subst h1;simp only[C.ok]at hok;simp only[C.ev]at hev;refine wp_rounds (fun n a1 w1=>∃κ J e1 h1,Post tbl ι I h w κ J h1 w1∧RVe tbl κ J e1 a1.tmps∧a1.defers=a.defers∧loopN (C.ev call k c1) keep h.ents.length n e1 h1=some (x,e',h')) ⟨k,ι,I,e,h,.refl hs,he,rfl,hev⟩ ?_;rintro n a1 w1 ⟨κ,J,e1,h1,p,r,hd,hl⟩;cases n with
   |zero=> simp[loopN]at hl
   |succ n=>
    simp only[loopN]at hl;split at hl
    ·rename_i e2 h2 hev2
     refine iha c1 ha hok κ J h1 w1 e1 a1 _ e2 h2 p.st (p.fresh hfr) r hev2 _ fun a2 w2 μ K q r2 hd2=>?_;exact⟨n,Nat.lt_succ_self n,μ,K,e2,_,(p.trans q).sub (cut_sub keep _ h2),r2,hd2.trans hd,hl⟩
    ·rename_i i e2 h2 hev2
     simp only[wB,wH]at hl;obtain⟨rfl,rfl,rfl⟩:=hl;refine iha c1 ha hok κ J h1 w1 e1 a1 _ e2 h2 p.st (p.fresh hfr) r hev2 _ fun a2 w2 μ K q r2 hd2=>?_;exact hQ a2 w2 μ K ((p.trans q).sub (cut_sub keep _ h2)) r2 (hd2.trans hd)
    ·rename_i hn1 hn2
     refine iha c1 ha hok κ J h1 w1 e1 a1 x e' h' p.st (p.fresh hfr) r hl _ fun a2 w2 μ K q r2 hd2=>?_;have:=hQ a2 w2 μ K (p.trans q) r2 (hd2.trans hd);cases x with
     |normal=> exact absurd hl (hn1 _ _)
     |exit i=> exact this
     |ret=> exact this
  ·cases hc
 |exit id=>
  intro c hc hok ι I h w e a x e' h' hs hfr he hev Q hQ;simp only[jV]at hc;cases c <;> simp only[zO]at hc <;> first|(simp only[C.ok]at hok; cases hok; done)|(cases hc; done)|skip;injection hc with hc
  injection hc with hc
  subst hc;simp only[C.ev,wB,wH]at hev;obtain⟨rfl,rfl,rfl⟩:=hev;exact Go.wp_exit (hQ a w ι I (.refl hs) he rfl)
 |ret=>
  intro c hc hok ι I h w e a x e' h' hs hfr he hev Q hQ;simp only[jV]at hc;cases c <;> simp only[zO]at hc <;> first|(simp only[C.ok]at hok; cases hok; done)|(cases hc; done)|skip;simp only[C.ev,wB,wH]at hev;obtain⟨rfl,rfl,rfl⟩:=hev;exact Go.wp_ret (hQ a w ι I (.refl hs) he rfl)
 |rangeFunc=> intro c hc; simp only[jV]at hc; cases hc
 |scope=> intro c hc; simp only[jV]at hc; cases hc
 |label=> intro c hc; simp only[jV]at hc; cases hc
 |goto=> intro c hc; simp only[jV]at hc; cases hc
 |refuse=> intro c hc; simp only[jV]at hc; cases hc
end Rv
