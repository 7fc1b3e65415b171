/- An abstract machine for translated code, proved to answer as the code does: part 3 -/
import Derived.Test.YtoejjfefmcbkpaaGreatRv1
import Derived.KernelRfl
import Derived.WalkKit
import Derived.ProofKit
import Derived.OpenShut
import Derived.ChangeOld
import Derived.Carry
import Derived.WideShapes
import Derived.DataReads
set_option linter.unusedVariables false
set_option linter.unusedSimpArgs false
namespace Rv
open Go (IntKind BinOp UnOp Program Value Operand Oper Code TypeId Func World Addr Obj Act Calls execOp)
set_option maxRecDepth 10000
variable {tbl:Nat→Option Nat} {P:Program}
theorem mapO_cons{α β:Type}{f:α→Option β}{x:α}{xs:List α}{ys:List β}(h:mapO f (x::xs)=some ys):∃y t,ys=y::t∧f x=some y∧mapO f xs=some t:=by
 simp only[mapO]at h;split at h
 ·rename_i y hy
  split at h
  ·rename_i t ht
   cases h;exact⟨y,t,rfl,hy,ht⟩
  ·cases h
 ·cases h
theorem mapO_nil{α β:Type}{f:α→Option β}{ys:List β}(h:mapO f []=some ys):ys=[]:=by
 simp only[mapO]at h; cases h; rfl
theorem res_one{ι:Iota}{I:Imm}{h:Heap}{w:World}{e:Env}{a:Act}(hs:St tbl ι I h w)(he:RVe tbl ι I e a.tmps){r:Go.ResultVar}{q:Rs}(hq:compR P r=some q){v:V}(hv:q.ev e h=some v):
  ∃c,((match r with| .tmp t=> pure (a.tmps.getD t Go.undef)| .cell x t=> do Go.loadVar t (←Go.asAddr (a.tmps.getD x Go.undef)):Go.Sem Value)).run P w= .ok c w∧RV tbl ι I v c:=by
 cases r with
 |tmp t=>
  simp only[compR]at hq;cases hq;simp only[Rs.ev]at hv;cases hv;exact⟨_,rfl,qp (x:= .tmp t) (y:= .t t) he rfl⟩
 |cell x t=>
  simp only[compR]at hq;split at hq
  ·rename_i n hn
   cases hq;simp only[Rs.ev]at hv;split at hv
   ·rename_i key uid off hx
    split at hv
    ·rename_i cs hg
     have h1:=qp (a:=a) (x:= .tmp x) (y:= .t x) he rfl;simp only[X.ev,hx]at h1;obtain⟨l,hl,hq⟩:=h1.of_ptr;simp only[Act.eval]at hq;obtain⟨vs,hv1,hv2,hv3⟩:=(hs.get hg hl).list off;obtain⟨c,hc1,hc2⟩:=run_loadVar (P:=P) hn hv1 hv2 (b:=l.b) (o:=l.o+off) (w:=w) hv3 hv;refine⟨c,?_,hc2⟩;simp only[hq];simp[Go.asAddr,hc1]
    ·cases hv
   ·cases hv
  ·cases hq
theorem res_list{ι:Iota}{I:Imm}{h:Heap}{w:World}{e:Env}{a:Act}(hs:St tbl ι I h w)(he:RVe tbl ι I e a.tmps):∀ (rs:List Go.ResultVar) (qs:List Rs) (vs:List V),mapO (compR P) rs=some qs→mapO (Rs.ev e h) qs=some vs→
  ∃cs:List Value,(rs.mapM (fun r=>(match r with| .tmp t=> pure (a.tmps.getD t Go.undef)| .cell x t=> do Go.loadVar t (←Go.asAddr (a.tmps.getD x Go.undef)):Go.Sem Value))).run P w= .ok cs w∧RVs tbl ι I vs cs:=by
 intro rs;induction rs with
 |nil=>
  intro qs vs h1 h2;rw[mapO_nil h1]at h2;rw[mapO_nil h2];exact⟨[],rfl,.nil⟩
 |cons r rs ih=>
  intro qs vs h1 h2;obtain⟨q,qs',rfl,hq,h1'⟩:=mapO_cons h1;obtain⟨v,vs',rfl,hv,h2'⟩:=mapO_cons h2;obtain⟨c,hc,hr⟩:=res_one hs he hq hv;obtain⟨cs,hcs,hrs⟩:=ih qs' vs' h1' h2';refine⟨c::cs,?_,.cons hr hrs⟩;rw[List.mapM_cons];simp[-Array.getD_eq_getD_getElem?,hc,hcs]
theorem results_run{ι:Iota}{I:Imm}{h:Heap}{w:World}{e:Env}{a:Act}(hs:St tbl ι I h w)(he:RVe tbl ι I e a.tmps){fn:Func}{f:Fn}(hr:mapO (compR P) fn.results.toList=some f.results){v:V}(hv:f.out e h=some v):
  ∃c,(Go.results fn a.tmps).run P w= .ok c w∧RV tbl ι I v c:=by
 unfold Fn.out at hv;have key:∀vs,mapO (Rs.ev e h) f.results=some vs→∃cs:List Value,(Go.results fn a.tmps).run P w= .ok (if h:cs.toArray.size=1 then cs.toArray[0]else .tuple cs.toArray) w∧RVs tbl ι I vs cs:=by
  intro vs hvs;obtain⟨cs,hcs,hrs⟩:=res_list hs he fn.results.toList f.results vs hr hvs;refine⟨cs,?_,hrs⟩;unfold Go.results;rw[Array.mapM_eq_mapM_toList];simp only[wY,Go.Sem.run_map]
  erw [hcs]
  simp
 split at hv
 ·rename_i u hu
  cases hv;obtain⟨cs,h1,h2⟩:=key _ hu;obtain⟨y,t,rfl,hy,ht⟩:=h2.uncons;have:t=[]:=by have:=ht.len; simpa using this
  subst this;exact⟨y,by simpa using h1,hy⟩
 ·rename_i vs hne hvs
  cases hv;obtain⟨cs,h1,h2⟩:=key _ hvs;have hn:¬cs.toArray.size=1:=fun h3=> by
   have h4:vs.length=1:=by rw[←h2.len]; simpa using h3
   obtain⟨x,hx⟩:=List.length_eq_one_iff.1 h4;exact hne x hx
  rw[dif_neg hn]at h1;exact⟨_,h1,.tup _ _ h2.len h2.at_⟩
 ·cases hv
def Fn.okF(f:Fn):Bool:=
 match f with
 |⟨1,8,[.tmp 2],.clone _ _⟩=> true
 |⟨_,_,_,c⟩=> c.ok
theorem bodyEv_of{call:Call}{k:Nat}{c:C}{e:Env}{h:Heap}(hc:c.isClone=false):bodyEv call k c e h=C.ev call k c e h:=by
 cases c <;> first|rfl|(simp[C.isClone]at hc; done)
theorem cloneC_ok(sz b:Nat):(cloneC sz b).ok=true:=rfl
structure Models (P:Program) (tbl:Nat→Option Nat) (A:Prog):Prop where
 mixed:P.follows .mixedOrders=true
 tblOK:TblOK P tbl
 fn:∀f g,tbl f=some g→∃fn af,P.funcs[f]? =some fn∧A g=some af∧compFn P tbl fn=some (eraseFn af)∧af.okF=true
theorem compFn_inv{fn:Func}{af:Fn}(h:compFn P tbl fn=some (eraseFn af)):∃c,fn.body=some c∧jV P tbl c=some (zO af.body)∧mapO (compR P) fn.results.toList=some af.results∧af.nargs=fn.params.size+fn.nfree∧af.ntmps=fn.ntmps:=by
 unfold compFn at h;split at h
 ·cases h
 ·rename_i c hb
  split at h
  ·rename_i b r hc hr
   simp only[eraseFn,wB,Fn.mk.injEq]at h;obtain⟨h1,h2,h3,h4⟩:=h;exact⟨c,hb,by rw[hc,h4],by rw[hr,h3],h1.symm,h2.symm⟩
  ·cases h
theorem run_ok{A:Prog}(hM:Models P tbl A):∀k,jD P tbl (A.run k):=by
 intro k;induction k with
 |zero=> intro g args h r h' hev; simp[Prog.run]at hev
 |succ k ih=>
  intro g args h r h' hev f hf ι I w cargs hs hfr hr;obtain⟨fn,af,hfn,hA,hc,hok⟩:=hM.fn f g hf;obtain⟨c,hb,hcc,hres,hna,hnt⟩:=compFn_inv hc;simp only[Prog.run,hA]at hev;split at hev
  ·rename_i hlen
   refine Go.calls_of_wp hfn hb ?_;have henv:RVe tbl ι I (args++List.replicate (af.ntmps - af.nargs) V.undef) (cargs.toArray++Array.replicate (fn.ntmps - cargs.toArray.size) Go.undef):=by
    have h1:cargs.toArray.size=args.length:=by simpa using hr.len
    have h2:(cargs.toArray++Array.replicate (fn.ntmps - cargs.toArray.size) Go.undef).toList=cargs++List.replicate (fn.ntmps - args.length) Go.undef:=by
     simp[hr.len]
    unfold RVe;rw[h2,hlen,hnt];exact hr.append (.replicate .undef _)
   have fin:∀ (x:Ex) e1 h1 v,af.out e1 h1=some v→(x= .normal∨x= .ret)→∀ (a':Act) w' κ J,Post tbl ι I h w κ J h1 w'→RVe tbl κ J e1 a'.tmps→a'.defers=[]→
     Go.bodyPost P fn (fun e w'=>∃c κ J,e= .returned c∧Post tbl ι I h w κ J h1 w'∧RV tbl κ J v c) x.go a' w':=by
    intro x e1 h1 v hv hx a' w' κ J p r hd;obtain⟨cv,hcv,hrv⟩:=results_run p.st r hres hv;rcases hx with rfl|rfl
    ·exact⟨hd,cv,hcv,cv,κ,J,rfl,p,hrv⟩
    ·exact⟨hd,cv,hcv,cv,κ,J,rfl,p,hrv⟩
   by_cases hcl:af.body.isClone=true
   ·-- slices.Clone
    obtain⟨nargs,ntmps,results,body⟩:=af;cases body with
    |clone sz b=>
     have hq:nargs=1∧ntmps=8∧results=[.tmp 2]:=by
      unfold Fn.okF at hok;split at hok
      ·rename_i heq; simp at heq; exact⟨heq.1,heq.2.1,heq.2.2.1⟩
      ·rename_i heq; simp at heq; obtain⟨_,_,_,rfl⟩:=heq; simp[C.ok]at hok
     obtain⟨rfl,rfl,rfl⟩:=hq;simp only at hlen hev hcc hres hna hnt henv fin;obtain⟨v0,rfl⟩:=List.length_eq_one_iff.1 hlen;obtain⟨c0,ct,rfl,hr0,hrt⟩:=hr.uncons;have hct:ct=[]:=by have:=hrt.len; simpa using this
     subst hct;have hcc2:jV P tbl c=some (zO (cloneC sz b)):=by rw[hcc]; rfl
     -- the same code, the argument told otherwise
     have other:∀ (u:V) (e1:Env) (h1:Heap) (v:V),RV tbl ι I u c0→C.ev (A.run k) k (cloneC sz b) ([u]++List.replicate (8 - 1) V.undef) h=some (.ret,e1,h1)→e1.at 2=v→
       ∀ (G:Go.Ending→World→Prop),(∀c κ J w',Post tbl ι I h w κ J h1 w'→RV tbl κ J v c→G (.returned c) w')→c.wp P (Go.bodyPost P fn G) ⟨([c0]:List Value).toArray++Array.replicate (fn.ntmps - ([c0]:List Value).toArray.size) Go.undef,[]⟩ w:=by
      intro u e1 h1 v hu hev1 h2 G hG;have henv2:RVe tbl ι I ([u]++List.replicate (8 - 1) V.undef) (([c0]:List Value).toArray++Array.replicate (fn.ntmps - ([c0]:List Value).toArray.size) Go.undef):=by
       unfold RVe at henv ⊢;have h4:(([c0]:List Value).toArray++Array.replicate (fn.ntmps - ([c0]:List Value).toArray.size) Go.undef).toList=[c0]++List.replicate (8 - 1) Go.undef:=by simp[←hnt]
       rw[h4];exact(P2.cons hu .nil).append (.replicate .undef _)
      refine ev_sound hM.mixed hM.tblOK ih k c (cloneC sz b) hcc2 (cloneC_ok sz b) ι I h w _ _ .ret e1 h1 hs hfr henv2 hev1 _ fun a' w' κ J p r hd=>?_;obtain⟨cv,hcv,hrv⟩:=results_run (f:=⟨1,8,[.tmp 2],.clone sz b⟩) p.st r hres (v:=v) (by simp[Fn.out,mapO,Rs.ev,h2]);exact⟨hd,cv,hcv,hG cv κ J w' p hrv⟩
     by_cases he:v0= .isl []
     ·subst he
      have hbe:bodyEv (A.run k) k (.clone sz b) ([V.isl []]++List.replicate (8 - 1) V.undef) h=some (.ret,Env.put ([V.isl []]++List.replicate (8 - 1) V.undef) (some 2) (.sl h.ents.length h.clk 0 0 sz),h.push []):=rfl;rw[hbe]at hev;have ho:Fn.out ⟨1,8,[.tmp 2],.clone sz b⟩ (Env.put ([V.isl []]++List.replicate (8 - 1) V.undef) (some 2) (.sl h.ents.length h.clk 0 0 sz)) (h.push [])=some (.sl h.ents.length h.clk 0 0 sz):=rfl;simp only[ho]at hev;obtain⟨rfl,rfl⟩:=qd hev;have nonnil:∀ (a0:Addr) (cap:Nat),c0= .slice (some a0) 0 cap→c.wp P (Go.bodyPost P fn (fun e w'=>∃c κ J,e= .returned c∧Post tbl ι I h w κ J (h.push []) w'∧RV tbl κ J (.sl h.ents.length h.clk 0 0 sz) c)) ⟨([c0]:List Value).toArray++Array.replicate (fn.ntmps - ([c0]:List Value).toArray.size) Go.undef,[]⟩ w:=by
       intro a0 cap hc0;subst hc0;exact other .islx _ (h.push []) (.sl h.ents.length h.clk 0 0 sz) (.imm (.islx a0 cap)) (by rfl) (by rfl) _ fun cv κ J w' p r=>⟨cv,κ,J,rfl,p,r⟩
      rcases hr0.of_isl with⟨_,a0,cap,hc0,hcap⟩|⟨b',o,cap,sz',vs,hc0,_⟩
      ·cases a0 with
       |some a0=> exact nonnil a0 cap hc0
       |none=>
        rw[hcap rfl]at hc0;subst hc0;refine other .nils _ h .nils (.imm .nils) (by rfl) (by rfl) _ fun cv κ J w' p r=>?_;obtain⟨κ',J',p',r'⟩:=nz_post (md:=some sz) p.st (p.fresh hfr) r rfl;exact⟨cv,κ',J',rfl,p.trans p',r'⟩
      ·exact nonnil _ _ hc0
     ·have hbe:bodyEv (A.run k) k (.clone sz b) ([v0]++List.replicate (8 - 1) V.undef) h=C.ev (A.run k) k (cloneC sz b) ([v0]++List.replicate (8 - 1) V.undef) h:=by
       have h0:Env.at ([v0]++List.replicate (8 - 1) V.undef) 0=v0:=rfl;simp only[bodyEv,h0]
      rw[hbe]at hev;split at hev
      ·cases hev
      ·rename_i x e1 h1 hne hev1
       split at hev
       ·rename_i v hv
        obtain⟨rfl,rfl⟩:=qd hev;refine ev_sound hM.mixed hM.tblOK ih k c (cloneC sz b) hcc2 (cloneC_ok sz b) ι I h w _ _ x e1 _ hs hfr henv hev1 _ fun a' w' κ J p r hd=>?_;refine fin x e1 _ _ hv ?_ a' w' κ J p r hd;cases x with
        |normal=> exact .inl rfl
        |ret=> exact .inr rfl
        |exit i=> exact(hne i rfl).elim
       ·cases hev
      ·cases hev
    |_=> simp[C.isClone]at hcl
   have hcl':af.body.isClone=false:=by simpa using hcl
   have hok:af.body.ok=true:=by
    unfold Fn.okF at hok;split at hok
    ·simp[C.isClone]at hcl'
    ·exact hok
   rw[bodyEv_of hcl']at hev;split at hev
   ·cases hev
   ·rename_i x e1 h1 hne hev1
    split at hev
    ·rename_i v hv
     obtain⟨rfl,rfl⟩:=qd hev;refine ev_sound hM.mixed hM.tblOK ih k c af.body hcc hok ι I h w _ _ x e1 _ hs hfr henv hev1 _ fun a' w' κ J p r hd=>?_;refine fin x e1 _ _ hv ?_ a' w' κ J p r hd;cases x with
     |normal=> exact .inl rfl
     |ret=> exact .inr rfl
     |exit i=> exact(hne i rfl).elim
    ·cases hev
   ·cases hev
  ·cases hev
end Rv
namespace Rv
open Go (IntKind BinOp UnOp Program Value Operand Oper Code TypeId Func World Addr Obj Act Calls execOp)
variable {P:Program}
def tblOf:List (Nat×Nat)→Nat→Option Nat
 | [],_=> none
 |(a,b)::r,f=> if a=f then some b else tblOf r f
theorem tblOf_mem:∀ {ps:List (Nat×Nat)} {f g:Nat},tblOf ps f=some g→(f,g)∈ps
 | [],f,g,h=> by simp[tblOf]at h
 |(a,b)::r,f,g,h=> by
  simp only[tblOf]at h;split at h
  ·rename_i e; cases h; subst e; exact wG ..
  ·exact wI _ (tblOf_mem h)
def FnOK(P:Program)(tbl:Nat→Option Nat)(A:Prog)(x:Nat×Nat):Prop:=
 ∃ fn af, P.funcs[x.1]? = some fn ∧ A x.2 = some af ∧ compFn P tbl fn = some (eraseFn af) ∧ af.okF = true ∧ (fn.name == "runtime.NumGoroutine") = false
theorem models_of{A:Prog}{ps:List (Nat×Nat)}(hm:P.follows .mixedOrders=true)(h:∀x∈ps,FnOK P (tblOf ps) A x):Models P (tblOf ps) A:=by
 refine⟨hm,fun f g hf=>?_,fun f g hf=>?_⟩
 ·obtain⟨fn,af,h1,h2,h3,h4,h5⟩:=h _ (tblOf_mem hf)
  obtain⟨c,hb,_⟩:=compFn_inv h3;exact⟨fn,h1,by rw[hb]; rfl,h5⟩
 ·obtain⟨fn,af,h1,h2,h3,h4,h5⟩:=h _ (tblOf_mem hf)
  exact⟨fn,af,h1,h2,h3,h4⟩
theorem calls_of_run{tbl:Nat→Option Nat}{A:Prog}(hM:Models P tbl A){f g:Nat}(hf:tbl f=some g){k:Nat}{args:List V}{v:V}(hrun:((A.run k g args Heap.empty).map (·.1))=some v)(w:World){cargs:List Value}
  (I:Imm) (hI:∀b o v,I b o=some v→w.cell? ⟨b,o,none⟩=some v) (hr:RIs tbl I args cargs):
  Calls P f cargs.toArray w fun e w'=>∃c κ J,e= .returned c∧RV tbl κ J v c∧Go.RowKit.Below w.heap.size w w':=by
 cases hq:A.run k g args Heap.empty with
 |none=> rw[hq]at hrun; cases hrun
 |some p=>
  obtain⟨r,h'⟩:=p;rw[hq]at hrun;simp only[vI,wB]at hrun;subst hrun;refine(run_ok hM k g args Heap.empty r h' hq f hf Iota.none I w cargs (st_none hI _) (fun _ _ _=> rfl) hr.none).mono ?_;rintro e w' ⟨c,κ,J,rfl,p,q⟩;exact⟨c,κ,J,rfl,q,⟨p.frm.os,p.frm.tape,p.frm.output,p.frm.size,fun b hb=> p.frm.block b hb (fun i ⟨_,_,_,_,_,x,_⟩=> nomatch x)⟩⟩
end Rv
namespace Rv
def Call.le(c d:Call):Prop:=∀g args h r,c g args h=some r→d g args h=some r
theorem callM_mono{c d:Call}(h:Call.le c d){md:Md}{g:Nat}{args:List V}{hp:Heap}{r:V×Heap}(hc:zY c md g args hp=some r):zY d md g args hp=some r:=by
 cases md with
 |plain=> exact h _ _ _ _ hc
 |pure ds=>
  simp only[zY]at hc ⊢;split at hc
  ·cases hc
  ·rename_i as hm
   cases hq:c g as Heap.empty with
   |none=> rw[hq]at hc; cases hc
   |some p=>
    rw[hq]at hc;rw[h _ _ _ _ hq];exact hc
 |thr ds=>
  simp only[zY]at hc ⊢;split at hc
  ·split at hc
   ·rename_i rest cs hg
    split at hc
    ·rename_i hcd
     rw[if_pos hcd];split at hc
     ·rename_i r1 h1 hq
      rw[h _ _ _ _ hq];exact hc
     ·cases hc
    ·cases hc
   ·cases hc
  ·cases hc
theorem opEv_mono{c d:Call}(h:Call.le c d){o:O}{e:Env}{hp:Heap}{r:V×Heap}(hc:opEv c o e hp=some r):opEv d o e hp=some r:=by
 induction o generalizing r with
 |nz md o ih=>
  simp only[opEv]at hc ⊢;split at hc
  ·rename_i v h1 hv; rw[ih hv]; exact hc
  ·cases hc
 |fz o ih=>
  simp only[opEv]at hc ⊢;split at hc
  ·rename_i v h1 hv; rw[ih hv]; exact hc
  ·cases hc
 |callf md g l=> simp only[opEv]at hc ⊢; exact callM_mono h hc
 |callv md f l=>
  simp only[opEv]at hc ⊢;split at hc
  ·rename_i hx; first|exact callM_mono h hc|(rw[hx]; exact callM_mono h hc)
  ·cases hc
 |_=> exact hc
theorem op_mono{c d:Call}(h:Call.le c d){o:Op}{e:Env}{hp:Heap}{r:Env×Heap}(hc:o.ev c e hp=some r):o.ev d e hp=some r:=by
 unfold Op.ev at hc ⊢;split at hc
 ·rename_i hw
  rw[if_pos hw];split at hc
  ·rename_i v h1 ho
   rw[opEv_mono h ho];exact hc
  ·cases hc
 ·rename_i hw
  rw[if_neg hw];exact hc
theorem evOps_mono{c d:Call}(h:Call.le c d):∀ {os:List Op} {e:Env} {hp:Heap} {r:Env×Heap},jG c os e hp=some r→jG d os e hp=some r
 | [],e,hp,r,hc=> hc
 |o::os,e,hp,r,hc=> by
  simp only[jG]at hc ⊢;split at hc
  ·rename_i e1 h1 ho
   rw[op_mono h ho];exact evOps_mono h hc
  ·cases hc
theorem loopN_mono{b b':Env→Heap→Option (Ex×Env×Heap)}(hb:∀e h r,b e h=some r→b' e h=some r)(keep:Bool)(n:Nat):∀ {k k':Nat} {e:Env} {h:Heap} {r:Ex×Env×Heap},k≤k'→loopN b keep n k e h=some r→loopN b' keep n k' e h=some r:=by
 intro k;induction k with
 |zero=> intro k' e h r _ hl; simp[loopN]at hl
 |succ k ih=>
  intro k' e h r hk hl;cases k' with
  |zero=> omega
  |succ k'=>
   simp only[loopN]at hl ⊢;cases hq:b e h with
   |none=> rw[hq]at hl; cases hl
   |some p=>
    rw[hb _ _ _ hq];rw[hq]at hl;obtain⟨x,e1,h1⟩:=p;cases x with
    |normal=> exact ih (by omega) hl
    |exit i=> exact hl
    |ret=> exact hl
theorem ev_mono{c d:Call}(h:Call.le c d){k k':Nat}(hk:k≤k'):∀ (a:C) {e:Env} {hp:Heap} {r:Ex×Env×Heap},C.ev c k a e hp=some r→C.ev d k' a e hp=some r:=by
 intro a;induction a with
 |skip=> intro e hp r hc; exact hc
 |reg ops dr=>
  intro e hp r hc;simp only[C.ev]at hc ⊢;split at hc
  ·rename_i e1 h1 ho
   rw[evOps_mono h ho]; exact hc
  ·cases hc
 |seq a b iha ihb=>
  intro e hp r hc;simp only[C.ev]at hc ⊢;cases hq:C.ev c k a e hp with
  |none=> rw[hq]at hc; cases hc
  |some p=>
   rw[hq]at hc;rw[iha hq];obtain⟨x,e1,h1⟩:=p;cases x with
   |normal=> exact ihb hc
   |exit i=> exact hc
   |ret=> exact hc
 |cond x a b iha ihb=>
  intro e hp r hc;simp only[C.ev]at hc ⊢;split at hc
  ·exact iha hc
  ·exact ihb hc
  ·cases hc
 |block id a iha=>
  intro e hp r hc;simp only[C.ev]at hc ⊢;cases hq:C.ev c k a e hp with
  |none=> rw[hq]at hc; cases hc
  |some p=>
   rw[hq]at hc;rw[iha hq];exact hc
 |loop keep a iha=>
  intro e hp r hc;simp only[C.ev]at hc ⊢;exact loopN_mono (fun e h r hr=> iha hr) keep _ hk hc
 |exit id=> intro e hp r hc; exact hc
 |ret=> intro e hp r hc; exact hc
 |clone sz b=> intro e hp r hc; exact hc
theorem body_mono{c d:Call}(h:Call.le c d){k k':Nat}(hk:k≤k')(a:C){e:Env}{hp:Heap}{r:Ex×Env×Heap}(hc:bodyEv c k a e hp=some r):bodyEv d k' a e hp=some r:=by
 by_cases hcl:a.isClone=true
 ·cases a with
  |clone sz b=>
   unfold bodyEv at hc ⊢;simp only at hc ⊢;split at hc
   ·exact hc
   ·exact ev_mono h hk _ hc
  |_=> simp[C.isClone]at hcl
 ·have hcl':a.isClone=false:=by simpa using hcl
  rw[bodyEv_of hcl']at hc ⊢;exact ev_mono h hk _ hc
theorem zU(A:Prog):∀ {k k':Nat},k≤k'→Call.le (A.run k) (A.run k'):=by
 intro k;induction k with
 |zero=> intro k' _ g args h r hr; simp[Prog.run]at hr
 |succ k ih=>
  intro k' hk g args h r hr;cases k' with
  |zero=> omega
  |succ k'=>
   have hle:=ih (Nat.le_of_succ_le_succ hk);simp only[Prog.run]at hr ⊢;split at hr
   ·cases hr
   ·rename_i f hf
    split at hr
    ·rename_i hlen
     rw[if_pos hlen];cases hq:bodyEv (A.run k) k f.body (args++List.replicate (f.ntmps - f.nargs) V.undef) h with
     |none=> rw[hq]at hr; cases hr
     |some p=>
      rw[hq]at hr;rw[body_mono hle (Nat.le_of_succ_le_succ hk) _ hq];exact hr
    ·cases hr
def W(A:Prog)(c:C)(e:Env)(h:Heap)(Q:Ex→Env→Heap→Prop):Prop:=∃k x e' h',C.ev (A.run k) k c e h=some (x,e',h')∧Q x e' h'
def WO(A:Prog)(os:List Op)(e:Env)(h:Heap)(Q:Env→Heap→Prop):Prop:=∃k e' h',jG (A.run k) os e h=some (e',h')∧Q e' h'
def Ev(A:Prog)(g:Nat)(args:List V)(h:Heap)(r:V)(h':Heap):Prop:=∃k,A.run k g args h=some (r,h')
variable {A:Prog} {e:Env} {h:Heap} {Q:Ex→Env→Heap→Prop}
theorem W.skip(q:Q .normal e h):W A .skip e h Q:=⟨0,_,_,_,rfl,q⟩
theorem W.exit{id:Nat}(q:Q (.exit id) e h):W A (.exit id) e h Q:=⟨0,_,_,_,rfl,q⟩
theorem W.ret(q:Q .ret e h):W A .ret e h Q:=⟨0,_,_,_,rfl,q⟩
theorem W.mono{c:C}{Q':Ex→Env→Heap→Prop}(w:W A c e h Q)(q:∀x e h,Q x e h→Q' x e h):W A c e h Q':=by
 obtain⟨k,x,e',h',h1,h2⟩:=w; exact⟨k,x,e',h',h1,q _ _ _ h2⟩
theorem WO.mono{os:List Op}{Q Q':Env→Heap→Prop}(w:WO A os e h Q)(q:∀e h,Q e h→Q' e h):WO A os e h Q':=by
 obtain⟨k,e',h',h1,h2⟩:=w; exact⟨k,e',h',h1,q _ _ h2⟩
theorem W.reg{os:List Op}{dr:Option (List (List Nat))}(w:WO A os e h (Q .normal)):W A (.reg os dr) e h Q:=by
 obtain⟨k,e',h',h1,h2⟩:=w;exact⟨k,.normal,e',h',by simp only[C.ev,h1],h2⟩
def thenQ(A:Prog)(b:C)(Q:Ex→Env→Heap→Prop):Ex→Env→Heap→Prop
 | .normal,e,h=> W A b e h Q
 |x,e,h=> Q x e h
theorem W.seq{a b:C}(w:W A a e h (thenQ A b Q)):W A (.seq a b) e h Q:=by
 obtain⟨k,x,e',h',h1,h2⟩:=w;cases x with
 |normal=>
  obtain⟨k2,x2,e2,h2',h3,h4⟩:=h2;refine⟨max k k2,x2,e2,h2',?_,h4⟩;have l1:=ev_mono (zU A (yM k k2)) (yM k k2) a h1;have l2:=ev_mono (zU A (yF k k2)) (yF k k2) b h3;simp only[C.ev,l1,l2]
 |exit i=> exact⟨k,_,_,_,by simp only[C.ev,h1],h2⟩
 |ret=> exact⟨k,_,_,_,by simp only[C.ev,h1],h2⟩
theorem W.cond_true{x:X}{a b:C}(hx:x.ev e= .bool true)(w:W A a e h Q):W A (.cond x a b) e h Q:=by
 obtain⟨k,y,e',h',h1,h2⟩:=w;exact⟨k,y,e',h',by simp only[C.ev,hx,h1],h2⟩
theorem W.cond_false{x:X}{a b:C}(hx:x.ev e= .bool false)(w:W A b e h Q):W A (.cond x a b) e h Q:=by
 obtain⟨k,y,e',h',h1,h2⟩:=w;exact⟨k,y,e',h',by simp only[C.ev,hx,h1],h2⟩
theorem W.cond{x:X}{a b:C}{t:Bool}(hx:x.ev e= .bool t)(w1:t=true→W A a e h Q)(w2:t=false→W A b e h Q):W A (.cond x a b) e h Q:=by
 cases t with
 |true=> exact .cond_true hx (w1 rfl)
 |false=> exact .cond_false hx (w2 rfl)
def blockQ(id:Nat)(Q:Ex→Env→Heap→Prop):Ex→Env→Heap→Prop
 | .exit i,e,h=> if i=id then Q .normal e h else Q (.exit i) e h
 |x,e,h=> Q x e h
theorem W.block{id:Nat}{a:C}(w:W A a e h (blockQ id Q)):W A (.block id a) e h Q:=by
 obtain⟨k,x,e',h',h1,h2⟩:=w;cases x with
 |normal=> exact⟨k,_,_,_,by simp only[C.ev,h1],h2⟩
 |ret=> exact⟨k,_,_,_,by simp only[C.ev,h1],h2⟩
 |exit i=>
  simp only[blockQ]at h2;by_cases hi:i=id
  ·rw[if_pos hi]at h2; exact⟨k,.normal,e',h',by simp only[C.ev,h1,if_pos hi],h2⟩
  ·rw[if_neg hi]at h2; exact⟨k,.exit i,e',h',by simp only[C.ev,h1,if_neg hi],h2⟩
theorem W.loop{keep:Bool}{a:C}(I:Nat→Env→Heap→Prop)(n:Nat)(h0:I n e h)
  (round:∀m e1 h1,I m e1 h1→W A a e1 h1 fun x e2 h2=> match x with
   | .normal=>∃m',m' < m∧I m' e2 (h2.cut keep h.ents.length)
   | .exit i=> Q (.exit i) e2 (h2.cut keep h.ents.length)
   | .ret=> Q .ret e2 h2):W A (.loop keep a) e h Q:=by
 suffices∀m e1 h1,I m e1 h1→∃k x e' h',loopN (C.ev (A.run k) k a) keep h.ents.length k e1 h1=some (x,e',h')∧Q x e' h' by
  obtain⟨k,x,e',h',h1,h2⟩:=this n e h h0;exact⟨k,x,e',h',by simp only[C.ev]; exact h1,h2⟩
 intro m;induction m using Nat.strongRecOn with
 |_ m ih=>
  intro e1 h1 hI;obtain⟨k,x,e2,h2,hev,hq⟩:=round m e1 h1 hI;cases x with
  |normal=>
   obtain⟨m',hm',hI'⟩:=hq;obtain⟨k2,x,e',h',h3,h4⟩:=ih m' hm' e2 _ hI';refine⟨max k k2+1,x,e',h',?_,h4⟩;have hle:Call.le (A.run k) (A.run (max k k2+1)):=zU A (Nat.le_succ_of_le (yM k k2));have l1:=ev_mono hle (Nat.le_succ_of_le (yM k k2)) a hev;simp only[loopN,l1];exact loopN_mono (fun e h r hr=> ev_mono (zU A (Nat.le_succ_of_le (yF k k2))) (Nat.le_succ_of_le (yF k k2)) a hr) keep _ (yF k k2) h3
  |exit i=>
   refine⟨k+1,.exit i,e2,_,?_,hq⟩;have l1:=ev_mono (zU A (yY k)) (yY k) a hev;simp only[loopN,l1]
  |ret=>
   refine⟨k+1,.ret,e2,_,?_,hq⟩;have l1:=ev_mono (zU A (yY k)) (yY k) a hev;simp only[loopN,l1]
theorem WO.nil{Q:Env→Heap→Prop}(q:Q e h):WO A [] e h Q:=⟨0,e,h,rfl,q⟩
theorem WO.cons{o:Op}{os:List Op}{Q:Env→Heap→Prop}{e1:Env}{h1:Heap}(ho:o.ev (fun _ _ _=> none) e h=some (e1,h1))(w:WO A os e1 h1 Q):WO A (o::os) e h Q:=by
 obtain⟨k,e',h',h2,h3⟩:=w;refine⟨k,e',h',?_,h3⟩;have:=op_mono (c:=fun _ _ _=> none) (d:=A.run k) (fun g args h r hr=> by cases hr) ho;simp only[jG,this,h2]
theorem WO.pre{os os':List Op}{Q:Env→Heap→Prop}{e1:Env}{h1:Heap}(ho:jG (fun _ _ _=> none) os e h=some (e1,h1))(w:WO A os' e1 h1 Q):WO A (os++os') e h Q:=by
 induction os generalizing e h with
 |nil=>
  simp only[jG,wB,wH]at ho;obtain⟨rfl,rfl⟩:=ho;exact w
 |cons o os ih=>
  simp only[jG]at ho;split at ho
  ·rename_i e2 h2 hop
   exact .cons hop (ih ho)
  ·cases ho
theorem WO.call{dst:Option Nat}{g:Nat}{l:List X}{os:List Op}{Q:Env→Heap→Prop}{r:V}{h1:Heap}(hc:Ev A g (l.map (X.ev e)) h r h1)(w:WO A os (e.put dst r) h1 Q):WO A (⟨dst,.callf .plain g l,none⟩::os) e h Q:=by
 obtain⟨k,hk⟩:=hc;obtain⟨k2,e',h',h2,h3⟩:=w;refine⟨max k k2,e',h',?_,h3⟩;have l1:=zU A (yM k k2) _ _ _ _ hk;have l2:=evOps_mono (zU A (yF k k2)) h2;simp only[jG,Op.ev,Op.wanted,if_true,opEv,zY,l1,l2]
theorem Ev.intro{g:Nat}{args:List V}{r:V}{h':Heap}{f:Fn}(hb:f.body.isClone=false)(hf:A g=some f)(hl:args.length=f.nargs)
  (w:W A f.body (args++List.replicate (f.ntmps - f.nargs) V.undef) h fun x e1 h1=>(∀i,x≠ .exit i)∧f.out e1 h1=some r∧h1=h'):Ev A g args h r h':=by
 obtain⟨k,x,e1,h1,h2,h3,h4,rfl⟩:=w;refine⟨k+1,?_⟩;simp only[Prog.run,hf,if_pos hl,bodyEv_of hb,h2];cases x with
 |exit i=> exact absurd rfl (h3 i)
 |normal=> simp only[h4]
 |ret=> simp only[h4]
end Rv
namespace Rv
open Go (IntKind BinOp UnOp)
theorem WO_nil{A:Prog}{e:Env}{h:Heap}{Q:Env→Heap→Prop}:WO A [] e h Q=Q e h:=
 propext ⟨fun⟨k,e',h',h1,h2⟩=> by simp only[jG,wB,wH]at h1; obtain⟨rfl,rfl⟩:=h1; exact h2,.nil⟩
def stepQ(A:Prog)(dst:Option Nat)(os:List Op)(e:Env)(Q:Env→Heap→Prop):Option (V×Heap)→Prop
 |some (v,h1)=> WO A os (e.put dst v) h1 Q
 |none=> False
section
variable {A:Prog} {dst:Option Nat} {os:List Op} {e:Env} {h:Heap} {Q:Env→Heap→Prop}
end
def ints(l:List Int):List V:=l.map (V.int .i64)
theorem ints_len(l:List Int):(ints l).length=l.length:=by simp[ints]
theorem put_at(e:Env)(d:Nat)(v:V)(t:Nat)(h:t < e.length):(e.put (some d) v).at t=if d=t then v else e.at t:=by
 rw[jh]; simp[h]
theorem put_none(e:Env)(v:V):e.put none v=e:=rfl
end Rv
namespace Rv
open Go (IntKind BinOp UnOp)
open Classical in
noncomputable def res(A:Prog):Call:=fun g args h=> if hx:∃r k,A.run k g args h=some r then some (Classical.choose hx)else none
theorem run_le_res(A:Prog)(k:Nat):Call.le (A.run k) (res A):=by
 intro g args h r hr;have hx:∃r k,A.run k g args h=some r:=⟨r,k,hr⟩;unfold res;rw[dif_pos hx];obtain⟨k',hk'⟩:=vP hx;have l1:=zU A (yM k k') _ _ _ _ hr;have l2:=zU A (yF k k') _ _ _ _ hk';rw[l1]at l2;exact l2.symm
theorem res_run{A:Prog}{g:Nat}{args:List V}{h:Heap}{r:V×Heap}(hr:res A g args h=some r):∃k,A.run k g args h=some r:=by
 unfold res at hr;split at hr
 ·rename_i hx
  obtain⟨k,hk⟩:=vP hx;exact⟨k,by rw[hk]; exact hr⟩
 ·cases hr
theorem Ev.res{A:Prog}{g:Nat}{args:List V}{h h':Heap}{r:V}(hr:Ev A g args h r h'):Rv.res A g args h=some (r,h'):=by
 obtain⟨k,hk⟩:=hr; exact run_le_res A k _ _ _ _ hk
theorem callM_res{A:Prog}{md:Md}{g:Nat}{args:List V}{h:Heap}{r:V×Heap}(hc:zY (res A) md g args h=some r):∃k,zY (A.run k) md g args h=some r:=by
 cases md with
 |plain=> exact res_run hc
 |pure ds=>
  simp only[zY]at hc ⊢;split at hc
  ·cases hc
  ·rename_i as hm
   cases hq:res A g as Heap.empty with
   |none=> rw[hq]at hc; cases hc
   |some p=>
    obtain⟨k,hk⟩:=res_run hq;refine⟨k,?_⟩;rw[hk];rw[hq]at hc;exact hc
 |thr ds=>
  simp only[zY]at hc ⊢;split at hc
  ·split at hc
   ·rename_i rest cs hg
    split at hc
    ·rename_i hcd
     split at hc
     ·rename_i r1 h1 hq
      obtain⟨k,hk⟩:=res_run hq;refine⟨k,?_⟩;rw[if_pos hcd,hk];exact hc
     ·cases hc
    ·cases hc
   ·cases hc
  ·cases hc
theorem opEv_res{A:Prog}{o:O}{e:Env}{h:Heap}{r:V×Heap}(hc:opEv (res A) o e h=some r):∃k,opEv (A.run k) o e h=some r:=by
 induction o generalizing r with
 |nz md o ih=>
  simp only[opEv]at hc ⊢;split at hc
  ·rename_i v h1 hv; obtain⟨k,hk⟩:=ih hv; exact⟨k,by rw[hk]; exact hc⟩
  ·cases hc
 |fz o ih=>
  simp only[opEv]at hc ⊢;split at hc
  ·rename_i v h1 hv; obtain⟨k,hk⟩:=ih hv; exact⟨k,by rw[hk]; exact hc⟩
  ·cases hc
 |callf md g l=> simp only[opEv]at hc ⊢; exact callM_res hc
 |callv md f l=>
  simp only[opEv]at hc ⊢;split at hc
  ·exact callM_res hc
  ·cases hc
 |_=> exact⟨0,hc⟩
section
variable {A:Prog} {dst:Option Nat} {os:List Op} {e:Env} {h:Heap} {Q:Env→Heap→Prop} {R:Ex→Env→Heap→Prop}
theorem op_res{o:Op}{r:Env×Heap}(hc:o.ev (res A) e h=some r):∃k,o.ev (A.run k) e h=some r:=by
 unfold Op.ev at hc ⊢;split at hc
 ·rename_i hw
  split at hc
  ·rename_i v h1 ho
   obtain⟨k,hk⟩:=opEv_res ho;exact⟨k,by rw[if_pos hw,hk]; exact hc⟩
  ·cases hc
 ·rename_i hw
  exact⟨0,by rw[if_neg hw]; exact hc⟩
theorem WO_cons{o:Op}:WO A (o::os) e h Q=match o.ev (res A) e h with|some (e1,h1)=> WO A os e1 h1 Q|none=> False:=by
 apply propext;constructor
 ·rintro⟨k,e',h',h1,h2⟩
  simp only[jG]at h1;cases hq:o.ev (A.run k) e h with
  |none=> rw[hq]at h1; cases h1
  |some p=>
   rw[hq]at h1;rw[op_mono (run_le_res A k) hq];exact⟨k,e',h',h1,h2⟩
 ·intro hw
  cases hq:o.ev (res A) e h with
  |none=> rw[hq]at hw; exact hw.elim
  |some p=>
   rw[hq]at hw;obtain⟨k,e',h',h1,h2⟩:=hw;obtain⟨k2,hk2⟩:=op_res hq;refine⟨max k k2,e',h',?_,h2⟩;simp only[jG,op_mono (zU A (yF k k2)) hk2];exact evOps_mono (zU A (yM k k2)) h1
theorem WO_op{o:O}:WO A (⟨dst,o,none⟩::os) e h Q=stepQ A dst os e Q (opEv (res A) o e h):=by
 rw[WO_cons];simp only[Op.ev,Op.wanted,if_true];cases opEv (res A) o e h <;> rfl
theorem stepQ_some{v:V}{h1:Heap}:stepQ A dst os e Q (some (v,h1))=WO A os (e.put dst v) h1 Q:=rfl
theorem stepQ_none:stepQ A dst os e Q none=False:=rfl
theorem W_skip:W A .skip e h R=R .normal e h:=propext ⟨fun⟨k,x,e',h',h1,h2⟩=> by simp only[C.ev,wB,wH]at h1; obtain⟨rfl,rfl,rfl⟩:=h1; exact h2,.skip⟩
theorem W_exit{i:Nat}:W A (.exit i) e h R=R (.exit i) e h:=propext ⟨fun⟨k,x,e',h',h1,h2⟩=> by simp only[C.ev,wB,wH]at h1; obtain⟨rfl,rfl,rfl⟩:=h1; exact h2,.exit⟩
theorem W_ret:W A .ret e h R=R .ret e h:=propext ⟨fun⟨k,x,e',h',h1,h2⟩=> by simp only[C.ev,wB,wH]at h1; obtain⟨rfl,rfl,rfl⟩:=h1; exact h2,.ret⟩
theorem W_reg{dr:Option (List (List Nat))}:W A (.reg os dr) e h R=WO A os e h (R .normal):=by
 apply propext;refine⟨?_,.reg⟩;rintro⟨k,x,e',h',h1,h2⟩;simp only[C.ev]at h1;split at h1
 ·rename_i e1 h3 ho
  simp only[wB,wH]at h1;obtain⟨rfl,rfl,rfl⟩:=h1;exact⟨k,_,_,ho,h2⟩
 ·cases h1
theorem W_seq{a b:C}:W A (.seq a b) e h R=W A a e h (thenQ A b R):=by
 apply propext;refine⟨?_,.seq⟩;rintro⟨k,x,e',h',h1,h2⟩;simp only[C.ev]at h1;cases hq:C.ev (A.run k) k a e h with
 |none=> rw[hq]at h1; cases h1
 |some p=>
  obtain⟨y,e1,h3⟩:=p;rw[hq]at h1;cases y with
  |normal=> exact⟨k,_,_,_,hq,k,x,e',h',h1,h2⟩
  |exit i=> simp only[wB,wH]at h1; obtain⟨rfl,rfl,rfl⟩:=h1; exact⟨k,_,_,_,hq,h2⟩
  |ret=> simp only[wB,wH]at h1; obtain⟨rfl,rfl,rfl⟩:=h1; exact⟨k,_,_,_,hq,h2⟩
theorem thenQ_normal{b:C}:thenQ A b R .normal e h=W A b e h R:=rfl
theorem thenQ_exit{b:C}{i:Nat}:thenQ A b R (.exit i) e h=R (.exit i) e h:=rfl
theorem thenQ_ret{b:C}:thenQ A b R .ret e h=R .ret e h:=rfl
theorem xK{i:Nat}:blockQ i R .normal e h=R .normal e h:=rfl
theorem blockQ_ret{i:Nat}:blockQ i R .ret e h=R .ret e h:=rfl
theorem xL{i j:Nat}:blockQ i R (.exit j) e h=if j=i then R .normal e h else R (.exit j) e h:=rfl
theorem qj{i:Nat}{a:C}:W A (.block i a) e h R=W A a e h (blockQ i R):=by
 apply propext;refine⟨?_,.block⟩;rintro⟨k,x,e',h',h1,h2⟩;simp only[C.ev]at h1;cases hq:C.ev (A.run k) k a e h with
 |none=> rw[hq]at h1; cases h1
 |some p=>
  obtain⟨y,e1,h3⟩:=p;rw[hq]at h1;refine⟨k,y,e1,h3,hq,?_⟩;cases y with
  |normal=> simp only[wB,wH]at h1; obtain⟨rfl,rfl,rfl⟩:=h1; exact h2
  |ret=> simp only[wB,wH]at h1; obtain⟨rfl,rfl,rfl⟩:=h1; exact h2
  |exit j=>
   simp only at h1;rw[xL];split at h1
   ·rename_i hj; simp only[wB,wH]at h1; obtain⟨rfl,rfl,rfl⟩:=h1; rw[if_pos hj]; exact h2
   ·rename_i hj; simp only[wB,wH]at h1; obtain⟨rfl,rfl,rfl⟩:=h1; rw[if_neg hj]; exact h2
def condQ(A:Prog)(a b:C)(e:Env)(h:Heap)(R:Ex→Env→Heap→Prop):V→Prop
 | .bool t=> if t=true then W A a e h R else W A b e h R
 |_=> False
theorem W_cond{x:X}{a b:C}:W A (.cond x a b) e h R=condQ A a b e h R (x.ev e):=by
 apply propext;constructor
 ·rintro⟨k,y,e',h',h1,h2⟩
  simp only[C.ev]at h1;split at h1
  ·rename_i hx; rw[hx]; exact⟨k,y,e',h',h1,h2⟩
  ·rename_i hx; rw[hx]; exact⟨k,y,e',h',h1,h2⟩
  ·cases h1
 ·intro hc
  cases hx:x.ev e with
  |bool t=>
   rw[hx]at hc;cases t with
   |true=> exact .cond_true hx hc
   |false=> exact .cond_false hx hc
  |_=> rw[hx]at hc; exact hc.elim
theorem condQ_bool{a b:C}{t:Bool}:condQ A a b e h R (.bool t)=if t=true then W A a e h R else W A b e h R:=rfl
end
end Rv
namespace Rv
open Go (IntKind BinOp UnOp)
attribute [simp] W_seq W_reg W_skip W_exit W_ret qj W_cond WO_op WO_nil stepQ_some stepQ_none opEv X.ev put_at xm ints_len thenQ_normal thenQ_exit thenQ_ret xK xL blockQ_ret condQ_bool put_none
@[simp] theorem lenV_isl (xs:List V):lenV (.isl xs)=some xs.length:=rfl
@[simp] theorem lenV_nils:lenV .nils=some 0:=rfl
@[simp] theorem lenV_sl (k u o n s:Nat):lenV (.sl k u o n s)=some n:=rfl
@[simp] theorem cut_true (n:Nat) (h:Heap):h.cut true n=h:=rfl
@[simp] theorem cut_false (n:Nat) (h:Heap):h.cut false n=h.trunc n:=rfl
@[simp] theorem trunc_len (h:Heap):h.trunc h.ents.length=h:=by simp[Heap.trunc]
theorem wrap_i64{n:Int}(h0: -(2^63)≤n)(h1:n < 2^63):Go.IntKind.wrap .i64 n=n:=by
 simp[Go.IntKind.wrap,Go.IntKind.bits,Go.IntKind.signed];omega
@[simp] theorem bin_lss (k:IntKind) (a b:Int):binV 0 .lss (.int k a) (.int k b)=some (.bool (decide (a < b))):=by simp[binV,binI]
@[simp] theorem bin_leq (k:IntKind) (a b:Int):binV 0 .leq (.int k a) (.int k b)=some (.bool (decide (a≤b))):=by simp[binV,binI]
@[simp] theorem bin_gtr (k:IntKind) (a b:Int):binV 0 .gtr (.int k a) (.int k b)=some (.bool (decide (b < a))):=by simp[binV,binI]
@[simp] theorem bin_geq (k:IntKind) (a b:Int):binV 0 .geq (.int k a) (.int k b)=some (.bool (decide (b≤a))):=by simp[binV,binI]
@[simp] theorem bin_neq (k:IntKind) (a b:Int):binV 0 .neq (.int k a) (.int k b)=some (.bool (decide (a≠b))):=by
 simp only[binV,binI,if_true,bne]; congr 2; rw[uD]; simp
@[simp] theorem bin_eql (k:IntKind) (a b:Int):binV 0 .eql (.int k a) (.int k b)=some (.bool (decide (a=b))):=by
 simp only[binV,binI,if_true]; congr 2
@[simp] theorem bin_add (k:IntKind) (a b:Int):binV 0 .add (.int k a) (.int k b)=some (.int k (k.wrap (a+b))):=by simp[binV,binI]
@[simp] theorem bin_sub (k:IntKind) (a b:Int):binV 0 .sub (.int k a) (.int k b)=some (.int k (k.wrap (a - b))):=by simp[binV,binI]
@[simp] theorem bin_mul (k:IntKind) (a b:Int):binV 0 .mul (.int k a) (.int k b)=some (.int k (k.wrap (a*b))):=by simp[binV,binI]
@[simp] theorem bin_quo (k:IntKind) (a b:Int):binV 0 .quo (.int k a) (.int k b)=if b=0 then none else some (.int k (k.wrap (a.tdiv b))):=by simp[binV,binI]
@[simp] theorem bin_rem (k:IntKind) (a b:Int):binV 0 .rem (.int k a) (.int k b)=if b=0 then none else some (.int k (a.tmod b)):=by simp[binV,binI]
@[simp] theorem un_not (b:Bool):unV .not (.bool b)=some (.bool (!b)):=rfl
@[simp] theorem bin1_eql (a b:Bool):binV 1 .eql (.bool a) (.bool b)=some (.bool (a==b)):=rfl
@[simp] theorem bin1_neq (a b:Bool):binV 1 .neq (.bool a) (.bool b)=some (.bool (!(a==b))):=rfl
@[simp] theorem FZ_eq:FZ=16:=rfl
@[simp] theorem frz_int (h:Heap) (f:Nat) (k:IntKind) (n:Int):frz h (f+1) (.int k n)=some (.int k n):=rfl
@[simp] theorem frz_bool (h:Heap) (f:Nat) (b:Bool):frz h (f+1) (.bool b)=some (.bool b):=rfl
@[simp] theorem frz_str (h:Heap) (f:Nat) (l:List Nat):frz h (f+1) (.str l)=some (.str l):=rfl
@[simp] theorem frz_isl (h:Heap) (f:Nat) (l:List V):frz h (f+1) (.isl l)=some (.isl l):=rfl
@[simp] theorem frz_iptr (h:Heap) (f:Nat) (l:List V):frz h (f+1) (.iptr l)=some (.iptr l):=rfl
@[simp] theorem frz_nils (h:Heap) (f:Nat):frz h (f+1) .nils=some (.isl []):=rfl
@[simp] theorem frz_nilp (h:Heap) (f:Nat):frz h (f+1) .nilp=some .nilp:=rfl
@[simp] theorem frz_nilf (h:Heap) (f:Nat):frz h (f+1) .nilf=some .nilf:=rfl
@[simp] theorem frz_agg (h:Heap) (f:Nat) (l:List V):frz h (f+1) (.agg l)=match mapO (frz h f) l with|some ds=> some (.agg ds)|none=> none:=rfl
@[simp] theorem frz_tup (h:Heap) (f:Nat) (l:List V):frz h (f+1) (.tup l)=match mapO (frz h f) l with|some ds=> some (.tup ds)|none=> none:=rfl
@[simp] theorem frz_fn (h:Heap) (f g:Nat) (a c:List V):frz h (f+1) (.fn g a c)=match mapO (frz h f) a with|some es=>(match mapO (frz h f) c with|some ds=> some (.fn g es ds)|none=> none)|none=> none:=rfl
@[simp] theorem frz_ptr (h:Heap) (f key uid off:Nat):frz h (f+1) (.ptr key uid off)=match h.get key uid with|some cs=>(match mapO (frz h f) (cs.drop off)with|some ds=> some (.iptr ds)|none=> none)|none=> none:=rfl
@[simp] theorem frz_sl (h:Heap) (f key uid off len sz:Nat):frz h (f+1) (.sl key uid off len sz)=match h.get key uid with|some cs=>(if off+len*sz≤cs.length∧0 < sz then match mapO (frz h f) ((cs.drop off).take (len*sz))with|some ds=> some (.isl (jn sz len ds))|none=> none else none)|none=> none:=rfl
attribute [simp] mapO
@[simp] theorem refless_int (f:Nat) (k:IntKind) (n:Int):qo (f+1) (.int k n)=true:=rfl
@[simp] theorem refless_bool (f:Nat) (b:Bool):qo (f+1) (.bool b)=true:=rfl
@[simp] theorem refless_str (f:Nat) (l:List Nat):qo (f+1) (.str l)=true:=rfl
@[simp] theorem refless_isl (f:Nat) (l:List V):qo (f+1) (.isl l)=true:=rfl
@[simp] theorem refless_iptr (f:Nat) (l:List V):qo (f+1) (.iptr l)=true:=rfl
@[simp] theorem refless_nils (f:Nat):qo (f+1) .nils=true:=rfl
@[simp] theorem refless_agg (f:Nat) (l:List V):qo (f+1) (.agg l)=l.all (qo f):=rfl
@[simp] theorem refless_fn (f g:Nat) (a c:List V):qo (f+1) (.fn g a c)=(a.all (qo f)&& c.all (qo f)):=rfl
@[simp] theorem refless_ptr (f a b c:Nat):qo (f+1) (.ptr a b c)=false:=rfl
@[simp] theorem bare_int (f:Nat) (ss:List Nat) (k:IntKind) (n:Int):bare (f+1) ss (.int k n)=true:=by cases ss <;> rfl
@[simp] theorem bare_bool (f:Nat) (ss:List Nat) (b:Bool):bare (f+1) ss (.bool b)=true:=by cases ss <;> rfl
@[simp] theorem get_at (ents:List (Nat×Option (List V))) (clk key uid:Nat):(Heap.mk ents clk).get key uid=match ents[key]? with|some (u,some cs)=> if u=uid then some cs else none|_=> none:=rfl
@[simp] theorem push_mk (ents:List (Nat×Option (List V))) (clk:Nat) (cs:List V):(Heap.mk ents clk).push cs=⟨ents++[(clk,some cs)],clk+1⟩:=rfl
@[simp] theorem empty_mk:Heap.empty=⟨[],0⟩:=rfl
@[simp] theorem put_mk (ents:List (Nat×Option (List V))) (clk key uid:Nat) (cs:List V):(Heap.mk ents clk).put key uid cs=⟨ents.set key (uid,some cs),clk⟩:=rfl
@[simp] theorem trunc_mk (ents:List (Nat×Option (List V))) (clk n:Nat):(Heap.mk ents clk).trunc n=⟨ents.take n,clk⟩:=rfl
def guardQ(A:Prog)(dst:Option Nat)(o:O)(w:Bool)(os:List Op)(e:Env)(h:Heap)(Q:Env→Heap→Prop):V→Prop
 | .bool b=> if b=w then stepQ A dst os e Q (opEv (res A) o e h)else WO A os (e.put dst V.undef) h Q
 |_=> WO A os (e.put dst V.undef) h Q
theorem WO_guard{A:Prog}{dst:Option Nat}{o:O}{t:Nat}{w:Bool}{os:List Op}{e:Env}{h:Heap}{Q:Env→Heap→Prop}{b:Bool}(hb:e.at t= .bool b):
  WO A (⟨dst,o,some (t,w)⟩::os) e h Q=if b=w then stepQ A dst os e Q (opEv (res A) o e h)else WO A os (e.put dst V.undef) h Q:=by
 rw[WO_cons];simp only[Op.ev,Op.wanted,hb];by_cases hw:b=w
 ·subst hw
  simp only[beq_self_eq_true,if_true];cases opEv (res A) o e h <;> rfl
 ·have:(b==w)=false:=by simpa using hw
  simp only[this,if_neg hw,wP,if_false]
@[simp] theorem guardQ_bool {A:Prog} {dst:Option Nat} {o:O} {w b:Bool} {os:List Op} {e:Env} {h:Heap} {Q:Env→Heap→Prop}:guardQ A dst o w os e h Q (.bool b)=if b=w then stepQ A dst os e Q (opEv (res A) o e h)else WO A os (e.put dst V.undef) h Q:=rfl
@[simp] theorem WO_guarded {A:Prog} {dst:Option Nat} {o:O} {t:Nat} {w:Bool} {os:List Op} {e:Env} {h:Heap} {Q:Env→Heap→Prop}:WO A (⟨dst,o,some (t,w)⟩::os) e h Q=guardQ A dst o w os e h Q (e.at t):=by
 cases hb:e.at t with
 |bool b=> exact WO_guard hb
 |_=> rw[WO_cons]; simp only[Op.ev,Op.wanted,hb,guardQ]; rfl
noncomputable def ans(A:Prog)(g:Nat)(as:List V):Option V:=match res A g as Heap.empty with|some (r,h1)=> frz h1 FZ r|none=> none
theorem callM_ans{A:Prog}{g:Nat}{args:List V}{h:Heap}:zY (res A) (.pure []) g args h=match mapO (frz h FZ) args with
  |none=> none
  |some as=> match ans A g as with
   |some t=> if(args.all (qo FZ)|| bare FZ [] t)=true then some (t,h)else none
   |none=> none:=by
 simp only[zY,ans];cases mapO (frz h FZ) args with
 |none=> rfl
 |some as=>
  simp only;cases res A g as Heap.empty with
  |none=> rfl
  |some p=> rfl
theorem ans_intro{A:Prog}{g:Nat}{args:List V}{v:V}{f:Fn}(hf:A g=some f)(hl:args.length=f.nargs)(hb:f.body.isClone=false)
  (w:∀e:Env,e.length=args.length+(f.ntmps - f.nargs)→(∀ (i:Nat) v,args[i]? =some v→e.at i=v)→W A f.body e ⟨[],0⟩ fun x e1 h1=>(∀i,x≠ .exit i)∧∃r,f.out e1 h1=some r∧frz h1 FZ r=some v):ans A g args=some v:=by
 have hw:=w (args++List.replicate (f.ntmps - f.nargs) V.undef) (by simp) fun i v hv=> by
  have hlt:=gA hv;simp only[Env.at,gD,gC hlt,hv,yL]
 obtain⟨k,x,e1,h1,h2,h3,r,h4,h5⟩:=hw;have:res A g args Heap.empty=some (r,h1):=Ev.res (.intro hb hf hl ⟨k,x,e1,h1,h2,h3,h4,rfl⟩);unfold ans;rw[this];exact h5
@[simp] theorem cells_int (k:IntKind) (n:Int):(V.int k n).cells=[.int k n]:=rfl
@[simp] theorem cells_bool (b:Bool):(V.bool b).cells=[.bool b]:=rfl
@[simp] theorem cells_isl (l:List V):(V.isl l).cells=[.isl l]:=rfl
@[simp] theorem cells_nils:V.nils.cells=[.nils]:=rfl
@[simp] theorem cells_agg (l:List V):(V.agg l).cells=l:=rfl
@[simp] theorem cells_sl (a b c d e:Nat):(V.sl a b c d e).cells=[.sl a b c d e]:=rfl
@[simp] theorem cells_ptr (a b c:Nat):(V.ptr a b c).cells=[.ptr a b c]:=rfl
@[simp] theorem tupless_int (k:IntKind) (n:Int):(V.int k n).tupless=true:=rfl
@[simp] theorem tupless_bool (b:Bool):(V.bool b).tupless=true:=rfl
@[simp] theorem tupless_isl (l:List V):(V.isl l).tupless=true:=rfl
@[simp] theorem tupless_nils:V.nils.tupless=true:=rfl
@[simp] theorem tupless_agg (l:List V):(V.agg l).tupless=true:=rfl
@[simp] theorem tupless_sl (a b c d e:Nat):(V.sl a b c d e).tupless=true:=rfl
@[simp] theorem ofCells_one (x:V) (l:List V):ze none (x::l)=some x:=rfl
@[simp] theorem ofCells_n (n:Nat) (l:List V):ze (some n) l=if n≤l.length then some (.agg (l.take n))else none:=rfl
end Rv
namespace Rv
open Go (IntKind)
theorem mapO_id{α:Type}{f:α→Option α}{l:List α}(h:∀x∈l,f x=some x):mapO f l=some l:=by
 induction l with
 |nil=> rfl
 |cons x l ih=> simp only[mapO]; rw[h x (wG ..),ih fun y hy=> h y (wI _ hy)]
theorem mapS_id{σ α:Type}{f:α→σ→Option (α×σ)}{l:List α}{s:σ}(h:∀x∈l,∀s,f x s=some (x,s)):mapS f l s=some (l,s):=by
 induction l with
 |nil=> rfl
 |cons x l ih=> simp only[mapS]; rw[h x (wG ..)]; simp only; rw[ih fun y hy=> h y (wI _ hy)]
class Enc (α:Type) where
 enc:α→V
 fz:∀ (a:α) (h:Heap) (f:Nat),frz h (f+4) (enc a)=some (enc a)
 rl:∀ (a:α) (f:Nat),qo (f+4) (enc a)=true
 tk:∀ (a:α) (f:Nat) (h:Heap),take (f+4) [] (enc a) h=some (enc a,h)
open Enc (enc)
theorem take_refless{f:Nat}{v:V}{h:Heap}(hr:qo (f+1) v=true)(hv:∀k u o n s,¬v= .sl k u o n s)(ha:∀cs,¬v= .agg cs)(ht:∀cs,¬v= .tup cs)(hn:¬v= .nils):take (f+1) [] v h=some (v,h):=by
 cases v with
 |sl k u o n s=> exact(hv k u o n s rfl).elim
 |agg cs=> exact(ha cs rfl).elim
 |tup cs=> exact(ht cs rfl).elim
 |nils=> exact(hn rfl).elim
 |int k n=> rfl
 |bool b=> rfl
 |str l=> rfl
 |ptr=> simp[qo]at hr
 |fn g a c=> simp only[take]; rw[if_pos hr]
 |nilp=> simp only[take]; rw[if_pos hr]
 |iptr cs=> simp only[take]; rw[if_pos hr]
 |isl xs=> simp only[take]; rw[if_pos hr]
 |islx=> simp only[take]; rw[if_pos hr]
 |nilf=> simp only[take]; rw[if_pos hr]
theorem take_isl(f:Nat)(l:List V)(h:Heap):take (f+1) [] (.isl l) h=some (.isl l,h):=take_refless rfl (by simp) (by simp) (by simp) (by simp)
instance encInt:Enc Int:=⟨.int .i64,fun _ _ _=> rfl,fun _ _=> rfl,fun _ _ _=> rfl⟩
instance encBool:Enc Bool:=⟨.bool,fun _ _ _=> rfl,fun _ _=> rfl,fun _ _ _=> rfl⟩
instance encList{α:Type}[Enc α]:Enc (List α):=⟨fun l=> .isl (l.map enc),fun _ _ _=> rfl,fun _ _=> rfl,fun _ f h=> take_isl (f+3) _ h⟩
structure U8 where
 val:Int
 deriving DecidableEq
instance encU8:Enc U8:=⟨fun a=> .int .u8 a.val,fun _ _ _=> rfl,fun _ _=> rfl,fun _ _ _=> rfl⟩
structure Str where
 val:List Nat
 deriving DecidableEq
instance encStr:Enc Str:=⟨fun a=> .str a.val,fun _ _ _=> rfl,fun _ _=> rfl,fun _ _ _=> rfl⟩
theorem enc_int(n:Int):enc n=V.int .i64 n:=rfl
theorem enc_bool(b:Bool):enc b=V.bool b:=rfl
theorem enc_list{α:Type}[Enc α](l:List α):enc l=V.isl (l.map enc):=rfl
theorem enc_u8(a:U8):enc a=V.int .u8 a.val:=rfl
theorem enc_str(a:Str):enc a=V.str a.val:=rfl
theorem frzs{α:Type}[Enc α](l:List α)(h:Heap)(f:Nat):mapO (frz h (f+4)) (l.map enc)=some (l.map enc):=mapO_id fun x hx=> by
 obtain⟨a,_,rfl⟩:=wQ.1 hx; exact Enc.fz a h f
theorem qM{α:Type}[Enc α](l:List α)(h:Heap)(f:Nat):mapS (take (f+4) []) (l.map enc) h=some (l.map enc,h):=mapS_id fun x hx s=> by
 obtain⟨a,_,rfl⟩:=wQ.1 hx; exact Enc.tk a f s
def chk(n:Int):Option Int:=if -9223372036854775808≤n∧n < 9223372036854775808 then some n else none
def getI{α:Type}(l:List α)(i:Int):Option α:=if 0≤i then l[i.toNat]? else none
def setI{α:Type}(l:List α)(i:Int)(y:α):Option (List α):=if 0≤i∧i < l.length then some (l.set i.toNat y)else none
def app{α:Type}(b:Nat)(l l':List α):Option (List α):=if(l.length+l'.length)*b≤1099511627776∧l.length+l'.length≤1099511627776 then some (l++l')else none
def appZ{α:Type}(b:Nat)(l:List α)(n:Int)(z:α):Option (List α):=if 0≤n∧n≤1099511627776∧n*b≤1099511627776 then app b l (List.replicate n.toNat z)else none
def mkL{α:Type}(b:Nat)(n:Int)(z:α):Option (List α):=if 0≤n∧n*b≤1099511627776∧n≤1099511627776 then some (List.replicate n.toNat z)else none
def slI{α:Type}(l:List α)(a b:Int):Option (List α):=if 0≤a∧a≤b∧b≤l.length then some ((l.take b.toNat).drop a.toNat)else none
def quoI(a b:Int):Option Int:=if b=0 then none else chk (a.tdiv b)
def remI(a b:Int):Option Int:=if b=0 then none else some (a.tmod b)
theorem bS{α β:Type}{x:Option α}{f:α→Option β}{r:β}(h:x.bind f=some r):∃a,x=some a∧f a=some r:=by
 cases x with
 |none=> cases h
 |some a=> exact⟨a,rfl,h⟩
theorem qu{n m:Int}(h:chk n=some m):IntKind.wrap .i64 n=m:=by
 unfold chk at h; split at h
 ·rename_i hc; cases h; exact wrap_i64 hc.1 hc.2
 ·cases h
theorem quo_w{a b m:Int}(h:quoI a b=some m):¬b=0∧IntKind.wrap .i64 (a.tdiv b)=m:=by
 unfold quoI at h; split at h
 ·cases h
 ·rename_i hb; exact⟨hb,qu h⟩
theorem rem_w{a b m:Int}(h:remI a b=some m):¬b=0∧a.tmod b=m:=by
 unfold remI at h; split at h <;> cases h; rename_i hb; exact⟨hb,rfl⟩
theorem qg{α:Type}{l:List α}{i:Int}{x:α}(h:getI l i=some x):0≤i∧l[i.toNat]? =some x:=by
 unfold getI at h; split at h
 ·rename_i hi; exact⟨hi,h⟩
 ·cases h
theorem qY{α:Type}{l:List α}{i:Int}{x:α}(h:getI l i=some x):i < l.length:=by
 obtain⟨h1,h2⟩:=qg h;have:=gA h2;omega
theorem jf{α:Type}[Enc α]{l:List α}{k:Nat}{x:α}(h:l[k]? =some x):(l.map enc).drop k=enc x::(l.map enc).drop (k+1):=by
 obtain⟨hk,rfl⟩:=gM.1 h;rw[yP (by simpa using hk)];simp
theorem jy{α:Type}[Enc α]{l l2:List α}{i:Int}{y:α}(h:setI l i y=some l2):0≤i∧i < l.length∧i.toNat+1≤l.length∧l2.length=l.length∧(l.map enc).take i.toNat++[enc y]++(l.map enc).drop (i.toNat+1)=l2.map enc:=by
 unfold setI at h; split at h
 ·rename_i hc
  cases h;have hk:i.toNat < l.length:=by omega
  refine⟨hc.1,hc.2,by omega,by simp,?_⟩;rw[List.map_set,List.set_eq_take_append_cons_drop,if_pos (by simpa using hk)];simp
 ·cases h
theorem app_w{α:Type}{b:Nat}{l l' l2:List α}(h:app b l l'=some l2):(l.length+l'.length)*b≤1099511627776∧l.length+l'.length≤1099511627776∧l2=l++l':=by
 unfold app at h; split at h
 ·rename_i hc; cases h; exact⟨hc.1,hc.2,rfl⟩
 ·cases h
def appU(m uid clk:Nat):Nat:=if m=0 then uid else clk
def appC(m clk:Nat):Nat:=if m=0 then clk else clk+1
theorem set_self{α:Type}{l:List α}{i:Nat}{x:α}(h:l[i]? =some x):l.set i x=l:=by
 obtain⟨hi,rfl⟩:=gM.1 h;exact List.set_getElem_self hi
theorem qF{α:Type}[Enc α]{b:Nat}{l l' l2:List α}{n m:Nat}{ds:List V}(g:app b l l'=some l2)(hn:l.length=n)(hm:l'.length=m)(hd:l'.map enc=ds)(ents:List (Nat×Option (List V)))(key uid clk:Nat)
  (he:ents[key]? =some (uid,some (l.map enc))):za 1 b (.sl key uid 0 n 1) m ds ⟨ents,clk⟩=some (.sl key (appU m uid clk) 0 l2.length 1,⟨ents.set key (appU m uid clk,some (l2.map enc)),appC m clk⟩):=by
 obtain⟨h1,h2,rfl⟩:=app_w g;subst hn; subst hm; subst hd;unfold za appU appC;by_cases h0:l'.length=0
 ·have:l'=[]:=wU h0
  subst this;simp only[vH,if_true,uC];rw[set_self he]
 ·rw[if_neg h0,if_neg h0,if_neg h0]
  simp only[get_at,he,if_true];rw[if_pos ⟨by simp,trivial,h1,h2⟩];simp[Heap.renew,wT]
theorem mkL_w{α:Type}[Enc α]{b:Nat}{n:Int}{z:α}{l2:List α}(g:mkL b n z=some l2):0≤n∧n*b≤1099511627776∧n≤1099511627776∧l2.length=n.toNat∧(List.replicate n.toNat [enc z]).flatten=l2.map enc:=by
 unfold mkL at g; split at g
 ·rename_i hc; cases g; exact⟨hc.1,hc.2.1,hc.2.2,by simp,by simp[List.flatten_replicate_singleton]⟩
 ·cases g
theorem appZ_w{α:Type}[Enc α]{b:Nat}{l:List α}{n:Int}{z:α}{l2:List α}(g:appZ b l n z=some l2):0≤n∧n≤1099511627776∧n*b≤1099511627776∧app b l (List.replicate n.toNat z)=some l2∧(List.replicate n.toNat z).length=n.toNat∧(List.replicate n.toNat z).map enc=(List.replicate n.toNat [enc z]).flatten:=by
 unfold appZ at g; split at g
 ·rename_i hc; exact⟨hc.1,hc.2.1,hc.2.2,g,by simp,by simp[List.flatten_replicate_singleton]⟩
 ·cases g
theorem qZ{α:Type}{b:Nat}{l l' l2:List α}(h:app b l l'=some l2):l2.length=l.length+l'.length:=by
 obtain⟨_,_,rfl⟩:=app_w h; simp
theorem slI_w{α:Type}[Enc α]{l l2:List α}{a b:Int}(g:slI l a b=some l2):0≤a∧a≤b∧b≤l.length∧((l.map enc).take b.toNat).drop a.toNat=l2.map enc:=by
 unfold slI at g; split at g
 ·rename_i hc; cases g; exact⟨hc.1,hc.2.1,hc.2.2,by simp⟩
 ·cases g
theorem sliceV_w{α:Type}[Enc α](h1:∀a:α,(enc a).cells=[enc a]){l l2:List α}{a b:Int}(g:slI l a b=some l2){lo hi:Option V}(hlo:(lo=none∧a=0)∨lo=some (.int .i64 a))(hhi:(hi=none∧b=l.length)∨hi=some (.int .i64 b)):
  sliceV 1 (.isl (l.map enc)) lo hi=some (.isl (l2.map enc)):=by
 obtain⟨q1,q2,q3,q4⟩:=slI_w g;have e1:jB (l.map enc).length hi (l.map enc).length=some b.toNat:=by
  rcases hhi with⟨rfl,rfl⟩|rfl
  ·simp[jB]
  ·simp only[jB,intV,vX]; rw[if_pos ⟨by omega,by omega⟩]
 have e2:jB b.toNat lo 0=some a.toNat:=by
  rcases hlo with⟨rfl,rfl⟩|rfl
  ·simp[jB]
  ·simp only[jB,intV]; rw[if_pos ⟨by omega,by omega⟩]
 simp only[sliceV,lenV_isl,e1,e2];rw[if_pos (by simp only[List.all_map,wO]; intro x _; simp[h1]),q4]
def forI{σ τ:Type}(B:Int→σ→Option (σ⊕τ))(D:Int→σ→Option τ):Nat→Int→σ→Option τ
 |0,i,s=> D i s
 |n+1,i,s=> match B i s with
  |some (.inl s')=> forI B D n (i+1) s'
  |some (.inr t)=> some t
  |none=> none
def forR{σ τ:Type}(lo hi:Int)(B:Int→σ→Option (σ⊕τ))(D:Int→σ→Option τ)(s:σ):Option τ:=
 if -9223372036854775808≤lo∧hi < 9223372036854775808 then forI B D (hi - lo).toNat lo s else none
def loopK{σ τ:Type}(step:σ→Option (σ⊕τ)):Nat→σ→Option τ
 |0,_=> none
 |n+1,s=> match step s with
  |some (.inl s')=> loopK step n s'
  |some (.inr t)=> some t
  |none=> none
theorem loopK_mono{σ τ:Type}{step:σ→Option (σ⊕τ)}:∀ {n m:Nat} {s:σ} {t:τ},n≤m→loopK step n s=some t→loopK step m s=some t
 |0,_,_,_,_,h=> by cases h
 |n+1,0,_,_,h,_=> by omega
 |n+1,m+1,s,t,hnm,h=> by
  simp only[loopK]at h ⊢;split at h
  ·exact loopK_mono (by omega) h
  ·exact h
  ·cases h
open Classical in
noncomputable def qA{σ τ:Type}(step:σ→Option (σ⊕τ))(s:σ):Option τ:=if h:∃n t,loopK step n s=some t then some (Classical.choose (vP h))else none
theorem loopW_k{σ τ:Type}{step:σ→Option (σ⊕τ)}{s:σ}{t:τ}(h:qA step s=some t):∃n,loopK step n s=some t:=by
 unfold qA at h;split at h
 ·rename_i hx
  have:=vP (vP hx);cases h;exact⟨_,this⟩
 ·cases h
theorem loopW_of{σ τ:Type}{step:σ→Option (σ⊕τ)}{n:Nat}{s:σ}{t:τ}(h:loopK step n s=some t):qA step s=some t:=by
 have hx:∃n t,loopK step n s=some t:=⟨n,t,h⟩;unfold qA;rw[dif_pos hx];have h2:=vP (vP hx);have h1:=loopK_mono (yM n (Classical.choose hx)) h;have h3:=loopK_mono (yF n (Classical.choose hx)) h2;rw[h1]at h3;exact h3.symm
theorem loopW_eq{σ τ:Type}{step:σ→Option (σ⊕τ)}{s:σ}{t:τ}:qA step s=some t↔(∃s',step s=some (.inl s')∧qA step s'=some t)∨step s=some (.inr t):=by
 constructor
 ·intro h
  obtain⟨n,hn⟩:=loopW_k h;cases n with
  |zero=> cases hn
  |succ n=>
   simp only[loopK]at hn;split at hn
   ·rename_i s' hs; exact .inl ⟨s',hs,loopW_of hn⟩
   ·rename_i t' hs; cases hn; exact .inr hs
   ·cases hn
 ·rintro(⟨s',h1,h2⟩|h1)
  ·obtain⟨n,hn⟩:=loopW_k h2
   exact loopW_of (n:=n+1) (by simp only[loopK,h1]; exact hn)
  ·exact loopW_of (n:=1) (by simp only[loopK,h1])
def loopQ(R:Ex→Env→Heap→Prop)(keep:Bool)(n:Nat):Ex→Env→Heap→Prop
 | .normal,_,_=> False
 | .exit i,e,h=> R (.exit i) e (h.cut keep n)
 | .ret,e,h=> R .ret e h
theorem loopQ_exit(R:Ex→Env→Heap→Prop)(keep:Bool)(n i:Nat)(e:Env)(h:Heap):loopQ R keep n (.exit i) e h=R (.exit i) e (h.cut keep n):=rfl
theorem loopQ_ret(R:Ex→Env→Heap→Prop)(keep:Bool)(n:Nat)(e:Env)(h:Heap):loopQ R keep n .ret e h=R .ret e h:=rfl
def roundQ{σ τ:Type}(R:Ex→Env→Heap→Prop)(Inv:σ→Env→Heap→Prop)(t:τ)(keep:Bool)(n:Nat):σ⊕τ→Ex→Env→Heap→Prop
 | .inl s,x,e,h=> x= .normal∧Inv s e (h.cut keep n)
 | .inr t',x,e,h=> t'=t→loopQ R keep n x e h
theorem zi{A:Prog}{a:C}{keep:Bool}{e:Env}{h:Heap}{R:Ex→Env→Heap→Prop}{σ τ:Type}{step:σ→Option (σ⊕τ)}{s:σ}{t:τ}(hF:qA step s=some t)(N:Nat)(hN:h.ents.length=N)(Inv:σ→Env→Heap→Prop)(hI:Inv s e h)
  (hb:∀s e1 h1,Inv s e1 h1→∀o,step s=some o→W A a e1 h1 (roundQ R Inv t keep N o)):W A (.loop keep a) e h R:=by
 obtain⟨n,hn⟩:=loopW_k hF;subst hN;refine W.loop (fun m e1 h1=>∃s,Inv s e1 h1∧loopK step m s=some t) n ⟨s,hI,hn⟩ ?_;rintro m e1 h1 ⟨s1,hI1,hm⟩;cases m with
 |zero=> cases hm
 |succ m=>
  simp only[loopK]at hm;split at hm
  ·rename_i s' hs
   refine(hb s1 e1 h1 hI1 _ hs).mono ?_;rintro x e2 h2 ⟨rfl,hi⟩;exact⟨m,Nat.lt_succ_self m,s',hi,hm⟩
  ·rename_i t' hs
   cases hm;refine(hb s1 e1 h1 hI1 _ hs).mono ?_;intro x e2 h2 hq;have:=hq rfl;cases x with
   |normal=> exact this.elim
   |exit i=> exact this
   |ret=> exact this
  ·cases hm
theorem qz{A:Prog}{a:C}{keep:Bool}{e:Env}{h:Heap}{R:Ex→Env→Heap→Prop}{σ τ:Type}{B:Int→σ→Option (σ⊕τ)}{D:Int→σ→Option τ}{lo hi:Int}{s:σ}{t:τ}(hF:forR lo hi B D s=some t)(N:Nat)(hN:h.ents.length=N)(Inv:Int→σ→Env→Heap→Prop)(hI:Inv lo s e h)
  (hb:∀i s e1 h1,Inv i s e1 h1→i < hi→IntKind.wrap .i64 (i+1)=i+1→∀o,B i s=some o→W A a e1 h1 (roundQ R (fun s=> Inv (i+1) s) t keep N o))
  (hd:∀i s e1 h1,Inv i s e1 h1→¬i < hi→∀t',D i s=some t'→W A a e1 h1 (fun x e2 h2=> t'=t→loopQ R keep N x e2 h2)):W A (.loop keep a) e h R:=by
 unfold forR at hF;split at hF
 case isFalse=> cases hF
 rename_i hc;subst hN;refine W.loop (fun m e1 h1=>∃i s,lo≤i∧(m=(hi - i).toNat+1)∧Inv i s e1 h1∧forI B D (hi - i).toNat i s=some t) ((hi - lo).toNat+1) ⟨lo,s,yE _,rfl,hI,hF⟩ ?_;rintro m e1 h1 ⟨i,s1,hlo,hm,hI1,hf⟩;by_cases hlt:i < hi
 ·have e0:(hi - i).toNat=(hi - (i+1)).toNat+1:=by omega
  rw[e0]at hf;simp only[forI]at hf;have hw:IntKind.wrap .i64 (i+1)=i+1:=wrap_i64 (by omega) (by omega);split at hf
  ·rename_i s' hs
   refine(hb i s1 e1 h1 hI1 hlt hw _ hs).mono ?_;rintro x e2 h2 ⟨rfl,hi2⟩;exact⟨(hi - (i+1)).toNat+1,by omega,i+1,s',by omega,rfl,hi2,hf⟩
  ·rename_i t' hs
   cases hf;refine(hb i s1 e1 h1 hI1 hlt hw _ hs).mono ?_;intro x e2 h2 hq;have:=hq rfl;cases x with
   |normal=> exact this.elim
   |exit i=> exact this
   |ret=> exact this
  ·cases hf
 ·have e0:(hi - i).toNat=0:=by omega
  rw[e0]at hf;simp only[forI]at hf;refine(hd i s1 e1 h1 hI1 hlt _ hf).mono ?_;intro x e2 h2 hq;have:=hq rfl;cases x with
  |normal=> exact this.elim
  |exit i=> exact this
  |ret=> exact this
def Fin(f:Fn)(v:V)(x:Ex)(e:Env)(h:Heap):Prop:=(∀i,x≠ .exit i)∧(match f.out e h with|some r=> frz h FZ r|none=> none)=some v
theorem qc{f:Fn}{v:V}{e:Env}{h:Heap}(hq:(match f.out e h with|some r=> frz h FZ r|none=> none)=some v):Fin f v .ret e h:=⟨fun i=> by simp,hq⟩
theorem qv{A:Prog}{g:Nat}{args:List V}{v:V}{f:Fn}(hf:A g=some f)(hl:args.length=f.nargs)(hb:f.body.isClone=false)
  (w:∀e:Env,e.length=f.ntmps - f.nargs+args.length→(∀ (i:Nat) v,args[i]? =some v→e.at i=v)→W A f.body e ⟨[],0⟩ (Fin f v)):ans A g args=some v:=by
 refine ans_intro hf hl hb fun e h1 h2=>((w e (by omega) h2).mono ?_);rintro x e1 h1 ⟨h3,h4⟩;refine⟨h3,?_⟩;split at h4
 ·rename_i r hr; exact⟨r,hr,h4⟩
 ·cases h4
class One (α:Type) [Enc α]:Prop where
 one:∀a:α,(enc a).cells=[enc a]
instance:One Int:=⟨fun _=> rfl⟩
instance:One Bool:=⟨fun _=> rfl⟩
instance:One U8:=⟨fun _=> rfl⟩
instance:One Str:=⟨fun _=> rfl⟩
instance {α:Type} [Enc α]:One (List α):=⟨fun _=> rfl⟩
theorem flat_enc{α:Type}[Enc α][One α](l:List α):flat (l.map enc)=l.map enc:=by
 induction l with
 |nil=> rfl
 |cons x l ih=> simp only[flat,vB,vT]at ih ⊢; rw[One.one,ih]; rfl
theorem srcV_enc{α:Type}[Enc α][One α](h:Heap)(l:List α):srcV h 1 (.isl (l.map enc))=some (l.length,l.map enc):=by
 simp only[srcV,flat_enc]; simp
theorem qK{α:Type}[Enc α]{l:List α}{n:Nat}(h:l.length=n):List.take n (l.map enc)=l.map enc:=wT (by simp[h])
theorem qH{α:Type}{l:List α}{n:Nat}(h:l.length=n):n≤l.length:=by omega
theorem qb{α:Type}[Enc α]{l:List α}:List.take l.length (l.map enc)=l.map enc:=qK rfl
theorem qX{α:Type}[Enc α][One α](l:List α)(ents:List (Nat×Option (List V)))(clk:Nat):thaw 16 [1] (.isl (l.map enc)) ⟨ents,clk⟩=some (.sl ents.length clk 0 l.length 1,⟨ents++[(clk,some (l.map enc))],clk+1⟩):=by
 have hm:∀ (xs:List V) (h:Heap),mapS (fun x x_1=> some (x,x_1)) xs h=some (xs,h):=fun xs h=> mapS_id fun x _ s=> rfl;simp only[thaw,flat_enc,hm,vX,Heap.push]
class Scalar (α:Type) [Enc α]:Prop where
 bare:∀ (a:α) (f:Nat) (ss:List Nat),Rv.bare (f+1) ss (enc a)=true
instance:Scalar Int:=⟨fun _ _ ss=> by cases ss <;> rfl⟩
instance:Scalar Bool:=⟨fun _ _ ss=> by cases ss <;> rfl⟩
instance:Scalar U8:=⟨fun _ _ ss=> by cases ss <;> rfl⟩
theorem bare_one{α:Type}[Enc α][One α][Scalar α](l:List α):Rv.bare 16 [1] (.isl (l.map enc))=true:=by
 simp only[Rv.bare,flat_enc,List.all_map,wO];intro x _;exact Scalar.bare x 14 []
noncomputable def tans(A:Prog)(g:Nat)(ds:List Nat)(as:List V):Option V:=match res A g as Heap.empty with|some (r,h1)=>(match take FZ ds r h1 with|some (t,_)=> some t|none=> none)|none=> none
theorem qN{A:Prog}{g s:Nat}{ss:List Nat}{args:List V}{h:Heap}:zY (res A) (.pure (s::ss)) g args h=match mapO (frz h FZ) args with
  |none=> none
  |some as=> match tans A g (s::ss) as with
   |some t=> if(args.all (qo FZ)|| Rv.bare FZ (s::ss) t)=true then thaw FZ (s::ss) t h else none
   |none=> none:=by
 simp only[zY,tans];cases mapO (frz h FZ) args with
 |none=> rfl
 |some as=>
  simp only;cases res A g as Heap.empty with
  |none=> rfl
  |some p=>
   obtain⟨r,h1⟩:=p;simp only;cases take FZ (s::ss) r h1 with
   |none=> rfl
   |some q=> rfl
def TFin(f:Fn)(v:V)(x:Ex)(e:Env)(h:Heap):Prop:=(∀i,x≠ .exit i)∧(match f.out e h with|some r=>(match take FZ [1] r h with|some (t,_)=> some t|none=> none)|none=> none)=some v
theorem jF{f:Fn}{v:V}{e:Env}{h:Heap}(hq:(match f.out e h with|some r=>(match take FZ [1] r h with|some (t,_)=> some t|none=> none)|none=> none)=some v):TFin f v .ret e h:=⟨fun i=> by simp,hq⟩
theorem tans_of{A:Prog}{g:Nat}{args:List V}{v:V}{f:Fn}(hf:A g=some f)(hl:args.length=f.nargs)(hb:f.body.isClone=false)
  (w:∀e:Env,e.length=f.ntmps - f.nargs+args.length→(∀ (i:Nat) v,args[i]? =some v→e.at i=v)→W A f.body e ⟨[],0⟩ (TFin f v)):tans A g [1] args=some v:=by
 have hw:=w (args++List.replicate (f.ntmps - f.nargs) V.undef) (by simp; omega) fun i v hv=> by
  have hlt:=gA hv;simp only[Env.at,gD,gC hlt,hv,yL]
 obtain⟨k,x,e1,h1,h2,h3,h4⟩:=hw;cases hq:f.out e1 h1 with
 |none=> rw[hq]at h4; cases h4
 |some r=>
  rw[hq]at h4;have:res A g args Heap.empty=some (r,h1):=Ev.res (.intro hb hf hl ⟨k,x,e1,h1,h2,h3,hq,rfl⟩);unfold tans;rw[this];exact h4
theorem res_ex{A:Prog}{g:Nat}{args:List V}{v:V}{f:Fn}{h:Heap}{S:Heap→Prop}(hf:A g=some f)(hl:args.length=f.nargs)(hb:f.body.isClone=false)
  (w:∀e:Env,e.length=f.ntmps - f.nargs+args.length→(∀ (i:Nat) v,args[i]? =some v→e.at i=v)→W A f.body e h (fun x e h'=>(∀i,x≠ .exit i)∧f.out e h'=some v∧S h')):∃h',res A g args h=some (v,h')∧S h':=by
 have hw:=w (args++List.replicate (f.ntmps - f.nargs) V.undef) (by simp; omega) fun i v hv=> by
  have hlt:=gA hv;simp only[Env.at,gD,gC hlt,hv,yL]
 obtain⟨k,x,e1,h1,h2,h3,h4,h5⟩:=hw;exact⟨h1,Ev.res (.intro hb hf hl ⟨k,x,e1,h1,h2,h3,h4,rfl⟩),h5⟩
theorem qG{A:Prog}{g:Nat}{args:List V}{h:Heap}:zY (res A) .plain g args h=res A g args h:=rfl
theorem qI{α:Type}(E:List α)(x:α):(E++[x])[E.length]? =some x:=by simp
theorem set_last{α:Type}(E:List α)(x y:α):(E++[x]).set E.length y=E++[y]:=by simp
theorem clone_run{α:Type}[Enc α][One α]{A:Prog}{g b:Nat}(hA:A g=some ⟨1,8,[.tmp 2],.clone 1 b⟩){l l2:List α}(h:app b [] l=some l2):l2=l∧∃u c,res A g [.isl (l.map enc)] Heap.empty=some (.sl 0 u 0 l.length 1,⟨[(u,some (l.map enc))],c⟩):=by
 obtain⟨h1,h2,h3⟩:=app_w h;refine⟨by simpa using h3,?_⟩
 suffices∃u c k,A.run k g [.isl (l.map enc)] Heap.empty=some (.sl 0 u 0 l.length 1,⟨[(u,some (l.map enc))],c⟩) by
  obtain⟨u,c,k,hk⟩:=this;exact⟨u,c,run_le_res A k _ _ _ _ hk⟩
 cases l with
 |nil=> exact⟨0,1,1,by simp only[Prog.run,hA]; rfl⟩
 |cons x xs=>
  have hf:flat (enc x::xs.map enc)=enc x::xs.map enc:=flat_enc (x::xs);simp only[vH,vF,wV]at h1 h2;refine⟨1,2,1,?_⟩;simp only[Prog.run,hA,bodyEv,vB];simp only[Env.at,List.getD,cloneC,C.ev,jG,Op.ev,Op.wanted,opEv,X.ev,Env.put,binV,jX,srcV];simp[za,Heap.get,Heap.push,Heap.renew,Heap.empty,h1,h2,Fn.out,mapO,Rs.ev,Env.at,hf]
theorem clone_tans{α:Type}[Enc α][One α]{A:Prog}{g b:Nat}(hA:A g=some ⟨1,8,[.tmp 2],.clone 1 b⟩){l l2:List α}(h:app b [] l=some l2):tans A g [1] [.isl (l.map enc)]=some (enc l2):=by
 obtain⟨rfl,u,c,hr⟩:=clone_run hA h;unfold tans;rw[hr];simp only[FZ_eq,take_sl,Heap.get,List.getElem?_cons_zero,if_true,vN,yD,wV,vX,wE,true_and,hdOk,List.tail_cons,qb];simp[jn,qM l2 _ 11]; rfl
theorem xD{α β:Type}{f:α→Option β}{a b:List α}{a' b':List β}(h1:mapO f a=some a')(h2:mapO f b=some b'):mapO f (a++b)=some (a'++b'):=by
 induction a generalizing a' with
 |nil=> simp only[mapO,wB]at h1; subst h1; exact h2
 |cons x a ih=>
  simp only[mapO,vL]at h1 ⊢;split at h1
  ·rename_i y hy
   split at h1
   ·rename_i ys hys
    cases h1;simp[ih hys]
   ·cases h1
  ·cases h1
structure CloI1 {α β:Type} [Enc α] [Enc β] (A:Prog) (g:Nat) (fs cs:List V) (P:α→Option β):Prop where
 zf:∀ (x:α) (h:Heap),mapO (frz h 16) (fs++[enc x]++cs)=some (fs++[enc x]++cs)
 zr:∀x:α,(fs++[enc x]++cs).all (qo 16)=true
 ka:∀ (x:α) (r:β),P x=some r→ans A g (fs++[enc x]++cs)=some (enc r)
 z:∀h f,frz h (f+6) (.fn g fs cs)=some (.fn g fs cs)
 r:∀f,qo (f+6) (.fn g fs cs)=true
structure CloI2 {α α' β:Type} [Enc α] [Enc α'] [Enc β] (A:Prog) (g:Nat) (fs cs:List V) (P:α→α'→Option β):Prop where
 zf:∀ (x:α) (y:α') (h:Heap),mapO (frz h 16) (fs++[enc x,enc y]++cs)=some (fs++[enc x,enc y]++cs)
 zr:∀ (x:α) (y:α'),(fs++[enc x,enc y]++cs).all (qo 16)=true
 ka:∀ (x:α) (y:α') (r:β),P x y=some r→ans A g (fs++[enc x,enc y]++cs)=some (enc r)
 z:∀h f,frz h (f+6) (.fn g fs cs)=some (.fn g fs cs)
 r:∀f,qo (f+6) (.fn g fs cs)=true
def Clo1{α β:Type}[Enc α][Enc β](A:Prog)(v:V)(P:α→Option β):Prop:=∃g fs cs,v= .fn g fs cs∧CloI1 A g fs cs P
def Clo2{α α' β:Type}[Enc α][Enc α'][Enc β](A:Prog)(v:V)(P:α→α'→Option β):Prop:=∃g fs cs,v= .fn g fs cs∧CloI2 A g fs cs P
theorem Clo1.fz{α β:Type}[Enc α][Enc β]{A:Prog}{v:V}{P:α→Option β}(c:Clo1 A v P)(h:Heap)(f:Nat):frz h (f+6) v=some v:=by
 obtain⟨g,fs,cs,rfl,hc⟩:=c; exact hc.z h f
theorem Clo1.rl{α β:Type}[Enc α][Enc β]{A:Prog}{v:V}{P:α→Option β}(c:Clo1 A v P)(f:Nat):qo (f+6) v=true:=by
 obtain⟨g,fs,cs,rfl,hc⟩:=c; exact hc.r f
theorem Clo2.fz{α α' β:Type}[Enc α][Enc α'][Enc β]{A:Prog}{v:V}{P:α→α'→Option β}(c:Clo2 A v P)(h:Heap)(f:Nat):frz h (f+6) v=some v:=by
 obtain⟨g,fs,cs,rfl,hc⟩:=c; exact hc.z h f
theorem Clo2.rl{α α' β:Type}[Enc α][Enc α'][Enc β]{A:Prog}{v:V}{P:α→α'→Option β}(c:Clo2 A v P)(f:Nat):qo (f+6) v=true:=by
 obtain⟨g,fs,cs,rfl,hc⟩:=c; exact hc.r f
theorem fn_z{g:Nat}{fs cs:List V}(z1:∀h f,mapO (frz h (f+5)) fs=some fs)(z2:∀h f,mapO (frz h (f+5)) cs=some cs)(h:Heap)(f:Nat):frz h (f+6) (.fn g fs cs)=some (.fn g fs cs):=by
 simp only[frz,z1,z2]
theorem Clo1.of{α β:Type}[Enc α][Enc β]{A:Prog}{g:Nat}{fs cs:List V}{P:α→Option β}(z1:∀h f,mapO (frz h (f+5)) fs=some fs)(z2:∀h f,mapO (frz h (f+5)) cs=some cs)
  (r1:∀f,fs.all (qo (f+5))=true) (r2:∀f,cs.all (qo (f+5))=true) (ka:∀ (x:α) (r:β),P x=some r→ans A g (fs++[enc x]++cs)=some (enc r)):Clo1 A (.fn g fs cs) P:=by
 refine⟨g,fs,cs,rfl,fun x h=>?_,fun x=>?_,ka,fn_z z1 z2,fun f=>?_⟩
 ·exact xD (xD (z1 h 11) (by simp only[mapO]; rw[Enc.fz x h 12])) (z2 h 11)
 ·simp only[List.all_append,wL,List.all_cons,List.all_nil]
  exact⟨⟨r1 11,Enc.rl x 12,trivial⟩,r2 11⟩
 ·simp only[qo,wL]; exact⟨r1 f,r2 f⟩
theorem Clo2.of{α α' β:Type}[Enc α][Enc α'][Enc β]{A:Prog}{g:Nat}{fs cs:List V}{P:α→α'→Option β}(z1:∀h f,mapO (frz h (f+5)) fs=some fs)(z2:∀h f,mapO (frz h (f+5)) cs=some cs)
  (r1:∀f,fs.all (qo (f+5))=true) (r2:∀f,cs.all (qo (f+5))=true) (ka:∀ (x:α) (y:α') (r:β),P x y=some r→ans A g (fs++[enc x,enc y]++cs)=some (enc r)):Clo2 A (.fn g fs cs) P:=by
 refine⟨g,fs,cs,rfl,fun x y h=>?_,fun x y=>?_,ka,fn_z z1 z2,fun f=>?_⟩
 ·exact xD (xD (z1 h 11) (by simp only[mapO]; rw[Enc.fz x h 12,Enc.fz y h 12])) (z2 h 11)
 ·simp only[List.all_append,wL,List.all_cons,List.all_nil]
  exact⟨⟨r1 11,Enc.rl x 12,Enc.rl y 12,trivial⟩,r2 11⟩
 ·simp only[qo,wL]; exact⟨r1 f,r2 f⟩
structure T2 (α β:Type) where
 a:α
 b:β
structure T3 (α β γ:Type) where
 a:α
 b:β
 c:γ
structure T4 (α β γ δ:Type) where
 a:α
 b:β
 c:γ
 d:δ
structure T5 (α β γ δ ε:Type) where
 a:α
 b:β
 c:γ
 d:δ
 e:ε
structure T6 (α β γ δ ε ζ:Type) where
 a:α
 b:β
 c:γ
 d:δ
 e:ε
 f:ζ
class EncR (α:Type) where
 enc:α→V
instance encT2{α β:Type}[Enc α][Enc β]:EncR (T2 α β):=⟨fun x=> .tup [enc x.a,enc x.b]⟩
instance encT3{α β γ:Type}[Enc α][Enc β][Enc γ]:EncR (T3 α β γ):=⟨fun x=> .tup [enc x.a,enc x.b,enc x.c]⟩
instance encT4{α β γ δ:Type}[Enc α][Enc β][Enc γ][Enc δ]:EncR (T4 α β γ δ):=⟨fun x=> .tup [enc x.a,enc x.b,enc x.c,enc x.d]⟩
instance encT5{α β γ δ ε:Type}[Enc α][Enc β][Enc γ][Enc δ][Enc ε]:EncR (T5 α β γ δ ε):=⟨fun x=> .tup [enc x.a,enc x.b,enc x.c,enc x.d,enc x.e]⟩
instance encT6{α β γ δ ε ζ:Type}[Enc α][Enc β][Enc γ][Enc δ][Enc ε][Enc ζ]:EncR (T6 α β γ δ ε ζ):=⟨fun x=> .tup [enc x.a,enc x.b,enc x.c,enc x.d,enc x.e,enc x.f]⟩
end Rv
namespace Rv
open Go (IntKind BinOp UnOp)
theorem condQ_t{A:Prog}{a b:C}{e:Env}{h:Heap}{R:Ex→Env→Heap→Prop}{t:Bool}:condQ A a b e h R (.bool t)=if t=true then W A a e h R else W A b e h R:=rfl
theorem take_map_len{α:Type}(l:List α)(f:α→V):(l.map f).take l.length=l.map f:=wT (by simp)
theorem xp(n:Nat)(l:List V):jn 1 n l=l:=by simp[jn]
theorem ev_t(e:Env)(n:Nat):X.ev e (.t n)=e.at n:=rfl
theorem ev_c(e:Env)(v:V):X.ev e (.c v)=v:=rfl
theorem intV_i(n:Int):intV (.int .i64 n)=some n:=rfl
section
variable {c:Call} {e:Env} {h:Heap}
end
theorem take_int(f:Nat)(k:IntKind)(n:Int)(h:Heap):take (f+1) [] (.int k n) h=some (.int k n,h):=rfl
theorem take_bool(f:Nat)(b:Bool)(h:Heap):take (f+1) [] (.bool b) h=some (.bool b,h):=rfl
theorem take_nils(f:Nat)(h:Heap):take (f+1) [] .nils h=some (.isl [],h):=rfl
theorem take_agg(f:Nat)(cs:List V)(h:Heap):take (f+1) [] (.agg cs) h=match mapS (take f []) cs h with|some (ds,h2)=> some (.agg ds,h2)|none=> none:=rfl
theorem take_sl1(f key uid n:Nat)(ents:List (Nat×Option (List V)))(clk:Nat):take (f+1) [] (.sl key uid 0 n 1) ⟨ents,clk⟩=match(Heap.mk ents clk).get key uid with
  |some cs=> if 0+n*1≤cs.length∧0 < 1∧hdOk [] 1=true then match mapS (take f []) ((cs.drop 0).take (n*1)) ((Heap.mk ents clk).kill key)with|some (ds,h2)=> some (.isl (jn 1 n ds),h2)|none=> none else none
  |none=> none:=by
 exact take_sl ..
theorem srcV_sl(h:Heap)(sz key uid off len s:Nat):srcV h sz (.sl key uid off len s)=match h.get key uid with|some cs=> if off+len*sz≤cs.length∧s=sz then some (len,(cs.drop off).take (len*sz))else none|none=> none:=rfl
theorem srcV_nils(h:Heap)(sz:Nat):srcV h sz .nils=some (0,[]):=rfl
theorem take_sl2(f key uid n:Nat)(ents:List (Nat×Option (List V)))(clk:Nat):take (f+1) [1] (.sl key uid 0 n 1) ⟨ents,clk⟩=match(Heap.mk ents clk).get key uid with
  |some cs=> if 0+n*1≤cs.length∧0 < 1∧hdOk [1] 1=true then match mapS (take f []) ((cs.drop 0).take (n*1)) ((Heap.mk ents clk).kill key)with|some (ds,h2)=> some (.isl (jn 1 n ds),h2)|none=> none else none
  |none=> none:=take_sl ..
theorem hdOk_1:hdOk [1] 1=true:=rfl
theorem kill_mk(ents:List (Nat×Option (List V)))(clk key:Nat):(Heap.mk ents clk).kill key=⟨ents.set key (0,none),clk⟩:=rfl
theorem hdOk_nil(n:Nat):hdOk [] n=true:=rfl
theorem nz_sl(md:Option Nat)(key uid off len sz:Nat)(h:Heap):nzV md (.sl key uid off len sz) h=match h.get key uid with|some cs=>(match mapS (nz1 md) cs h with|some (ds,h1)=> some (.sl key uid off len sz,h1.put key uid ds)|none=> none)|none=> none:=rfl
theorem nz_ptr(md:Option Nat)(key uid off:Nat)(h:Heap):nzV md (.ptr key uid off) h=match h.get key uid with|some cs=>(match mapS (nz1 md) cs h with|some (ds,h1)=> some (.ptr key uid off,h1.put key uid ds)|none=> none)|none=> none:=rfl
theorem nz_agg(md:Option Nat)(cs:List V)(h:Heap):nzV md (.agg cs) h=match mapS (nz1 md) cs h with|some (ds,h1)=> some (.agg ds,h1)|none=> none:=rfl
theorem nz_nils(md:Option Nat)(h:Heap):nzV md .nils h=nz1 md .nils h:=rfl
theorem nz1_some(s:Nat)(ents:List (Nat×Option (List V)))(clk:Nat):nz1 (some s) .nils ⟨ents,clk⟩=some (.sl ents.length clk 0 0 s,⟨ents++[(clk,some [])],clk+1⟩):=rfl
theorem nz1_none(h:Heap):nz1 none .nils h=some (.isl [],h):=rfl
theorem nz1_int(md:Option Nat)(k:IntKind)(n:Int)(h:Heap):nz1 md (.int k n) h=some (.int k n,h):=rfl
theorem nz1_bool(md:Option Nat)(b:Bool)(h:Heap):nz1 md (.bool b) h=some (.bool b,h):=rfl
theorem nz1_isl(md:Option Nat)(l:List V)(h:Heap):nz1 md (.isl l) h=some (.isl l,h):=rfl
theorem nz1_sl(md:Option Nat)(a b c d e:Nat)(h:Heap):nz1 md (.sl a b c d e) h=some (.sl a b c d e,h):=rfl
theorem chunk3_1(a b c:V):jn 3 1 [a,b,c]=[.agg [a,b,c]]:=rfl
theorem chunk3_2(a b c d e f:V):jn 3 2 [a,b,c,d,e,f]=[.agg [a,b,c],.agg [d,e,f]]:=rfl
theorem chunk3_3(a b c d e f g h i:V):jn 3 3 [a,b,c,d,e,f,g,h,i]=[.agg [a,b,c],.agg [d,e,f],.agg [g,h,i]]:=rfl
theorem chunk3_4(a b c d e f g h i j k l:V):jn 3 4 [a,b,c,d,e,f,g,h,i,j,k,l]=[.agg [a,b,c],.agg [d,e,f],.agg [g,h,i],.agg [j,k,l]]:=rfl
theorem take_sl3(f key uid n:Nat)(ents:List (Nat×Option (List V)))(clk:Nat):take (f+1) [] (.sl key uid 0 n 3) ⟨ents,clk⟩=match(Heap.mk ents clk).get key uid with
  |some cs=> if 0+n*3≤cs.length∧0 < 3∧hdOk [] 3=true then match mapS (take f []) ((cs.drop 0).take (n*3)) ((Heap.mk ents clk).kill key)with|some (ds,h2)=> some (.isl (jn 3 n ds),h2)|none=> none else none
  |none=> none:=take_sl ..
theorem guardQ_undef{A:Prog}{dst:Option Nat}{o:O}{w:Bool}{os:List Op}{e:Env}{h:Heap}{Q:Env→Heap→Prop}:guardQ A dst o w os e h Q V.undef=WO A os (e.put dst V.undef) h Q:=rfl
theorem un_neg(n:Int):unV .neg (.int .i64 n)=some (.int .i64 (Go.IntKind.wrap .i64 (0 - n))):=rfl
theorem encT2_eq{α β:Type}[Enc α][Enc β](a:α)(b:β):EncR.enc (T2.mk a b)=V.tup [Enc.enc a,Enc.enc b]:=rfl
theorem encT3_eq{α β γ:Type}[Enc α][Enc β][Enc γ](a:α)(b:β)(c:γ):EncR.enc (T3.mk a b c)=V.tup [Enc.enc a,Enc.enc b,Enc.enc c]:=rfl
theorem encT4_eq{α β γ δ:Type}[Enc α][Enc β][Enc γ][Enc δ](a:α)(b:β)(c:γ)(d:δ):EncR.enc (T4.mk a b c d)=V.tup [Enc.enc a,Enc.enc b,Enc.enc c,Enc.enc d]:=rfl
theorem encT5_eq{α β γ δ ε:Type}[Enc α][Enc β][Enc γ][Enc δ][Enc ε](a:α)(b:β)(c:γ)(d:δ)(e:ε):EncR.enc (T5.mk a b c d e)=V.tup [Enc.enc a,Enc.enc b,Enc.enc c,Enc.enc d,Enc.enc e]:=rfl
theorem encT6_eq{α β γ δ ε ζ:Type}[Enc α][Enc β][Enc γ][Enc δ][Enc ε][Enc ζ](a:α)(b:β)(c:γ)(d:δ)(e:ε)(f:ζ):EncR.enc (T6.mk a b c d e f)=V.tup [Enc.enc a,Enc.enc b,Enc.enc c,Enc.enc d,Enc.enc e,Enc.enc f]:=rfl
theorem take_ptr(f key uid off:Nat)(ents:List (Nat×Option (List V)))(clk:Nat):take (f+1) [] (.ptr key uid off) ⟨ents,clk⟩=match(Heap.mk ents clk).get key uid with|some cs=>(match mapS (take f []) (cs.drop off) ((Heap.mk ents clk).kill key)with|some (ds,h2)=> some (.iptr ds,h2)|none=> none)|none=> none:=rfl
theorem take_tup1(f:Nat)(v:V)(k:IntKind)(x:Int)(h:Heap):take (f+2) [1] (.tup [v,.int k x]) h=match take (f+1) [1] v h with|some (t,h2)=> some (.tup [t,.int k x],h2)|none=> none:=by
 simp only[take,mapS];split <;> rename_i h1 <;> split at h1 <;> simp_all
theorem take_nils2(f:Nat)(h:Heap):take (f+1) [1] .nils h=some (.isl [],h):=rfl
theorem take_iptr(f:Nat)(cs:List V)(h:Heap):take (f+1) [] (.iptr cs) h=some (.iptr cs,h):=rfl
theorem take_str(f:Nat)(l:List Nat)(h:Heap):take (f+1) [] (.str l) h=some (.str l,h):=rfl
theorem qe(f:Fn)(e:Env)(h:Heap):f.out e h=match mapO (Rs.ev e h) f.results with|some [v]=> some v|some vs=> some (.tup vs)|none=> none:=rfl
theorem bars_any(e:Env)(k:Nat):Ld.bars e k .any=false:=rfl
theorem bars_imm(e:Env)(k:Nat):Ld.bars e k .imm=true:=rfl
theorem bars_apart(e:Env)(k s:Nat):Ld.bars e k (.apart s)=match e.at s with| .ptr q _ _=> decide (q=k)|_=> true:=by
 show(match e.at s with| .ptr q _ _=> q==k|_=> true)=_;cases e.at s <;> rfl
theorem lit_int(k:Go.IntKind)(n:Int):(V.int k n).lit=true:=rfl
theorem lit_bool(b:Bool):(V.bool b).lit=true:=rfl
theorem lit_str(l:List Nat):(V.str l).lit=true:=rfl
theorem lit_isl(l:List V):(V.isl l).lit=true:=rfl
theorem RR:type_of%(And.intro @bars_any <|And.intro @bars_imm <|And.intro @bars_apart <|And.intro @lit_int <|And.intro @lit_bool <|And.intro @lit_str <|And.intro @lit_isl <|And.intro @W_seq <|And.intro @W_reg <|And.intro @W_skip <|And.intro @W_exit <|And.intro @W_ret <|And.intro @qj <|And.intro @W_cond <|And.intro @WO_op <|And.intro @WO_nil <|And.intro @WO_guarded <|
 And.intro @stepQ_some <|And.intro @stepQ_none <|And.intro @ev_t <|And.intro @ev_c <|And.intro @put_at <|And.intro @put_none <|And.intro @xm <|And.intro @thenQ_normal <|And.intro @thenQ_exit <|And.intro @thenQ_ret <|
 And.intro @xK <|And.intro @xL <|And.intro @blockQ_ret <|And.intro @condQ_t <|And.intro @guardQ_bool <|And.intro @guardQ_undef <|And.intro @loopQ_exit <|And.intro @loopQ_ret <|
 And.intro @lenV_isl <|And.intro @lenV_nils <|And.intro @lenV_sl <|And.intro @cut_true <|And.intro @cut_false <|And.intro @trunc_mk <|
 And.intro @bin_lss <|And.intro @bin_leq <|And.intro @bin_gtr <|And.intro @bin_geq <|And.intro @bin_neq <|And.intro @bin_eql <|And.intro @bin_add <|And.intro @bin_sub <|And.intro @bin_mul <|And.intro @bin_quo <|And.intro @bin_rem <|
 And.intro @un_not <|And.intro @un_neg <|And.intro @nz_sl <|And.intro @nz_ptr <|And.intro @nz_agg <|And.intro @nz_nils <|And.intro @nz1_some <|And.intro @nz1_none <|And.intro @nz1_int <|And.intro @nz1_bool <|And.intro @nz1_isl <|And.intro @nz1_sl <|And.intro @chunk3_1 <|And.intro @chunk3_2 <|And.intro @chunk3_3 <|And.intro @chunk3_4 <|And.intro @take_sl3 <|And.intro @srcV_enc <|And.intro @qN <|And.intro @bin1_eql <|And.intro @bin1_neq <|And.intro @intV_i <|
 And.intro @get_at <|And.intro @push_mk <|And.intro @put_mk <|And.intro @kill_mk <|And.intro @hdOk_nil <|And.intro @hdOk_1 <|And.intro @srcV_sl <|And.intro @srcV_nils <|
 And.intro @ofCells_one <|And.intro @ofCells_n <|And.intro @cells_int <|And.intro @cells_bool <|And.intro @cells_isl <|And.intro @cells_nils <|And.intro @cells_agg <|And.intro @cells_sl <|And.intro @cells_ptr <|
 And.intro @tupless_int <|And.intro @tupless_bool <|And.intro @tupless_isl <|And.intro @tupless_nils <|And.intro @tupless_agg <|And.intro @tupless_sl <|
 And.intro @xp <|And.intro @take_map_len <|And.intro @callM_ans <|And.intro @enc_int <|And.intro @enc_bool <|And.intro @enc_list <|And.intro @enc_u8 <|And.intro @enc_str <| @FZ_eq):=And.intro @bars_any <|And.intro @bars_imm <|And.intro @bars_apart <|And.intro @lit_int <|And.intro @lit_bool <|And.intro @lit_str <|And.intro @lit_isl <|And.intro @W_seq <|And.intro @W_reg <|And.intro @W_skip <|And.intro @W_exit <|And.intro @W_ret <|And.intro @qj <|And.intro @W_cond <|And.intro @WO_op <|And.intro @WO_nil <|And.intro @WO_guarded <|
 And.intro @stepQ_some <|And.intro @stepQ_none <|And.intro @ev_t <|And.intro @ev_c <|And.intro @put_at <|And.intro @put_none <|And.intro @xm <|And.intro @thenQ_normal <|And.intro @thenQ_exit <|And.intro @thenQ_ret <|
 And.intro @xK <|And.intro @xL <|And.intro @blockQ_ret <|And.intro @condQ_t <|And.intro @guardQ_bool <|And.intro @guardQ_undef <|And.intro @loopQ_exit <|And.intro @loopQ_ret <|
 And.intro @lenV_isl <|And.intro @lenV_nils <|And.intro @lenV_sl <|And.intro @cut_true <|And.intro @cut_false <|And.intro @trunc_mk <|
 And.intro @bin_lss <|And.intro @bin_leq <|And.intro @bin_gtr <|And.intro @bin_geq <|And.intro @bin_neq <|And.intro @bin_eql <|And.intro @bin_add <|And.intro @bin_sub <|And.intro @bin_mul <|And.intro @bin_quo <|And.intro @bin_rem <|
 And.intro @un_not <|And.intro @un_neg <|And.intro @nz_sl <|And.intro @nz_ptr <|And.intro @nz_agg <|And.intro @nz_nils <|And.intro @nz1_some <|And.intro @nz1_none <|And.intro @nz1_int <|And.intro @nz1_bool <|And.intro @nz1_isl <|And.intro @nz1_sl <|And.intro @chunk3_1 <|And.intro @chunk3_2 <|And.intro @chunk3_3 <|And.intro @chunk3_4 <|And.intro @take_sl3 <|And.intro @srcV_enc <|And.intro @qN <|And.intro @bin1_eql <|And.intro @bin1_neq <|And.intro @intV_i <|
 And.intro @get_at <|And.intro @push_mk <|And.intro @put_mk <|And.intro @kill_mk <|And.intro @hdOk_nil <|And.intro @hdOk_1 <|And.intro @srcV_sl <|And.intro @srcV_nils <|
 And.intro @ofCells_one <|And.intro @ofCells_n <|And.intro @cells_int <|And.intro @cells_bool <|And.intro @cells_isl <|And.intro @cells_nils <|And.intro @cells_agg <|And.intro @cells_sl <|And.intro @cells_ptr <|
 And.intro @tupless_int <|And.intro @tupless_bool <|And.intro @tupless_isl <|And.intro @tupless_nils <|And.intro @tupless_agg <|And.intro @tupless_sl <|
 And.intro @xp <|And.intro @take_map_len <|And.intro @callM_ans <|And.intro @enc_int <|And.intro @enc_bool <|And.intro @enc_list <|And.intro @enc_u8 <|And.intro @enc_str <| @FZ_eq
theorem RZ:type_of%(And.intro @frz_int <|And.intro @frz_bool <|And.intro @frz_str <|And.intro @frz_isl <|And.intro @frz_iptr <|And.intro @frz_nils <|And.intro @frz_nilp <|And.intro @frz_nilf <|And.intro @frz_agg <|And.intro @frz_tup <|And.intro @frz_fn <|And.intro @frz_ptr <|And.intro @frz_sl <|
 And.intro @refless_int <|And.intro @refless_bool <|And.intro @refless_str <|And.intro @refless_isl <|And.intro @refless_iptr <|And.intro @refless_nils <|And.intro @refless_agg <|And.intro @refless_fn <|And.intro @refless_ptr <|And.intro @bare_int <|And.intro @bare_bool <|
 And.intro @take_tup1 <|And.intro @take_nils2 <|And.intro @take_int <|And.intro @take_bool <|And.intro @take_nils <|And.intro @take_agg <|And.intro @take_ptr <|And.intro @take_iptr <|And.intro @take_str <|And.intro @take_sl1 <|And.intro @take_sl2 <| @take_isl):=And.intro @frz_int <|And.intro @frz_bool <|And.intro @frz_str <|And.intro @frz_isl <|And.intro @frz_iptr <|And.intro @frz_nils <|And.intro @frz_nilp <|And.intro @frz_nilf <|And.intro @frz_agg <|And.intro @frz_tup <|And.intro @frz_fn <|And.intro @frz_ptr <|And.intro @frz_sl <|
 And.intro @refless_int <|And.intro @refless_bool <|And.intro @refless_str <|And.intro @refless_isl <|And.intro @refless_iptr <|And.intro @refless_nils <|And.intro @refless_agg <|And.intro @refless_fn <|And.intro @refless_ptr <|And.intro @bare_int <|And.intro @bare_bool <|
 And.intro @take_tup1 <|And.intro @take_nils2 <|And.intro @take_int <|And.intro @take_bool <|And.intro @take_nils <|And.intro @take_agg <|And.intro @take_ptr <|And.intro @take_iptr <|And.intro @take_str <|And.intro @take_sl1 <|And.intro @take_sl2 <| @take_isl
theorem RB:type_of%(And.intro @vX.{0,0}<|And.intro @vF.{0}<|And.intro @vH.{0}<|And.intro @vB.{0,0}<|And.intro @List.map_nil.{0,0}<|And.intro @gG.{0,0}<|And.intro @vI.{0,0}<|And.intro @yR.{0,0}<|And.intro @List.getElem?_cons_zero.{0}<|And.intro @List.getElem?_cons_succ.{0}<|
 And.intro @List.set_cons_zero.{0}<|And.intro @List.set_cons_succ.{0}<|And.intro @vL.{0}<|And.intro @yI.{0}<|And.intro @vN.{0}<|And.intro @List.drop_succ_cons.{0}<|And.intro @List.take_succ_cons.{0}<|And.intro @List.take_zero.{0}<|And.intro @List.take_nil.{0}<|And.intro @List.drop_nil.{0}<|
 And.intro @List.all_cons.{0}<|And.intro @List.all_nil.{0}<|And.intro @wV <|And.intro @yD <|And.intro @wE <|And.intro @and_true <|And.intro @true_and <|And.intro @and_self <|And.intro @eq_self.{1}<|And.intro @decide_eq_true_eq <|And.intro @decide_eq_false_iff_not <|
 And.intro @Bool.not_true <|And.intro @Bool.not_false <|And.intro @vV <|And.intro @Bool.and_true <|And.intro @Bool.true_and <|And.intro @Bool.true_or <|And.intro @Bool.or_true <|And.intro @Bool.and_self <|And.intro @ne_eq.{1}<|And.intro @not_true_eq_false <|And.intro @not_false_eq_true <|
 And.intro @decide_true <|And.intro @decide_false <|And.intro @decide_not <|And.intro @Classical.not_not <|And.intro @wB.{0}<|And.intro @Bool.true_eq_false <|And.intro @wP <|And.intro @if_true.{1}<|And.intro @if_false.{1}<|And.intro @vD <|And.intro @encT2_eq <|And.intro @encT3_eq <|And.intro @encT4_eq <|And.intro @encT5_eq <|And.intro @encT6_eq <| @yU):=And.intro @vX.{0,0}<|And.intro @vF.{0}<|And.intro @vH.{0}<|And.intro @vB.{0,0}<|And.intro @List.map_nil.{0,0}<|And.intro @gG.{0,0}<|And.intro @vI.{0,0}<|And.intro @yR.{0,0}<|And.intro @List.getElem?_cons_zero.{0}<|And.intro @List.getElem?_cons_succ.{0}<|
 And.intro @List.set_cons_zero.{0}<|And.intro @List.set_cons_succ.{0}<|And.intro @vL.{0}<|And.intro @yI.{0}<|And.intro @vN.{0}<|And.intro @List.drop_succ_cons.{0}<|And.intro @List.take_succ_cons.{0}<|And.intro @List.take_zero.{0}<|And.intro @List.take_nil.{0}<|And.intro @List.drop_nil.{0}<|
 And.intro @List.all_cons.{0}<|And.intro @List.all_nil.{0}<|And.intro @wV <|And.intro @yD <|And.intro @wE <|And.intro @and_true <|And.intro @true_and <|And.intro @and_self <|And.intro @eq_self.{1}<|And.intro @decide_eq_true_eq <|And.intro @decide_eq_false_iff_not <|
 And.intro @Bool.not_true <|And.intro @Bool.not_false <|And.intro @vV <|And.intro @Bool.and_true <|And.intro @Bool.true_and <|And.intro @Bool.true_or <|And.intro @Bool.or_true <|And.intro @Bool.and_self <|And.intro @ne_eq.{1}<|And.intro @not_true_eq_false <|And.intro @not_false_eq_true <|
 And.intro @decide_true <|And.intro @decide_false <|And.intro @decide_not <|And.intro @Classical.not_not <|And.intro @wB.{0}<|And.intro @Bool.true_eq_false <|And.intro @wP <|And.intro @if_true.{1}<|And.intro @if_false.{1}<|And.intro @vD <|And.intro @encT2_eq <|And.intro @encT3_eq <|And.intro @encT4_eq <|And.intro @encT5_eq <|And.intro @encT6_eq <| @yU
end Rv
namespace Rv
open Go (IntKind)
def arc(k:IntKind)(n:Nat)(l:List Int):List V:=(List.range n).map fun i=> V.int k (l.getD i 0)
structure Ar (k:IntKind) (n:Nat) where
 val:List Int
section
variable {k:IntKind} {n m o:Nat} {l y:List Int} {x:Int}
theorem arc_mem{v:V}(h:v∈arc k n l):∃i,v=V.int k i:=by
 obtain⟨i,_,rfl⟩:=wQ.1 h; exact⟨_,rfl⟩
theorem arc_frz(h:Heap)(f:Nat):mapO (frz h (f+1)) (arc k n l)=some (arc k n l):=mapO_id fun v hv=> by
 obtain⟨i,rfl⟩:=arc_mem hv; rfl
theorem arc_tk(h:Heap)(f:Nat):mapS (take (f+1) []) (arc k n l) h=some (arc k n l,h):=mapS_id fun v hv s=> by
 obtain⟨i,rfl⟩:=arc_mem hv; rfl
theorem arc_rl(f:Nat):(arc k n l).all (qo (f+1))=true:=wO.2 fun v hv=> by
 obtain⟨i,rfl⟩:=arc_mem hv; rfl
def Nums(cs:List V):Prop:=∀v∈cs,∃k i,v=V.int k i
theorem Nums.nil:Nums []:=fun v h=> by cases h
theorem Nums.cons{cs:List V}(h:Nums cs):Nums (V.int k x::cs):=fun v hv=> by
 rcases vA.1 hv with rfl|hv
 ·exact⟨_,_,rfl⟩
 ·exact h v hv
theorem Nums.arc{cs:List V}(h:Nums cs):Nums (arc k n l++cs):=fun v hv=> by
 rcases wN.1 hv with hv|hv
 ·obtain⟨i,rfl⟩:=arc_mem hv; exact⟨_,_,rfl⟩
 ·exact h v hv
theorem Nums.frz{cs:List V}(hc:Nums cs)(h:Heap)(f:Nat):mapO (frz h (f+1)) cs=some cs:=mapO_id fun v hv=> by
 obtain⟨k,i,rfl⟩:=hc v hv; rfl
theorem Nums.tk{cs:List V}(hc:Nums cs)(h:Heap)(f:Nat):mapS (take (f+1) []) cs h=some (cs,h):=mapS_id fun v hv s=> by
 obtain⟨k,i,rfl⟩:=hc v hv; rfl
theorem Nums.rl{cs:List V}(hc:Nums cs)(f:Nat):cs.all (qo (f+1))=true:=wO.2 fun v hv=> by
 obtain⟨k,i,rfl⟩:=hc v hv; rfl
theorem Nums.bare{cs:List V}(hc:Nums cs)(f:Nat)(ss:List Nat):cs.all (bare (f+1) ss)=true:=wO.2 fun v hv=> by
 obtain⟨k,i,rfl⟩:=hc v hv; rfl
end
instance encAr{k:IntKind}{n:Nat}:Enc (Ar k n):=⟨fun a=> .agg (arc k n a.val),fun a h f=> by
 show(match mapO (frz h (f+3)) (arc k n a.val)with|some ds=> some (V.agg ds)|none=> none)=_;rw[arc_frz h (f+2)],fun a f=> arc_rl (f+2),fun a f h=> by
 show(match mapS (take (f+3) []) (arc k n a.val) h with|some (ds,h2)=> some (V.agg ds,h2)|none=> none)=_;rw[arc_tk h (f+2)]⟩
def okA(k:IntKind)(n:Nat)(a:List Int):Prop:=∀i,i < n→(Go.Lit.int k (a.getD i 0)).wf=true
instance (k:IntKind) (n:Nat) (a:List Int):Decidable (okA k n a):=by unfold okA; infer_instance
theorem jM(a b:List Nat):binV 0 .eql (.str a) (.str b)=some (.bool (a==b)):=rfl
end Rv
namespace Rv
open Enc (enc)
abbrev Ks:=Nat→Prop
class Deep (α:Type) [Enc α] where
 rep:Heap→V→α→Ks→Prop
 ds:List Nat
 dep:Nat
 frame:∀ {h h':Heap} {v:V} {a:α} {K:Ks},rep h v a K→(∀k,K k→h'.ents[k]? =h.ents[k]?)→rep h' v a K
 bd:∀ {h:Heap} {v:V} {a:α} {K:Ks} {k:Nat},rep h v a K→K k→k < h.ents.length
 fz:∀ {h:Heap} {v:V} {a:α} {K:Ks},rep h v a K→∀f,frz h (f+dep) v=some (enc a)
 br:∀ (a:α) (f:Nat) (r:List Nat),bare (f+dep) (ds++r) (enc a)=true
 tkr:∀ {h:Heap} {v:V} {a:α} {K:Ks},rep h v a K→∀f (r:List Nat),∃h',take (f+dep) (ds++r) v h=some (enc a,h')∧h'.ents.length=h.ents.length∧∀k,¬K k→h'.ents[k]? =h.ents[k]?
 thr:∀ (a:α) (h:Heap) (f:Nat) (r:List Nat),∃v h',thaw (f+dep) (ds++r) (enc a) h=some (v,h')∧rep h' v a (fun k=> h.ents.length≤k∧k < h'.ents.length)∧h.ents.length≤h'.ents.length∧∀k,k < h.ents.length→h'.ents[k]? =h.ents[k]?
instance deepInt:Deep Int where
 rep h v a K:=v=enc a∧∀k,¬K k
 ds:=[]
 dep:=4
 frame h _:=h
 bd h hk:=(h.2 _ hk).elim
 fz:=by rintro h v a K ⟨rfl,_⟩ f; exact Enc.fz a h f
 br a f r:=by cases r <;> rfl
 tkr:=by rintro h v a K ⟨rfl,_⟩ f r; exact⟨h,by cases r <;> rfl,rfl,fun _ _=> rfl⟩
 thr a h f r:=⟨enc a,h,by cases r <;> rfl,⟨rfl,fun k hk=> by omega⟩,wE _,fun _ _=> rfl⟩
theorem Deep.tk{α:Type}[Enc α][Deep α]{h:Heap}{v:V}{a:α}{K:Ks}(hr:Deep.rep h v a K)(f:Nat):∃h',take (f+Deep.dep α) (Deep.ds α) v h=some (enc a,h')∧h'.ents.length=h.ents.length∧∀k,¬K k→h'.ents[k]? =h.ents[k]?:=by
 have:=Deep.tkr hr f []
 rwa[uC]at this
theorem Deep.th{α:Type}[Enc α][Deep α](a:α)(h:Heap)(f:Nat):∃v h',thaw (f+Deep.dep α) (Deep.ds α) (enc a) h=some (v,h')∧Deep.rep h' v a (fun k=> h.ents.length≤k∧k < h'.ents.length)∧h.ents.length≤h'.ents.length∧∀k,k < h.ents.length→h'.ents[k]? =h.ents[k]?:=by
 have:=Deep.thr a h f []
 rwa[uC]at this
section
variable {α:Type} [Enc α] [Deep α]
def reps(h:Heap):List V→List α→Ks→Prop
 | [],[],K=>∀k,¬K k
 |v::vs,a::l,K=>∃K1 K2:Ks,Deep.rep h v a K1∧reps h vs l K2∧(∀k,K1 k→¬K2 k)∧∀k,K k↔K1 k∨K2 k
 |_,_,_=> False
theorem reps.len{h:Heap}:∀ {vs:List V} {l:List α} {K:Ks},reps h vs l K→vs.length=l.length
 | [],[],_,_=> rfl
 |v::vs,a::l,K,⟨_,_,_,h2,_⟩=> by simp[h2.len]
theorem reps.frame{h h':Heap}:∀ {vs:List V} {l:List α} {K:Ks},reps h vs l K→(∀k,K k→h'.ents[k]? =h.ents[k]?)→reps h' vs l K
 | [],[],_,r,_=> r
 |v::vs,a::l,K,⟨K1,K2,h1,h2,h3,h4⟩,hf=>⟨K1,K2,Deep.frame h1 fun k hk=> hf k ((h4 k).2 (.inl hk)),h2.frame fun k hk=> hf k ((h4 k).2 (.inr hk)),h3,h4⟩
theorem reps.bd{h:Heap}{k:Nat}:∀ {vs:List V} {l:List α} {K:Ks},reps h vs l K→K k→k < h.ents.length
 | [],[],_,r,hk=>(r k hk).elim
 |v::vs,a::l,K,⟨K1,K2,h1,h2,h3,h4⟩,hk=> by
  rcases(h4 k).1 hk with hk|hk
  ·exact Deep.bd h1 hk
  ·exact h2.bd hk
theorem reps.fz{h:Heap}(f:Nat):∀ {vs:List V} {l:List α} {K:Ks},reps h vs l K→mapO (frz h (f+Deep.dep α)) vs=some (l.map enc)
 | [],[],_,_=> rfl
 |v::vs,a::l,K,⟨K1,K2,h1,h2,h3,h4⟩=> by simp only[mapO,Deep.fz h1 f,h2.fz f,vB]
theorem reps.br(f:Nat)(r:List Nat):∀l:List α,(l.map enc).all (bare (f+Deep.dep α) (Deep.ds α++r))=true
 | []=> rfl
 |a::l=> by simp only[vB,List.all_cons,Deep.br a f r,reps.br f r l,Bool.and_self]
theorem reps.tk(f:Nat)(r:List Nat):∀ {vs:List V} {l:List α} {K:Ks} {h:Heap},reps h vs l K→∃h',mapS (take (f+Deep.dep α) (Deep.ds α++r)) vs h=some (l.map enc,h')∧h'.ents.length=h.ents.length∧∀k,¬K k→h'.ents[k]? =h.ents[k]?
 | [],[],_,h,_=>⟨h,rfl,rfl,fun _ _=> rfl⟩
 |v::vs,a::l,K,h,⟨K1,K2,h1,h2,h3,h4⟩=> by
  obtain⟨g,a1,a2,a3⟩:=Deep.tkr h1 f r;have r2:reps g vs l K2:=h2.frame fun k hk=> a3 k fun hk1=> h3 k hk1 hk;obtain⟨g',b1,b2,b3⟩:=r2.tk f r;refine⟨g',by simp only[mapS,a1,b1,vB],by omega,fun k hk=>?_⟩;rw[b3 k fun x=> hk ((h4 k).2 (.inr x)),a3 k fun x=> hk ((h4 k).2 (.inl x))]
theorem reps.th(f:Nat)(r:List Nat):∀ (l:List α) (h:Heap),∃vs h',mapS (thaw (f+Deep.dep α) (Deep.ds α++r)) (l.map enc) h=some (vs,h')∧reps h' vs l (fun k=> h.ents.length≤k∧k < h'.ents.length)∧h.ents.length≤h'.ents.length∧∀k,k < h.ents.length→h'.ents[k]? =h.ents[k]?
 | [],h=>⟨[],h,rfl,fun k hk=> by omega,wE _,fun _ _=> rfl⟩
 |a::l,h=> by
  obtain⟨v,g,a1,a2,a3,a4⟩:=Deep.thr a h f r;obtain⟨vs,g',b1,b2,b3,b4⟩:=reps.th f r l g;refine⟨v::vs,g',by simp only[vB,mapS,a1,b1],⟨_,_,Deep.frame a2 fun k hk=> b4 k hk.2,b2,fun k p q=> by omega,fun k=> by omega⟩,by omega,fun k hk=>?_⟩;rw[b4 k (by omega),a4 k hk]
theorem reps.snoc{h:Heap}{v:V}{a:α}{K1:Ks}(h1:Deep.rep h v a K1):∀ {vs:List V} {l:List α} {K K':Ks},reps h vs l K→(∀k,K k→¬K1 k)→(∀k,K' k↔K k∨K1 k)→reps h (vs++[v]) (l++[a]) K'
 | [],[],K,K',r,hd,he=>⟨K1,fun _=> False,h1,fun _ x=> x,fun _ _ x=> x,fun k=> by rw[he]; have:=r k; simp[this]⟩
 |u::vs,b::l,K,K',⟨A,B,g1,g2,g3,g4⟩,hd,he=> by
  refine⟨A,fun k=> B k∨K1 k,g1,reps.snoc h1 g2 (fun k hk=> hd k ((g4 k).2 (.inr hk))) (fun k=> yA),fun k hk hb=>?_,fun k=> by rw[he,g4,or_assoc]⟩;rcases hb with hb|hb
  ·exact g3 k hk hb
  ·exact hd k ((g4 k).2 (.inl hk)) hb
theorem reps.focus{h:Heap}:∀ {vs:List V} {l:List α} {K:Ks} {i:Nat} (_:reps h vs l K) (hi:i < l.length),∃ (x:V) (K1 K2:Ks),vs[i]? =some x∧Deep.rep h x l[i] K1∧(∀k,K1 k→¬K2 k)∧(∀k,K k↔K1 k∨K2 k)∧
  ∀ (h':Heap) (x':V) (a':α) (K1' K':Ks),Deep.rep h' x' a' K1'→(∀k,K2 k→h'.ents[k]? =h.ents[k]?)→(∀k,K1' k→¬K2 k)→(∀k,K' k↔K1' k∨K2 k)→reps h' (vs.set i x') (l.set i a') K'
 | [],[],K,i,_,hi=> absurd hi (yH _)
 |v::vs,a::l,K,0,⟨A,B,g1,g2,g3,g4⟩,hi=>⟨v,A,B,rfl,g1,g3,g4,fun h' x' a' K1' K' q1 q2 q3 q4=>⟨K1',B,q1,g2.frame q2,q3,q4⟩⟩
 |v::vs,a::l,K,i+1,⟨A,B,g1,g2,g3,g4⟩,hi=> by
  obtain⟨x,K1,K2,f1,f2,f3,f4,f5⟩:=reps.focus g2 (show i < l.length by simpa using hi);refine⟨x,K1,fun k=> A k∨K2 k,f1,f2,fun k hk hb=>?_,fun k=>?_,fun h' x' a' K1' K' q1 q2 q3 q4=>?_⟩
  ·rcases hb with hb|hb
   ·exact g3 k hb ((f4 k).2 (.inl hk))
   ·exact f3 k hk hb
  ·rw[g4,f4]
   constructor
   ·rintro(p|p|p)
    ·exact .inr (.inl p)
    ·exact .inl p
    ·exact .inr (.inr p)
   ·rintro(p|p|p)
    ·exact .inr (.inl p)
    ·exact .inl p
    ·exact .inr (.inr p)
  ·refine⟨A,fun k=> K1' k∨K2 k,Deep.frame g1 fun k hk=> q2 k (.inl hk),f5 h' x' a' K1' _ q1 (fun k hk=> q2 k (.inr hk)) (fun k p q=> q3 k p (.inr q)) (fun k=> yA),fun k hk hb=>?_,fun k=>?_⟩
   ·rcases hb with hb|hb
    ·exact q3 k hb (.inl hk)
    ·exact g3 k hk ((f4 k).2 (.inr hb))
   ·rw[q4]
    constructor
    ·rintro(p|p|p)
     ·exact .inr (.inl p)
     ·exact .inl p
     ·exact .inr (.inr p)
    ·rintro(p|p|p)
     ·exact .inr (.inl p)
     ·exact .inl p
     ·exact .inr (.inr p)
theorem get_of{h:Heap}{key uid:Nat}{vs:List V}(he:h.ents[key]? =some (uid,some vs)):h.get key uid=some vs:=by simp[Heap.get,he]
theorem kill_ne(h:Heap){key k:Nat}(hk:k≠key):(h.kill key).ents[k]? =h.ents[k]?:=by
 simp[Heap.kill,gK,yK hk]
theorem push_lt{h:Heap}{cs:List V}{k:Nat}(hk:k < h.ents.length):(h.push cs).ents[k]? =h.ents[k]?:=by
 simp[Heap.push,gC hk]
theorem push_eq(h:Heap)(cs:List V):(h.push cs).ents[h.ents.length]? =some (h.clk,some cs):=by simp[Heap.push]
def lrep(h:Heap)(v:V)(l:List α)(K:Ks):Prop:=
 (v= .nils∧l=[]∧∀k,¬K k)∨∃key uid vs K',v= .sl key uid 0 l.length 1∧h.ents[key]? =some (uid,some vs)∧reps h vs l K'∧¬K' key∧∀k,K k↔k=key∨K' k
instance deepList[One α]:Deep (List α) where
 rep:=lrep
 ds:=1::Deep.ds α
 dep:=Deep.dep α+1
 frame:=by
  rintro h h' v a K (⟨rfl,rfl,h1⟩|⟨key,uid,vs,K',h1,h2,h3,h4,h5⟩) hf
  ·exact .inl ⟨rfl,rfl,h1⟩
  ·exact .inr ⟨key,uid,vs,K',h1,by rw[hf key ((h5 key).2 (.inl rfl))]; exact h2,h3.frame fun k hk=> hf k ((h5 k).2 (.inr hk)),h4,h5⟩
 bd:=by
  rintro h v a K k (⟨rfl,rfl,h1⟩|⟨key,uid,vs,K',h1,h2,h3,h4,h5⟩) hk
  ·exact(h1 k hk).elim
  ·rcases(h5 k).1 hk with rfl|hk
   ·exact(gA h2)
   ·exact h3.bd hk
 fz:=by
  rintro h v a K (⟨rfl,rfl,h1⟩|⟨key,uid,vs,K',rfl,h2,h3,h4,h5⟩) f
  ·rfl
  ·have hl:=h3.len
   rw[←vC];simp only[frz,get_of h2,yD,wV,vN];rw[if_pos ⟨by omega,by omega⟩,←hl,vK,h3.fz f];simp only[xp]; rfl
 br:=by
  intro a f r;have e:(Enc.enc a:V)= .isl (a.map enc):=rfl;rw[e,←vC,vL];simp only[bare,flat_enc,reps.br]
 tkr:=by
  rintro h v a K (⟨rfl,rfl,h1⟩|⟨key,uid,vs,K',rfl,h2,h3,h4,h5⟩) f r
  ·exact⟨h,rfl,rfl,fun _ _=> rfl⟩
  ·have hl:=h3.len
   have hr:reps (h.kill key) vs a K':=h3.frame fun k hk=> kill_ne h fun e=> h4 (e▸hk);obtain⟨g,b1,b2,b3⟩:=hr.tk f r;refine⟨g,?_,by rw[b2]; simp[Heap.kill],fun k hk=>?_⟩
   ·rw[←vC,vL]
    simp only[take,get_of h2,yD,wV,vN,List.tail_cons];rw[if_pos ⟨by omega,by omega,by simp[hdOk]⟩,←hl,vK,b1];simp only[xp]; rfl
   ·rw[b3 k fun x=> hk ((h5 k).2 (.inr x)),kill_ne h fun e=> hk ((h5 k).2 (.inl e))]
 thr:=by
  intro a h f r;obtain⟨vs,g,b1,b2,b3,b4⟩:=reps.th f r a h;have hl:=b2.len;refine⟨.sl g.ents.length g.clk 0 a.length 1,g.push vs,?_,.inr ⟨g.ents.length,g.clk,vs,_,rfl,push_eq g vs,b2.frame fun k hk=> push_lt hk.2,fun x=> by omega,fun k=>?_⟩,by simp[Heap.push]; omega,fun k hk=>?_⟩
  ·rw[←vC,vL]
   have e:(Enc.enc a:V)= .isl (a.map enc):=rfl;rw[e];simp only[thaw,flat_enc,b1,vX]
  ·simp[Heap.push]; omega
  ·rw[push_lt (by omega),b4 k hk]
theorem reps_int{h:Heap}:∀ {vs:List V} {l:List Int} {K:Ks},reps h vs l K→vs=l.map enc∧∀k,¬K k
 | [],[],_,r=>⟨rfl,r⟩
 |v::vs,a::l,K,⟨A,B,g1,g2,g3,g4⟩=> by
  obtain⟨rfl,g1⟩:=g1;obtain⟨rfl,q⟩:=reps_int g2;exact⟨rfl,fun k hk=>((g4 k).1 hk).elim (g1 k) (q k)⟩
theorem int_reps(h:Heap):∀ (l:List Int),reps h (l.map enc) l (fun _=> False)
 | []=> fun _ x=> x
 |a::l=> show reps h (enc a::l.map enc) (a::l) _ from ⟨fun _=> False,fun _=> False,show enc a=enc a∧_ from ⟨rfl,fun _ x=> x⟩,int_reps h l,fun _ x=> x.elim,fun k=> by simp⟩
theorem row_int{h:Heap}{v:V}{l:List Int}{K:Ks}(r:Deep.rep h v l K):(v= .nils∧l=[]∧∀k,¬K k)∨∃key uid,v= .sl key uid 0 l.length 1∧h.ents[key]? =some (uid,some (l.map enc))∧∀k,K k↔k=key:=by
 rcases r with r|⟨key,uid,vs,K',h1,h2,h3,h4,h5⟩
 ·exact .inl r
 ·obtain⟨rfl,q⟩:=reps_int h3
  exact .inr ⟨key,uid,h1,h2,fun k=> by rw[h5]; simp[q k]⟩
theorem jT{h:Heap}{l:List Int}{K:Ks}{key uid:Nat}(he:h.ents[key]? =some (uid,some (l.map enc)))(hK:∀k,K k↔k=key):Deep.rep h (.sl key uid 0 l.length 1) l K:=
 .inr ⟨key,uid,_,_,rfl,he,int_reps h l,fun x=> x,fun k=> by rw[hK]; simp⟩
theorem zn{E:List (Nat×Option (List V))}{c key u n b:Nat}{vs:List V}{x:V}(he:E[key]? =some (u,some vs))(hl:vs.length=n)(hb:(n+1)*b≤1099511627776)(h1:n+1≤1099511627776):
  za 1 b (.sl key u 0 n 1) 1 [x] ⟨E,c⟩=some (.sl key c 0 (n+1) 1,⟨E.set key (c,some (vs++[x])),c+1⟩):=by
 subst hl;unfold za;simp only[Heap.get,he,wV,yD,vN,vK,Heap.renew];simp[hb,h1]
theorem res_dp{A:Prog}{g:Nat}{args:List V}{f:Fn}{h:Heap}{S:V→Heap→Prop}(hf:A g=some f)(hl:args.length=f.nargs)(hb:f.body.isClone=false)
  (w:∀e:Env,e.length=f.ntmps - f.nargs+args.length→(∀ (i:Nat) v,args[i]? =some v→e.at i=v)→W A f.body e h (fun x e h'=>(∀i,x≠ .exit i)∧∃v,f.out e h'=some v∧S v h')):∃v h',res A g args h=some (v,h')∧S v h':=by
 have hw:=w (args++List.replicate (f.ntmps - f.nargs) V.undef) (by simp; omega) fun i v hv=> by
  have hlt:=gA hv;simp only[Env.at,gD,gC hlt,hv,yL]
 obtain⟨k,x,e1,h1,h2,h3,v,h4,h5⟩:=hw;exact⟨v,h1,Ev.res (.intro hb hf hl ⟨k,x,e1,h1,h2,h3,h4,rfl⟩),h5⟩
theorem deep_round{α:Type}[Enc α][Deep α]{h h1 h2:Heap}{vs:List V}{l:List α}{K K1:Ks}{v:V}{a:α}(g2:reps h vs l K)(r:Deep.rep h1 v a K1)(hK:∀k,K1 k→h.ents.length≤k)
  (old:∀k,k < h.ents.length→h1.ents[k]? =h.ents[k]?) (new:∀k,k < h1.ents.length→K k∨K1 k→h2.ents[k]? =h1.ents[k]?) (hl:h.ents.length≤h1.ents.length):reps h2 (vs++[v]) (l++[a]) (fun k=> K k∨K1 k):=by
 have r1:Deep.rep h2 v a K1:=Deep.frame r fun k q=> new k (Deep.bd r q) (.inr q);have r2:reps h2 vs l K:=g2.frame fun k q=> by
  have hb:=g2.bd q;rw[new k (by omega) (.inl q),old k hb]
 exact reps.snoc r1 r2 (fun k p q=> by have:=g2.bd p; have:=hK k q; omega) (fun k=> yA)
theorem qT{E:List (Nat×Option (List V))}{y z:Nat×Option (List V)}{key k:Nat}(hk:k≠key)(hl:k < E.length):((E++[y]).set key z)[k]? =E[k]?:=by
 rw[gL (yK hk),gC hl]
theorem qr{E:List (Nat×Option (List V))}{z:Nat×Option (List V)}{key:Nat}(hl:key < E.length):(E.set key z)[key]? =some z:=by
 rw[gQ hl]
theorem ans_of_deep{α:Type}[Enc α][Deep α]{A:Prog}{g:Nat}{args:List V}{r:α}(hd:Deep.dep α≤16)(h:∃v h',res A g args Heap.empty=some (v,h')∧∃K,Deep.rep h' v r K):ans A g args=some (Enc.enc r):=by
 obtain⟨v,h',h1,K,h2⟩:=h;unfold ans;rw[h1];have:=Deep.fz h2 (16 - Deep.dep α);rw[show 16 - Deep.dep α+Deep.dep α=FZ from by unfold FZ; omega]at this;exact this
theorem jw{α:Type}[Enc α][Deep α]{A:Prog}{g:Nat}{args:List V}{r:α}(hd:Deep.dep α≤16)(h:∃v h',res A g args Heap.empty=some (v,h')∧∃K,Deep.rep h' v r K):tans A g (Deep.ds α) args=some (Enc.enc r):=by
 obtain⟨v,h',h1,K,h2⟩:=h;obtain⟨h2',q,_⟩:=Deep.tk h2 (16 - Deep.dep α);rw[show 16 - Deep.dep α+Deep.dep α=FZ from by unfold FZ; omega]at q;unfold tans;rw[h1];simp only[q]
theorem thaw_deep{α:Type}[Enc α][Deep α](hd:Deep.dep α≤16)(a:α)(h:Heap):∃v h',thaw 16 (Deep.ds α) (Enc.enc a) h=some (v,h')∧Deep.rep h' v a (fun k=> h.ents.length≤k∧k < h'.ents.length)∧h.ents.length≤h'.ents.length∧∀k,k < h.ents.length→h'.ents[k]? =h.ents[k]?:=by
 have:=Deep.th a h (16 - Deep.dep α)
 rwa[show 16 - Deep.dep α+Deep.dep α=16 from by omega]at this
theorem rep_one{α:Type}[Enc α][Deep α][One α]{h:Heap}{v:V}{l:List α}{K:Ks}(r:Deep.rep h v l K):v.cells=[v]∧v.tupless=true:=by
 rcases r with⟨rfl,_⟩|⟨key,uid,vs,K',rfl,_⟩<;> exact⟨rfl,rfl⟩
theorem rep_at{α:Type}[Enc α][Deep α][One α]{h:Heap}{key uid:Nat}{vs:List V}{l:List α}{K:Ks}(g1:h.ents[key]? =some (uid,some vs))(g2:reps h vs l K)(g3:¬K key):Deep.rep h (.sl key uid 0 l.length 1) l (fun k=> k=key∨K k):=
 .inr ⟨key,uid,vs,K,rfl,g1,g2,g3,fun k=> yA⟩
theorem qt{E:List (Nat×Option (List V))}{z:Nat×Option (List V)}{key k:Nat}(hk:k≠key):(E.set key z)[k]? =E[k]?:=by
 rw[gL (yK hk)]
theorem tans_agg{A:Prog}{g:Nat}{args:List V}{h':Heap}{p:Int}{d:List Int}{m:V}{ms:List (List (List Int))}{K:Ks}(h1:res A g args Heap.empty=some (V.agg [V.int .i64 p,V.isl (d.map Enc.enc),m],h'))(h2:Deep.rep h' m ms K):
  tans A g [1,1,1] args=some (V.agg [V.int .i64 p,V.iptr [V.isl (d.map Enc.enc)],V.isl (ms.map Enc.enc)]):=by
 unfold tans;rw[h1];obtain⟨h3,q,_⟩:=Deep.tk h2 8;have q':take 15 [1,1,1] m h'=some (V.isl (ms.map Enc.enc),h3):=q;have r:qo 15 (V.isl (d.map Enc.enc))=true:=Enc.rl d 11;have q2:take 15 [1,1,1] (V.isl (d.map Enc.enc)) h'=some (V.iptr [V.isl (d.map Enc.enc)],h'):=by simp only[take,r,if_true]
 have q3:take 15 [1,1,1] (V.int .i64 p) h'=some (V.int .i64 p,h'):=rfl;have q4:mapS (take 15 [1,1,1]) [V.int .i64 p,V.isl (d.map Enc.enc),m] h'=some ([V.int .i64 p,V.iptr [V.isl (d.map Enc.enc)],V.isl (ms.map Enc.enc)],h3):=by simp only[mapS,q',q2,q3]
 show(match(match mapS (take 15 [1,1,1]) [V.int .i64 p,V.isl (d.map Enc.enc),m] h' with|some (ds,h2)=> some (V.agg ds,h2)|none=> none)with|some (t,_)=> some t|none=> none)=_;rw[q4]
theorem thaw_agg(p:Int)(d:List Int)(ms:List (List (List Int)))(h:Heap):∃m h',thaw 16 [1,1,1] (V.agg [V.int .i64 p,V.iptr [V.isl (d.map Enc.enc)],V.isl (ms.map Enc.enc)]) h=some (V.agg [V.int .i64 p,V.isl (d.map Enc.enc),m],h')∧
  Deep.rep h' m ms (fun k=> h.ents.length≤k∧k < h'.ents.length)∧h.ents.length≤h'.ents.length∧∀k,k < h.ents.length→h'.ents[k]? =h.ents[k]?:=by
 obtain⟨m,h',t1,t2⟩:=Deep.th ms h 8;have t1':thaw 15 [1,1,1] (V.isl (ms.map Enc.enc)) h=some (m,h'):=t1;refine⟨m,h',?_,t2⟩;have q2:thaw 15 [1,1,1] (V.iptr [V.isl (d.map Enc.enc)]) h=some (V.isl (d.map Enc.enc),h):=rfl;have q3:thaw 15 [1,1,1] (V.int .i64 p) h=some (V.int .i64 p,h):=rfl;have q4:mapS (thaw 15 [1,1,1]) [V.int .i64 p,V.iptr [V.isl (d.map Enc.enc)],V.isl (ms.map Enc.enc)] h=some ([V.int .i64 p,V.isl (d.map Enc.enc),m],h'):=by simp only[mapS,t1',q2,q3]
 show(match mapS (thaw 15 [1,1,1]) [V.int .i64 p,V.iptr [V.isl (d.map Enc.enc)],V.isl (ms.map Enc.enc)] h with|some (ds,h2)=> some (V.agg ds,h2)|none=> none)=_;rw[q4]
theorem rep_focus{α:Type}[Enc α][Deep α][One α]{h:Heap}{v:V}{l:List α}{K:Ks}{i:Nat}{a:α}(r:Deep.rep h v l K)(hi:l[i]? =some a):∃key uid vs x,∃K1:Ks,v= .sl key uid 0 l.length 1∧h.ents[key]? =some (uid,some vs)∧vs[i]? =some x∧vs.length=l.length∧Deep.rep h x a K1∧(∀k,K1 k→K k)∧
  ∀ (h':Heap) (a':α),Deep.rep h' x a' K1→(∀k,K k→¬K1 k→h'.ents[k]? =h.ents[k]?)→Deep.rep h' v (l.set i a') K:=by
 obtain⟨hlt,rfl⟩:=gM.1 hi;rcases r with⟨rfl,rfl,_⟩|⟨key,uid,vs,K',rfl,h2,h3,h4,h5⟩
 ·exact absurd hlt (by simp)
 ·obtain⟨x,K1,K2,f1,f2,f3,f4,f5⟩:=h3.focus hlt
  refine⟨key,uid,vs,x,K1,rfl,h2,f1,h3.len,f2,fun k hk=>(h5 k).2 (.inr ((f4 k).2 (.inl hk))),fun h' a' q1 q2=>?_⟩;have hx:vs.set i x=vs:=set_self f1;have hr:=f5 h' x a' K1 K' q1 (fun k hk=> q2 k ((h5 k).2 (.inr ((f4 k).2 (.inr hk)))) (fun p=> f3 k p hk)) f3 f4;rw[hx]at hr;have e:(V.sl key uid 0 l.length 1)= .sl key uid 0 (l.set i a').length 1:=by rw[vW]
  rw[e];refine .inr ⟨key,uid,vs,K',rfl,?_,hr,h4,h5⟩;rw[q2 key ((h5 key).2 (.inl rfl)) (fun p=> h4 ((f4 key).2 (.inl p)))];exact h2
theorem rep_len{α:Type}[Enc α][Deep α][One α]{h:Heap}{v:V}{l:List α}{K:Ks}(r:Deep.rep h v l K):lenV v=some l.length:=by
 rcases r with⟨rfl,rfl,_⟩|⟨key,uid,vs,K',rfl,_⟩<;> rfl
theorem qw{vs:List V}{i:Nat}{x:V}(h:vs[i]? =some x):ze none (vs.drop i)=some x:=by
 obtain⟨hlt,rfl⟩:=gM.1 h;rw[yP hlt]; rfl
theorem setI_eq{α:Type}{l l2:List α}{i:Int}{y:α}(h:setI l i y=some l2):l2=l.set i.toNat y:=by
 unfold setI at h; split at h
 ·cases h; rfl
 ·cases h
theorem take_ints(f:Nat)(ss:List Nat)(h:Heap):∀l:List Int,mapS (take (f+1) ss) (l.map enc) h=some (l.map enc,h)
 | []=> rfl
 |a::l=> by
  have q:take (f+1) ss (enc a) h=some (enc a,h):=by cases ss <;> rfl
  simp only[vB,mapS,q,take_ints f ss h l]
end
end Rv
namespace Rv
open Enc (enc)
structure DV where
 {α:Type}
 [e:Enc α]
 [d:Deep α]
 a:α
def DV.enc(x:DV):V:= @Enc.enc x.α x.e x.a
def DV.rep(x:DV)(h:Heap)(v:V)(K:Ks):Prop:= @Deep.rep x.α x.e x.d h v x.a K
def DV.ds(x:DV):List Nat:= @Deep.ds x.α x.e x.d
def DV.dep(x:DV):Nat:= @Deep.dep x.α x.e x.d
def repF(h:Heap):List V→List DV→Ks→Prop
 | [],[],K=>∀k,¬K k
 |v::vs,a::l,K=>∃K1 K2:Ks,a.rep h v K1∧repF h vs l K2∧(∀k,K1 k→¬K2 k)∧∀k,K k↔K1 k∨K2 k
 |_,_,_=> False
theorem DV.frame{x:DV}{h h':Heap}{v:V}{K:Ks}(r:x.rep h v K)(hf:∀k,K k→h'.ents[k]? =h.ents[k]?):x.rep h' v K:= @Deep.frame x.α x.e x.d _ _ _ _ _ r hf
theorem DV.bd{x:DV}{h:Heap}{v:V}{K:Ks}{k:Nat}(r:x.rep h v K)(hk:K k):k < h.ents.length:= @Deep.bd x.α x.e x.d _ _ _ _ _ r hk
theorem repF.len{h:Heap}:∀ {vs:List V} {l:List DV} {K:Ks},repF h vs l K→vs.length=l.length
 | [],[],_,_=> rfl
 |v::vs,a::l,K,⟨_,_,_,h2,_⟩=> by simp[h2.len]
theorem repF.frame{h h':Heap}:∀ {vs:List V} {l:List DV} {K:Ks},repF h vs l K→(∀k,K k→h'.ents[k]? =h.ents[k]?)→repF h' vs l K
 | [],[],_,r,_=> r
 |v::vs,a::l,K,⟨K1,K2,h1,h2,h3,h4⟩,hf=>⟨K1,K2,DV.frame (x:=a) h1 fun k hk=> hf k ((h4 k).2 (.inl hk)),h2.frame fun k hk=> hf k ((h4 k).2 (.inr hk)),h3,h4⟩
theorem repF.bd{h:Heap}{k:Nat}:∀ {vs:List V} {l:List DV} {K:Ks},repF h vs l K→K k→k < h.ents.length
 | [],[],_,r,hk=>(r k hk).elim
 |v::vs,a::l,K,⟨K1,K2,h1,h2,h3,h4⟩,hk=> by
  rcases(h4 k).1 hk with hk|hk
  ·exact DV.bd (x:=a) h1 hk
  ·exact h2.bd hk
def Fits(ss:List Nat)(B:Nat)(l:List DV):Prop:=∀d∈l,(∃r,ss=d.ds++r)∧d.dep≤B
theorem Fits.tail{ss:List Nat}{B:Nat}{a:DV}{l:List DV}(h:Fits ss B (a::l)):Fits ss B l:=fun d hd=> h d (wI _ hd)
theorem Fits.more{ss:List Nat}{B:Nat}{l:List DV}(h:Fits ss B l)(r:List Nat):Fits (ss++r) B l:=fun d hd=>⟨by obtain⟨q,hq⟩:=(h d hd).1; exact⟨q++r,by rw[hq,vE]⟩,(h d hd).2⟩
theorem repF.fz{h:Heap}{ss:List Nat}{B:Nat}(f:Nat):∀ {vs:List V} {l:List DV} {K:Ks},Fits ss B l→repF h vs l K→mapO (frz h (f+B)) vs=some (l.map DV.enc)
 | [],[],_,_,_=> rfl
 |v::vs,a::l,K,hb,⟨K1,K2,h1,h2,h3,h4⟩=> by
  have hB:=(hb a wG).2;have q:frz h (f+B) v=some a.enc:=by
   have:= @Deep.fz a.α a.e a.d _ _ _ _ h1 (f+B - a.dep);rw[show f+B - a.dep+ @Deep.dep a.α a.e a.d=f+B from by have:a.dep= @Deep.dep a.α a.e a.d:=rfl; omega]at this;exact this
  simp only[mapO,q,h2.fz f hb.tail,vB]
theorem repF.br{ss:List Nat}{B:Nat}(f:Nat):∀ {l:List DV},Fits ss B l→(l.map DV.enc).all (bare (f+B) ss)=true
 | [],_=> rfl
 |a::l,hb=> by
  obtain⟨⟨r,hr⟩,hB⟩:=hb a wG;have q:bare (f+B) ss a.enc=true:=by
   have:= @Deep.br a.α a.e a.d a.a (f+B - a.dep) r;rw[show f+B - a.dep+ @Deep.dep a.α a.e a.d=f+B from by have:a.dep= @Deep.dep a.α a.e a.d:=rfl; omega]at this;rw[hr]; exact this
  simp only[vB,List.all_cons,q,repF.br f hb.tail,Bool.and_self]
theorem repF.tk{ss:List Nat}{B:Nat}(f:Nat):∀ {vs:List V} {l:List DV} {K:Ks} {h:Heap},Fits ss B l→repF h vs l K→∃h',mapS (take (f+B) ss) vs h=some (l.map DV.enc,h')∧h'.ents.length=h.ents.length∧∀k,¬K k→h'.ents[k]? =h.ents[k]?
 | [],[],_,h,_,_=>⟨h,rfl,rfl,fun _ _=> rfl⟩
 |v::vs,a::l,K,h,hb,⟨K1,K2,h1,h2,h3,h4⟩=> by
  obtain⟨⟨r,hr⟩,hB⟩:=hb a wG;obtain⟨g,a1,a2,a3⟩:= @Deep.tkr a.α a.e a.d _ _ _ _ h1 (f+B - a.dep) r;rw[show f+B - a.dep+ @Deep.dep a.α a.e a.d=f+B from by have:a.dep= @Deep.dep a.α a.e a.d:=rfl; omega]at a1;have a1':take (f+B) ss v h=some (a.enc,g):=by rw[hr]; exact a1
  have r2:repF g vs l K2:=h2.frame fun k hk=> a3 k fun hk1=> h3 k hk1 hk;obtain⟨g',b1,b2,b3⟩:=r2.tk f hb.tail;refine⟨g',by simp only[mapS,a1',b1,vB],by omega,fun k hk=>?_⟩;rw[b3 k fun x=> hk ((h4 k).2 (.inr x)),a3 k fun x=> hk ((h4 k).2 (.inl x))]
theorem repF.th{ss:List Nat}{B:Nat}(f:Nat):∀ (l:List DV) (h:Heap),Fits ss B l→∃vs h',mapS (thaw (f+B) ss) (l.map DV.enc) h=some (vs,h')∧repF h' vs l (fun k=> h.ents.length≤k∧k < h'.ents.length)∧h.ents.length≤h'.ents.length∧∀k,k < h.ents.length→h'.ents[k]? =h.ents[k]?
 | [],h,_=>⟨[],h,rfl,fun k hk=> by omega,wE _,fun _ _=> rfl⟩
 |a::l,h,hb=> by
  obtain⟨⟨r,hr⟩,hB⟩:=hb a wG;obtain⟨v,g,a1,a2,a3,a4⟩:= @Deep.thr a.α a.e a.d a.a h (f+B - a.dep) r;rw[show f+B - a.dep+ @Deep.dep a.α a.e a.d=f+B from by have:a.dep= @Deep.dep a.α a.e a.d:=rfl; omega]at a1;have a1':thaw (f+B) ss a.enc h=some (v,g):=by rw[hr]; exact a1
  obtain⟨vs,g',b1,b2,b3,b4⟩:=repF.th f l g hb.tail;have a2':a.rep g v (fun k=> h.ents.length≤k∧k < g.ents.length):=a2;refine⟨v::vs,g',by simp only[vB,mapS,a1',b1],⟨_,_,DV.frame (x:=a) a2' fun k hk=> b4 k hk.2,b2,fun k p q=> by omega,fun k=> by omega⟩,by omega,fun k hk=>?_⟩;rw[b4 k (by omega),a4 k hk]
abbrev deepRec{α:Type}[Enc α](fs:α→List DV)(he:∀x,(enc x:V)= .agg ((fs x).map DV.enc))(s:Nat)(ss:List Nat)(B:Nat)(hB:∀x,Fits (s::ss) B (fs x)):Deep α where
 rep h v a K:=∃vs,v= .agg vs∧repF h vs (fs a) K
 ds:=s::ss
 dep:=B+1
 frame:=by
  rintro h h' v a K ⟨vs,rfl,r⟩ hf;exact⟨vs,rfl,r.frame hf⟩
 bd:=by
  rintro h v a K k ⟨vs,rfl,r⟩ hk;exact r.bd hk
 fz:=by
  rintro h v a K ⟨vs,rfl,r⟩ f;rw[←vC];simp only[frz,r.fz f (hB a),he]
 br:=by
  intro a f r;rw[←vC,he];simp only[bare];exact repF.br f ((hB a).more r)
 tkr:=by
  rintro h v a K ⟨vs,rfl,q⟩ f r;obtain⟨h',g1,g2,g3⟩:=q.tk f ((hB a).more r);refine⟨h',?_,g2,g3⟩;rw[←vC,vL];simp only[take];rw[←vL,g1,he]
 thr:=by
  intro a h f r;obtain⟨vs,h',g1,g2,g3,g4⟩:=repF.th f (fs a) h ((hB a).more r);refine⟨.agg vs,h',?_,⟨vs,rfl,g2⟩,g3,g4⟩;rw[←vC,he,vL];simp only[thaw];rw[←vL,g1]
section
variable {α:Type} (E:List α) (x y z w:α)
theorem ge2a:(E++[x]++[y])[E.length]? =some x:=by simp
theorem ge2b:(E++[x]++[y])[E.length+1]? =some y:=by simp
theorem le1:(E++[x]).length=E.length+1:=by simp
end
theorem frz_row{E:List (Nat×Option (List V))}{c key uid:Nat}{l:List Int}(h:E[key]? =some (uid,some (l.map enc))):frz ⟨E,c⟩ 16 (.sl key uid 0 l.length 1)=some (.isl (l.map enc)):=
 Deep.fz (α:=List Int) (K:=fun k=> k=key) (jT h fun k=> yA) 11
theorem thawD{α:Type}[Enc α][Deep α](hd:Deep.dep α≤16)(a:α)(h:Heap):∃v h',∃K:Ks,thaw 16 (Deep.ds α) (Enc.enc a) h=some (v,h')∧Deep.rep h' v a K∧(∀k,K k→h.ents.length≤k∧k < h'.ents.length)∧h.ents.length≤h'.ents.length∧∀k,k < h.ents.length→h'.ents[k]? =h.ents[k]?:=by
 obtain⟨v,h',h1,h2,h3⟩:=thaw_deep hd a h;exact⟨v,h',_,h1,h2,fun k q=> q,h3⟩
theorem append_rep{α:Type}[Enc α][Deep α][One α]{E:List (Nat×Option (List V))}{c b:Nat}{v x:V}{l l2:List α}{a:α}{K K1:Ks}(r:Deep.rep ⟨E,c⟩ v l K)(r1:Deep.rep ⟨E,c⟩ x a K1)(hd:∀k,K k→¬K1 k)(g:app b l [a]=some l2):
  ∃v' E' c',∃K':Ks,za 1 b v 1 [x] ⟨E,c⟩=some (v',⟨E',c'⟩)∧Deep.rep ⟨E',c'⟩ v' l2 K'∧(∀k,K' k→K k∨K1 k∨E.length≤k)∧(∀k,k < E.length→¬K k→E'[k]? =E[k]?)∧E.length≤E'.length:=by
 obtain⟨q1,q2,rfl⟩:=app_w g;simp only[vF,vH,wV]at q1 q2;rcases r with⟨rfl,rfl,hK⟩|⟨key,uid,vs,K0,rfl,g1,g2,g3,g4⟩
 ·simp only[vH,wV]at q1 q2
  refine⟨.sl E.length c 0 1 1,E++[(c,some [x])],c+1,fun k=> k=E.length∨K1 k,?_,?_,fun k q=> q.elim (fun q=> .inr (.inr (by omega))) (fun q=> .inr (.inl q)),fun k q _=> gC q,by simp⟩
  ·simp[za,Heap.push]; omega
  ·have rr:reps ⟨E++[(c,some [x])],c+1⟩ [x] [a] K1:=⟨K1,fun _=> False,Deep.frame r1 fun k q=> gC (Deep.bd r1 q),fun _ y=> y,fun _ _ y=> y,fun k=> by simp⟩
   exact rep_at (l:=[a]) (qI _ _) rr (fun q=> by have:=Deep.bd r1 q; simp at this)
 ·have hk:key < E.length:=gA g1
  refine⟨.sl key c 0 (l.length+1) 1,E.set key (c,some (vs++[x])),c+1,fun k=> k=key∨(K0 k∨K1 k),zn g1 g2.len q1 q2,?_,fun k q=>?_,fun k q nk=> qt (fun e=> nk ((g4 k).2 (.inl e))),by simp⟩
  ·have nk1:¬K1 key:=fun q=> hd key ((g4 key).2 (.inl rfl)) q
   have rr:reps ⟨E.set key (c,some (vs++[x])),c+1⟩ (vs++[x]) (l++[a]) (fun k=> K0 k∨K1 k):=
    reps.snoc (Deep.frame r1 fun k q=> qt (fun e=> by subst e; exact nk1 q)) (g2.frame fun k q=> qt (fun e=> by subst e; exact g3 q)) (fun k q=> hd k ((g4 k).2 (.inr q))) (fun k=> yA)
   have:=rep_at (l:=l++[a]) (qr (z:=(c,some (vs++[x]))) hk) rr (fun q=> q.elim g3 nk1);simp only[wR,vF,vH,wV]at this;exact this
  ·rcases q with rfl|q|q
   ·exact .inl ((g4 _).2 (.inl rfl))
   ·exact .inl ((g4 k).2 (.inr q))
   ·exact .inr (.inl q)
end Rv
namespace Rv
open Enc (enc)
structure zP (E:List (Nat×Option (List V))) (vs:List V) (l:List (List Int)) (B:Nat→Prop):Prop where
 len:vs.length=l.length
 row:∀ (i:Nat) v r,vs[i]? =some v→l[i]? =some r→∃k u,v= .sl k u 0 r.length 1∧E[k]? =some (u,some (r.map enc))∧B k
 inj:∀ (i j k u n k' u' n':Nat),vs[i]? =some (.sl k u 0 n 1)→vs[j]? =some (.sl k' u' 0 n' 1)→k=k'→i=j
variable {E:List (Nat×Option (List V))} {vs:List V} {l:List (List Int)} {B:Nat→Prop}
theorem zP.nil{B:Nat→Prop}:zP E [] [] B:=⟨rfl,fun i v r h=> by simp at h,fun i j k u n k' u' n' h=> by simp at h⟩
theorem zP.frame{E':List (Nat×Option (List V))}(m:zP E vs l B)(hf:∀k,k < E.length→B k→E'[k]? =E[k]?):zP E' vs l B:=
 ⟨m.len,fun i v r h1 h2=> by
  obtain⟨k,u,e,g,b⟩:=m.row i v r h1 h2;exact⟨k,u,e,by rw[hf k (gA g) b]; exact g,b⟩,m.inj⟩
theorem zP.mono{B':Nat→Prop}(m:zP E vs l B)(h:∀k,k < E.length→B k→B' k):zP E vs l B':=
 ⟨m.len,fun i v r h1 h2=> by
  obtain⟨k,u,e,g,b⟩:=m.row i v r h1 h2;exact⟨k,u,e,g,h k (gA g) b⟩,m.inj⟩
theorem zP.get(m:zP E vs l B){i:Nat}{r:List Int}(h:l[i]? =some r):∃k u,vs[i]? =some (.sl k u 0 r.length 1)∧E[k]? =some (u,some (r.map enc))∧B k:=by
 have hi:i < vs.length:=by rw[m.len]; exact(gA h)
 obtain⟨k,u,e,g,b⟩:=m.row i _ r (gB hi) h;exact⟨k,u,by rw[gB hi,e],g,b⟩
theorem zP.write(m:zP E vs l B){i k u:Nat}{r r':List Int}(h:l[i]? =some r)(hv:vs[i]? =some (.sl k u 0 r.length 1))(hl:r'.length=r.length):zP (E.set k (u,some (r'.map enc))) vs (l.set i r') B:=by
 have hi:=gA h;refine⟨by rw[vW]; exact m.len,fun j v s h1 h2=>?_,m.inj⟩;by_cases e:j=i
 ·subst e
  rw[gQ hi]at h2;cases h2;rw[hv]at h1; cases h1;obtain⟨k2,u2,e2,g,b⟩:=m.row j _ r hv h;cases e2;exact⟨k,u,by rw[hl],gQ (gA g),b⟩
 ·rw[gL (yK e)]at h2
  obtain⟨k2,u2,e2,g,b⟩:=m.row j v s h1 h2;subst e2;have hk:k2≠k:=fun q=> e (m.inj j i _ _ _ _ _ _ h1 hv q);exact⟨k2,u2,rfl,by rw[gL (yK hk)]; exact g,b⟩
def swapI(i j n:Nat):Nat:=if n=j then i else if n=i then j else n
theorem swapI_inj{i j m n:Nat}(h:swapI i j m=swapI i j n):m=n:=by
 unfold swapI at h;split at h <;> split at h <;>(try split at h)<;>(try split at h)<;> omega
theorem swap_get{α:Type}{xs:List α}{i j:Nat}{a b:α}(hi:xs[i]? =some a)(hj:xs[j]? =some b)(n:Nat):((xs.set i b).set j a)[n]? =xs[swapI i j n]?:=by
 have h1:=gA hi;have h2:=gA hj;unfold swapI;by_cases e:n=j
 ·subst e; rw[if_pos rfl,gQ (by simp; omega),hi]
 ·rw[if_neg e,gL (yK e)]
  by_cases e2:n=i
  ·subst e2; rw[if_pos rfl,gQ h1,hj]
  ·rw[if_neg e2,gL (yK e2)]
theorem zP.swap(m:zP E vs l B){i j:Nat}{a b:V}{r s:List Int}(hi:vs[i]? =some a)(hj:vs[j]? =some b)(gi:l[i]? =some r)(gj:l[j]? =some s):zP E ((vs.set i b).set j a) ((l.set i s).set j r) B:=by
 refine⟨by simp[m.len],fun n v q h1 h2=>?_,fun n n' k u w k' u' w' h1 h2 e=>?_⟩
 ·rw[swap_get hi hj]at h1
  rw[swap_get gi gj]at h2;exact m.row _ v q h1 h2
 ·rw[swap_get hi hj]at h1 h2
  exact swapI_inj (m.inj _ _ _ _ _ _ _ _ h1 h2 e)
theorem zP.snoc(m:zP E vs l B){k u:Nat}{r:List Int}(h:E[k]? =some (u,some (r.map enc)))(hB:B k)(hn:∀ (i k' u' n:Nat),vs[i]? =some (.sl k' u' 0 n 1)→k'≠k):zP E (vs++[.sl k u 0 r.length 1]) (l++[r]) B:=by
 have hl:=m.len;refine⟨by simp[hl],fun i v s h1 h2=>?_,fun i j a b c a' b' c' h1 h2 e=>?_⟩
 ·rcases wS i vs.length with hi|hi
  ·rw[gC hi]at h1
   rw[gC (by omega)]at h2;exact m.row i v s h1 h2
  ·rw[gI hi]at h1
   rw[gI (by omega)]at h2;have:i=vs.length:=by
    have:=gA h1;simp at this; omega
   subst this;rw[←hl,uF]at h2;rw[uF]at h1;cases h1; cases h2;exact⟨k,u,rfl,h,hB⟩
 ·have key:∀n x y z,(vs++[V.sl k u 0 r.length 1])[n]? =some (.sl x y 0 z 1)→(n < vs.length∧vs[n]? =some (.sl x y 0 z 1))∨(n=vs.length∧x=k):=fun n x y z hx=> by
   rcases wS n vs.length with hi|hi
   ·rw[gC hi]at hx; exact .inl ⟨hi,hx⟩
   ·rw[gI hi]at hx
    have:n=vs.length:=by
     have:=gA hx;simp at this; omega
    subst this;simp at hx;exact .inr ⟨rfl,hx.1.symm⟩
  rcases key i _ _ _ h1 with⟨_,p⟩|⟨p,q⟩<;> rcases key j _ _ _ h2 with⟨_,p'⟩|⟨p',q'⟩
  ·exact m.inj i j _ _ _ _ _ _ p p' e
  ·exact absurd (e.trans q') (hn i _ _ _ p)
  ·exact absurd (e.symm.trans q) (hn j _ _ _ p')
  ·omega
theorem mapO_frz(c f:Nat):∀ (ws:List V) (q:List (List Int)),ws.length=q.length→(∀ (i:Nat) v r,ws[i]? =some v→q[i]? =some r→frz ⟨E,c⟩ f v=some (.isl (r.map enc)))→mapO (frz ⟨E,c⟩ f) ws=some (q.map enc)
 | [],[],_,_=> rfl
 |v::ws,r::q,hl,h=> by
  have h0:=h 0 v r rfl rfl;have ht:=mapO_frz c f ws q (by simpa using hl) fun i v r a b=> h (i+1) v r (by simpa using a) (by simpa using b);simp only[mapO,h0,ht,vB];rfl
theorem zP.fz1(m:zP E vs l B)(c:Nat){i:Nat}{v:V}{r:List Int}(h1:vs[i]? =some v)(h2:l[i]? =some r):frz ⟨E,c⟩ 15 v=some (.isl (r.map enc)):=by
 obtain⟨k,u,rfl,g,_⟩:=m.row i v r h1 h2;exact Deep.fz (α:=List Int) (K:=fun x=> x=k) (jT g fun x=> yA) 10
theorem zP.fz(m:zP E vs l B)(c:Nat){key uid off n:Nat}(hk:E[key]? =some (uid,some vs))(ho:off+n≤l.length):frz ⟨E,c⟩ 16 (.sl key uid off n 1)=some (.isl (((l.drop off).take n).map enc)):=by
 have hl:=m.len;have hm:mapO (frz ⟨E,c⟩ 15) ((vs.drop off).take n)=some (((l.drop off).take n).map enc):=by
  refine mapO_frz c 15 _ _ (by simp[hl]) fun i v r a b=>?_;rw[gH]at a b;split at a
  ·rename_i hi
   rw[if_pos hi]at b;rw[gN]at a b;exact m.fz1 c a b
  ·cases a
 simp only[frz,get_of (h:=⟨E,c⟩) hk,yD];rw[if_pos ⟨by omega,by omega⟩,hm];simp only[xp]
theorem tsd{vs:List V}{i:Nat}{x:V}(h:i < vs.length):vs.take i++[x]++vs.drop (i+1)=vs.set i x:=by
 rw[List.set_eq_take_append_cons_drop,if_pos h]; simp
theorem slice_lo{key uid n:Nat}{d:Int}(h0:0≤d)(h1:d≤n):sliceV 1 (.sl key uid 0 n 1) (some (.int .i64 d)) none=some (.sl key uid d.toNat (n - d.toNat) 1):=by
 have h2:d.toNat≤n:=by omega
 simp[sliceV,lenV,jB,intV,h0,h1]
theorem slice_hi{key uid n:Nat}{d:Int}(h0:0≤d)(h1:d≤n):sliceV 1 (.sl key uid 0 n 1) none (some (.int .i64 d))=some (.sl key uid 0 d.toNat 1):=by
 have h2:d.toNat≤n:=by omega
 simp[sliceV,lenV,jB,intV,h0,h1]
def RRep(E:List (Nat×Option (List V)))(B:Nat→Prop)(v:V)(r:List Int):Prop:=∃k u,v= .sl k u 0 r.length 1∧E[k]? =some (u,some (r.map enc))∧B k
theorem RRep.frame{E':List (Nat×Option (List V))}{v:V}{r:List Int}{B':Nat→Prop}(h:RRep E B v r)(hf:∀k,k < E.length→B k→E'[k]? =E[k]?∧B' k):RRep E' B' v r:=by
 obtain⟨k,u,h1,h2,h3⟩:=h;obtain⟨q1,q2⟩:=hf k (gA h2) h3;exact⟨k,u,h1,q1.trans h2,q2⟩
theorem RRep.fz{v:V}{r:List Int}(h:RRep E B v r)(c f:Nat):frz ⟨E,c⟩ (f+6) v=some (.isl (r.map enc)):=by
 obtain⟨k,u,rfl,g,_⟩:=h;exact Deep.fz (α:=List Int) (K:=fun x=> x=k) (jT g fun x=> yA) (f+1)
structure Rws (E:List (Nat×Option (List V))) (B:Nat→Prop) (vs:List V) (l:List (List Int)):Prop where
 len:vs.length=l.length
 row:∀ (i:Nat) v r,vs[i]? =some v→l[i]? =some r→RRep E B v r
theorem Rws.nil{B:Nat→Prop}:Rws E B [] []:=⟨rfl,fun i v r h=> by simp at h⟩
theorem Rws.frame{E':List (Nat×Option (List V))}{B':Nat→Prop}(m:Rws E B vs l)(hf:∀k,k < E.length→B k→E'[k]? =E[k]?∧B' k):Rws E' B' vs l:=⟨m.len,fun i v r h1 h2=>(m.row i v r h1 h2).frame hf⟩
theorem Rws.get(m:Rws E B vs l){i:Nat}{r:List Int}(h:l[i]? =some r):∃v,vs[i]? =some v∧RRep E B v r:=by
 have hi:i < vs.length:=by rw[m.len]; exact(gA h)
 exact⟨vs[i],gB hi,m.row i _ r (gB hi) h⟩
theorem Rws.snoc(m:Rws E B vs l){v:V}{r:List Int}(h:RRep E B v r):Rws E B (vs++[v]) (l++[r]):=by
 have hl:=m.len;refine⟨by simp[hl],fun i w s h1 h2=>?_⟩;rcases wS i vs.length with hi|hi
 ·rw[gC hi]at h1
  rw[gC (by omega)]at h2;exact m.row i w s h1 h2
 ·rw[gI hi]at h1
  rw[gI (by omega)]at h2;have:i=vs.length:=by
   have:=gA h1;simp at this; omega
  subst this;rw[uF]at h1;rw[←hl,uF]at h2;cases h1; cases h2;exact h
theorem Rws.fz(m:Rws E B vs l)(c:Nat){key uid:Nat}(hk:E[key]? =some (uid,some vs)):frz ⟨E,c⟩ 16 (.sl key uid 0 l.length 1)=some (.isl (l.map enc)):=by
 have hl:=m.len;have hm:mapO (frz ⟨E,c⟩ 15) vs=some (l.map enc):=mapO_frz c 15 _ _ hl fun i v r a b=>(m.row i v r a b).fz c 9;simp only[frz,get_of (h:=⟨E,c⟩) hk,yD,wV,vN];rw[if_pos ⟨by omega,by omega⟩,←hl,vK,hm];simp only[xp]
theorem mat_tk(f:Nat):∀ (ws:List V) (q:List (List Int)) (h:Heap),ws.length=q.length→(∀ (i:Nat) v r,ws[i]? =some v→q[i]? =some r→∃k u,v= .sl k u 0 r.length 1∧h.ents[k]? =some (u,some (r.map enc)))→
  (∀ (i j k u n k' u' n':Nat),ws[i]? =some (.sl k u 0 n 1)→ws[j]? =some (.sl k' u' 0 n' 1)→k=k'→i=j)→∃h',mapS (take (f+2) []) ws h=some (q.map enc,h')
 | [],[],h,_,_,_=>⟨h,rfl⟩
 |v::ws,r::q,h,hl,hr,hi=> by
  obtain⟨k,u,rfl,g⟩:=hr 0 v r rfl rfl;have e:(List.map (enc:Int→V) r).take r.length=r.map enc:=wT (by simp);have ht:take (f+2) [] (.sl k u 0 r.length 1) h=some (enc r,h.kill k):=by
   simp only[take,get_of g,yD,wV,vN,List.tail_nil];rw[if_pos ⟨by simp,by omega,by simp[hdOk]⟩,e,take_ints f []];simp only[xp];rfl
  obtain⟨h',h2⟩:=mat_tk f ws q (h.kill k) (by simpa using hl) (fun i v' r' a b=> by
   obtain⟨k',u',e',g'⟩:=hr (i+1) v' r' (by simpa using a) (by simpa using b);refine⟨k',u',e',?_⟩;rw[kill_ne h fun q=>?_]
   ·exact g'
   ·subst e'; subst q
    have:=hi (i+1) 0 _ _ _ _ _ _ (by simpa using a) rfl rfl;omega) (fun i j k1 u1 n1 k2 u2 n2 a b c=> by
   have:=hi (i+1) (j+1) _ _ _ _ _ _ (by simpa using a) (by simpa using b) c;omega)
  exact⟨h',by simp only[mapS,ht,h2,vB]⟩
theorem zP.tk(m:zP E vs l B)(c:Nat){key uid n:Nat}(hk:E[key]? =some (uid,some vs))(hB:¬B key)(hn:n≤l.length):∃h',take 16 [1] (.sl key uid 0 n 1) ⟨E,c⟩=some (.isl ((l.take n).map enc),h'):=by
 have hl:=m.len;obtain⟨h',h2⟩:=mat_tk 13 (vs.take n) (l.take n) ((⟨E,c⟩:Heap).kill key) (by simp[hl]) (fun i v r a b=> by
  rw[gH]at a b;split at a
  ·rename_i hi
   rw[if_pos hi]at b;obtain⟨k,u,e,g,hb⟩:=m.row i v r a b;exact⟨k,u,e,by rw[kill_ne _ fun q=> by subst q; exact hB hb]; exact g⟩
  ·cases a) (fun i j k u n1 k' u' n2 a b e=> by
  rw[gH]at a b;split at a
  ·split at b
   ·exact m.inj i j _ _ _ _ _ _ a b e
   ·cases b
  ·cases a)
 refine⟨h',?_⟩;simp only[take,get_of (h:=⟨E,c⟩) hk,yD,wV,vN,List.tail_cons];rw[if_pos ⟨by omega,by omega,by simp[hdOk]⟩,h2];simp only[xp]
end Rv
namespace Rv
open Go (IntKind BinOp UnOp Program Value Operand Oper Code TypeId Func World Addr Obj Act Calls DataW Lit Field Reach)
open Go.ChangeShapes Go.WideShapes Go.RowKit
theorem frz_to_bool{h:Heap}{f:Nat}{r:V}{b:Bool}(hf:frz h f r=some (.bool b)):r= .bool b:=by
 cases f with
 |zero=> simp[frz]at hf
 |succ f=>
  cases r with
  |bool c=> simp[frz]at hf; rw[hf]
  |_=> exfalso; simp only[frz]at hf;(repeat' split at hf)<;> simp at hf
theorem ran_of_ans{A:Prog}{g:Nat}{as:List V}{b:Bool}(h:ans A g as=some (Enc.enc b)):∃k,((A.run k g as Heap.empty).map (·.1))=some (.bool b):=by
 unfold ans at h;split at h
 ·rename_i r h1 hr
  obtain⟨k,hk⟩:=res_run hr;have:=frz_to_bool (show frz h1 FZ r=some (.bool b) from h);subst this;exact⟨k,by rw[hk]; rfl⟩
 ·cases h
def cellsOf(w:World):Imm:=fun b o=> w.cell? ⟨b,o,none⟩
def Opens(P:Program)(tbl:Nat→Option Nat)(w:World)(t:TypeId)(n:Nat)(α:Type)[Enc α](L:α→Prop):Prop:=
 P.cellsOf t=n∧∀ (H:Type) (enc:TypeId×Value→H) (base:Nat) (spare:Nat→Bool) (held:Bool) (fuel:Nat) (cs:List Value) (d:DataW H×List Go.MemPlace),
  DataW.trod enc P w base spare held fuel t cs=some d→∃x:α,L x∧cs.length=n∧(∀v∈cs,v.oneCell'=true)∧RIs tbl (cellsOf w) (Enc.enc x).cells cs
variable {P:Program} {tbl:Nat→Option Nat} {w:World}
theorem add_block(a:Addr)(n:Nat):(a.add n).block=a.block:=by unfold Addr.add; split <;> rfl
theorem add_off(a:Addr)(n:Nat):(a.add n).off=a.off+n:=by
 unfold Addr.add; split
 ·rename_i h; subst h; rfl
 ·rfl
theorem add_add(a:Addr)(p q:Nat):(a.add p).add q=a.add (p+q):=by
 cases a;unfold Addr.add;by_cases hq:q=0
 ·subst hq; simp
 ·rw[if_neg hq,if_neg (show¬p+q=0 by omega)]
  split <;> simp <;> omega
theorem cell_plain{a:Addr}{v:Value}(h:w.cell? a=some v):a=⟨a.block,a.off,none⟩:=by
 unfold World.cell? at h;split at h
 ·split at h
  ·cases h
  ·rename_i hs
   cases a with
   |mk b o s=> cases s with
    |none=> rfl
    |some x=> simp at hs
 ·cases h
theorem opens_slice{t e:TypeId}{n:Nat}{α:Type}[Enc α]{L:α→Prop}(ht:P.underlying t=some (.slice e))(hc:P.cellsOf t=1)(hn:0 < n)(hm:∀x:α,(Enc.enc x).cells.length=n)(he:Opens P tbl w e n α L):
  Opens P tbl w t 1 (List α) (fun l=> l.length≤9223372036854775807∧∀y∈l,L y):=by
 refine⟨hc,fun H enc base spare held fuel cs d h=>?_⟩;obtain⟨hce,hel⟩:=he;rcases DataW.trod_slice ht h with⟨rfl,rfl⟩|⟨a,len,cap,elems,rest,m,_,rfl,rfl,hb,hl,hmx,hlen,hes,_,_⟩
 ·exact⟨[],⟨by simp,by simp⟩,rfl,by simp[Value.oneCell'],.cons (.isl0 none 0 fun _=> rfl) .nil⟩
 have key:∀k,k≤len→∃ (xs:List α) (vs:List Value),xs.length=k∧(∀y∈xs,L y)∧vs.length=k*n∧(∀v∈vs,v.oneCell'=true)∧
   (∀ (i:Nat) v,vs[i]? =some v→w.cell? (a.add i)=some v)∧RIs tbl (cellsOf w) (flat (xs.map Enc.enc)) vs:=by
  intro k;induction k with
  |zero=> intro _; exact⟨[],[],rfl,by simp,by simp,by simp,by simp,.nil⟩
  |succ k ih=>
   intro hk;obtain⟨xs,vs,h1,h2,h3,h4,h5,h6⟩:=ih (by omega);have hk':=hes k (by omega);rw[gB (show k < elems.length by omega),Option.bind_eq_some_iff]at hk';obtain⟨cs',g1,g2⟩:=hk';obtain⟨x,q1,q2,q3,q4⟩:=hel _ _ _ _ _ _ _ _ g2;obtain⟨r1,r2,r3⟩:=World.cells?_some g1;rw[hce]at r3 r2;refine⟨xs++[x],vs++cs',by simp[h1],?_,by rw[wR,h3,q2,yT],?_,?_,?_⟩
   ·intro y hy
    rcases wN.1 hy with hy|hy
    ·exact h2 y hy
    ·rw[List.mem_singleton.1 hy]; exact q1
   ·intro v hv
    rcases wN.1 hv with hv|hv
    ·exact h4 v hv
    ·exact q3 v hv
   ·intro i v hv
    by_cases hi:i < vs.length
    ·rw[gC hi]at hv; exact h5 i v hv
    ·rw[gI (by omega)]at hv
     have hlt:=gA hv;have hc2:=r3 (i - vs.length) (by omega);rw[hv]at hc2;have e:(a.add (k*n)).add (i - vs.length)=a.add i:=by
      rw[add_add]; congr 1; omega
     rw[←e]; exact hc2
   ·rw[uB,show flat (xs.map Enc.enc++[x].map Enc.enc)=flat (xs.map Enc.enc)++flat ([x].map Enc.enc) from List.flatMap_append ..]
    exact h6.append (by simpa[flat]using q4)
 obtain⟨xs,vs,h1,h2,h3,h4,h5,h6⟩:=key len (wE _);have hmx':cap≤9223372036854775807:=hmx;refine⟨xs,⟨by omega,h2⟩,rfl,by simp[Value.oneCell'],.cons ?_ .nil⟩;by_cases h0:len=0
 ·have:xs=[]:=wU (by omega)
  subst this; subst h0;exact .isl0 (some a) cap (by simp)
 ·have hv0:0 < vs.length:=by rw[h3]; exact Nat.mul_pos (by omega) hn
  have p0:=h5 0 vs[0] (by simp[hv0]);have ea:a=⟨a.block,a.off,none⟩:=cell_plain (show w.cell? a=some vs[0] from p0);have hx:(xs.map (Enc.enc:α→V)).length=len:=by simp[h1]
  rw[←hx];rw[ea];refine .isl (xs.map Enc.enc) a.block a.off cap n vs (by omega) hn (by simp[hm]) h6.len h4 (fun i v hv=>?_) h6.at_;have p1:=h5 i v hv;have p2:=cell_plain p1;rw[add_block,add_off]at p2;rw[p2]at p1;exact p1
theorem opened_slice{t e:TypeId}{α:Type}[Enc α]{L:List α→Prop}{H:Type}{enc:TypeId×Value→H}{base b0:Nat}{spare:Nat→Bool}{held:Bool}{r:Reach}{v:Value}{d:DataW H}{ps:List Go.MemPlace}
  (hu:P.underlying t=some (.slice e)) (hv:Value.okWide P w r b0 t v) (ho:Opens P tbl w t 1 (List α) L) (h:DataW.Trod enc P w base spare held t v d ps):∃x:List α,L x∧RI tbl (cellsOf w) (Enc.enc x) v:=by
 obtain⟨a,len,cap,rfl⟩:=okWide_slice hu hv;obtain⟨fuel,h⟩:=h;obtain⟨x,h1,h2,h3,h4⟩:=ho.2 _ _ _ _ _ _ _ _ h;refine⟨x,h1,?_⟩;obtain⟨y,q,hq,hr,_⟩:=P2.uncons (show P2 _ (Enc.enc x:: []) _ from h4);have e2:(Value.slice a len cap).cells.toList=[.slice a len cap]:=rfl;rw[e2]at hq;cases hq;exact hr
end Rv
namespace Rv
open Go (IntKind BinOp UnOp Program Value Operand Oper Code TypeId Func World Addr Obj Act Calls DataW Lit Field Reach)
open Go.ChangeShapes Go.WideShapes Go.RowKit
variable {P:Program} {tbl:Nat→Option Nat} {w:World}
theorem opens_u8{t:TypeId}(ht:P.underlying t=some (.int .u8))(hc:P.cellsOf t=1):Opens P tbl w t 1 U8 (fun a=> 0≤a.val∧a.val≤255):=by
 refine⟨hc,fun H enc base spare held fuel cs d h=>?_⟩;obtain⟨n,rfl,rfl,hw⟩:=DataW.trod_int ht h;exact⟨⟨n⟩,Go.bounds_u8 hw,rfl,by simp[Value.oneCell'],.cons (.int _ _) .nil⟩
end Rv
namespace Rv
noncomputable def xans(A:Prog)(g:Nat)(cs as:List V):Option (V×List V):=match res A g (.ptr 0 0 0::as) ⟨[(0,some cs)],1⟩with
 |some (r,h1)=> match h1.get 0 0 with
  |some cs'=> if cs'.all (qo FZ)=true then match frz (h1.kill 0) FZ r with
   |some t=> some (t,cs')
   |none=> none
   else none
  |none=> none
 |none=> none
theorem qf{A:Prog}{g key uid:Nat}{rest:List V}{h:Heap}:zY (res A) (.thr []) g (.ptr key uid 0::rest) h=match h.get key uid with
  |some cs=> if(cs.all (qo FZ)&& rest.all (qo FZ))=true then match xans A g cs rest with
   |some (t,cs')=> some (t,h.put key uid cs')
   |none=> none
   else none
  |none=> none:=by
 simp only[zY,xans];cases h.get key uid with
 |none=> rfl
 |some cs=>
  simp only;split
  ·cases res A g (.ptr 0 0 0::rest) ⟨[(0,some cs)],1⟩with
   |none=> rfl
   |some p=>
    obtain⟨r,h1⟩:=p;simp only;cases h1.get 0 0 with
    |none=> rfl
    |some cs'=>
     simp only;split
     ·cases frz (h1.kill 0) FZ r <;> rfl
     ·rfl
  ·rfl
def XFin(f:Fn)(p:V×List V)(x:Ex)(e:Env)(h:Heap):Prop:=(∀i,x≠ .exit i)∧(match f.out e h with
 |some r=>(match h.get 0 0 with
  |some cs'=> if cs'.all (qo FZ)=true then(match frz (h.kill 0) FZ r with|some t=> some (t,cs')|none=> none)else none
  |none=> none)
 |none=> none)=some p
theorem zu{f:Fn}{p:V×List V}{e:Env}{h:Heap}(hq:(match f.out e h with
 |some r=>(match h.get 0 0 with
  |some cs'=> if cs'.all (qo FZ)=true then(match frz (h.kill 0) FZ r with|some t=> some (t,cs')|none=> none)else none
  |none=> none)
 |none=> none)=some p):XFin f p .ret e h:=⟨fun i=> by simp,hq⟩
theorem xC{A:Prog}{g:Nat}{args cs:List V}{p:V×List V}{f:Fn}(hf:A g=some f)(hl:args.length+1=f.nargs)(hb:f.body.isClone=false)
  (w:∀e:Env,e.length=f.ntmps - f.nargs+(args.length+1)→e.at 0=V.ptr 0 0 0→(∀ (i:Nat) v,args[i]? =some v→e.at (i+1)=v)→W A f.body e ⟨[(0,some cs)],1⟩ (XFin f p)):xans A g cs args=some p:=by
 have at_:∀ (i:Nat) v,(V.ptr 0 0 0::args)[i]? =some v→Env.at (V.ptr 0 0 0::args++List.replicate (f.ntmps - f.nargs) V.undef) i=v:=fun i v hv=> by
  have hlt:=gA hv;simp only[Env.at,gD];rw[gC hlt,hv]; rfl
 have hw:=w (V.ptr 0 0 0::args++List.replicate (f.ntmps - f.nargs) V.undef) (by simp; omega) (at_ 0 _ rfl) fun i v hv=> at_ (i+1) v (by simpa using hv);obtain⟨k,x,e1,h1,h2,h3,h4⟩:=hw;cases hq:f.out e1 h1 with
 |none=> rw[hq]at h4; cases h4
 |some r=>
  rw[hq]at h4;have:res A g (.ptr 0 0 0::args) ⟨[(0,some cs)],1⟩=some (r,h1):=Ev.res (.intro hb hf (by simpa using hl) ⟨k,x,e1,h1,h2,h3,hq,rfl⟩);unfold xans;rw[this];exact h4
theorem binV_shr33(a:Int):binV 0 .shr (.int .u64 a) (.int .u64 33)=some (.int .u64 (Int.fdiv a (2^min 33 (Go.IntKind.bits .u64)))):=rfl
theorem binV_and64(a b:Int):binV 0 .and (.int .u64 a) (.int .u64 b)=some (.int .u64 (Go.IntKind.wrap .u64 (BitVec.ofInt (Go.IntKind.bits .u64) a &&& BitVec.ofInt (Go.IntKind.bits .u64) b).toNat)):=rfl
end Rv
namespace Rv
open Enc (enc)
theorem frzE{α:Type}[Enc α][One α]{E:List (Nat×Option (List V))}{c k u:Nat}{l:List α}(h:E[k]? =some (u,some (l.map Enc.enc)))(f:Nat):frz ⟨E,c⟩ (f+5) (.sl k u 0 l.length 1)=some (.isl (l.map Enc.enc)):=by
 simp only[frz,Heap.get,h,if_true,wV,vN,yD];rw[if_pos ⟨by simp,by decide⟩,wT (by simp),frzs];simp only[xp]
theorem bareD{α:Type}[Enc α][Deep α](hd:Deep.dep α≤16)(a:α):bare 16 (Deep.ds α) (Enc.enc a)=true:=by
 have:=Deep.br a (16 - Deep.dep α) []
 rwa[uC,show 16 - Deep.dep α+Deep.dep α=16 from by omega]at this
theorem takeE{α:Type}[Enc α][One α]{E:List (Nat×Option (List V))}{c k u:Nat}{l:List α}(h:E[k]? =some (u,some (l.map Enc.enc)))(f:Nat):take (f+5) [] (.sl k u 0 l.length 1) ⟨E,c⟩=some (.isl (l.map Enc.enc),⟨E.set k (0,none),c⟩):=by
 simp only[take,Heap.get,h,if_true,wV,vN,yD,List.tail_nil];rw[if_pos ⟨by simp,by decide,by rfl⟩,wT (by simp),qM];simp only[xp]; rfl
theorem appE{α:Type}[Enc α][One α]{E:List (Nat×Option (List V))}{c k u b:Nat}{l l2:List α}{a:α}(h:E[k]? =some (u,some (l.map Enc.enc)))(g:app b l [a]=some l2):
  za 1 b (.sl k u 0 l.length 1) 1 [Enc.enc a] ⟨E,c⟩=some (.sl k c 0 l2.length 1,⟨E.set k (c,some (l2.map Enc.enc)),c+1⟩):=by
 obtain⟨h1,h2,rfl⟩:=app_w g;rw[zn h (by simp) (by simpa using h1) (by simpa using h2)];simp
def addS(a b:List Nat):Option Str:=if a.length+b.length≤2^40 then some ⟨a++b⟩else none
theorem xh{a b:List Nat}{r:Str}(h:addS a b=some r):binV 0 .add (V.str a) (V.str b)=some (V.str r.val):=by
 unfold addS at h;show(if a.length+b.length≤2^40 then some (V.str (a++b))else none)=_;by_cases c:a.length+b.length≤2^40
 ·rw[if_pos c]at h ⊢; cases h; rfl
 ·rw[if_neg c]at h; cases h
def toS(l:List U8):Option Str:=(bytesV (l.map Enc.enc)).map Str.mk
theorem toS_w{l:List U8}{r:Str}(h:toS l=some r):bytesV (l.map Enc.enc)=some r.val:=by
 unfold toS at h
 match hb:bytesV (l.map Enc.enc),h with
 |some b,h=> cases h; rfl
theorem rep_put2{E:List (Nat×Option (List V))}{c:Nat}{m:V}{ms:List (List (List Int))}{K:Ks}{k i:Nat}{t:List (List Int)}{row:List Int}(r:Deep.rep ⟨E,c⟩ m ms K)(hk:ms[k]? =some t)(hi:t[i]? =some row):
  ∃key uid vs key2 uid2 vs2 x2,m= .sl key uid 0 ms.length 1∧E[key]? =some (uid,some vs)∧vs[k]? =some (.sl key2 uid2 0 t.length 1)∧E[key2]? =some (uid2,some vs2)∧vs2[i]? =some x2∧lenV x2=some row.length∧vs2.length=t.length∧K key2∧key2 < E.length∧
   ∀z:List Int,∃K9:Ks,Deep.rep ⟨(E++[(c,some (z.map enc))]).set key2 (uid2,some (vs2.set i (.sl E.length c 0 z.length 1))),c+1⟩ m (ms.set k (t.set i z)) K9∧∀q,K9 q→K q∨q=E.length:=by
 obtain⟨hkl,rfl⟩:=gM.1 hk;rcases r with⟨rfl,rfl,_⟩|⟨key,uid,vs,K',rfl,g1,g2,g3,g4⟩
 ·simp at hkl
 obtain⟨x1,K1,K2,f1,f2,f3,f4,f5⟩:=g2.focus hkl;obtain⟨hil,rfl⟩:=gM.1 hi;rcases f2 with⟨rfl,e,_⟩|⟨key2,uid2,vs2,K3,rfl,h1,h2,h3,h4⟩
 ·rw[e]at hil; simp at hil
 obtain⟨x2,K4,K5,q1,q2,q3,q4,q5⟩:=h2.focus hil;have b2:key2 < E.length:=gA h1;have b1:key < E.length:=gA g1;have n12:key≠key2:=fun e=> g3 ((f4 key).2 (.inl ((h4 key).2 (.inl e))));refine⟨key,uid,vs,key2,uid2,vs2,x2,rfl,g1,f1,h1,q1,rep_len q2,h2.len,(g4 key2).2 (.inr ((f4 key2).2 (.inl ((h4 key2).2 (.inl rfl))))),b2,fun z=>?_⟩;generalize hE:(E++[(c,some (z.map enc))]).set key2 (uid2,some (vs2.set i (.sl E.length c 0 z.length 1)))=E9;have old:∀q,q≠key2→q < E.length→E9[q]? =E[q]?:=fun q a b=> by rw[←hE]; exact qT a b
 have new:E9[E.length]? =some (c,some (z.map enc)):=by rw[←hE]; exact(qt (by omega)).trans (qI _ _)
 have at2:E9[key2]? =some (uid2,some (vs2.set i (.sl E.length c 0 z.length 1))):=by rw[←hE]; exact qr (by simp; omega)
 have bd5:∀q,K5 q→q < E.length:=fun q a=> h2.bd ((q4 q).2 (.inr a));have r1:reps ⟨E9,c+1⟩ (vs2.set i (.sl E.length c 0 z.length 1)) (ms[k].set i z) (fun q=> q=E.length∨K5 q):=q5 ⟨E9,c+1⟩ (.sl E.length c 0 z.length 1) z (fun q=> q=E.length) _ (jT new fun q=> yA)
  (fun q a=> old q (fun e=> h3 (e▸(q4 q).2 (.inr a))) (bd5 q a)) (fun q a b=> by have:=bd5 q b; omega) fun q=> yA
 have r2:Deep.rep ⟨E9,c+1⟩ (.sl key2 uid2 0 ms[k].length 1) (ms[k].set i z) (fun q=> q=key2∨(q=E.length∨K5 q)):=by
  have:=rep_at (h:=⟨E9,c+1⟩) at2 r1 (fun a=> a.elim (by omega) fun b=> h3 ((q4 key2).2 (.inr b)))
  rwa[vW]at this
 have bdK2:∀q,K2 q→q < E.length:=fun q a=> g2.bd ((f4 q).2 (.inr a));have K5in:∀q,K5 q→K1 q:=fun q a=>(h4 q).2 (.inr ((q4 q).2 (.inr a)));have r3:=f5 ⟨E9,c+1⟩ _ _ _ (fun q=>(q=key2∨(q=E.length∨K5 q))∨K2 q) r2
  (fun q a=> old q (fun e=> f3 q ((h4 q).2 (.inl e)) a) (bdK2 q a))
  (fun q a b=> by
   rcases a with a|a|a
   ·exact f3 q ((h4 q).2 (.inl a)) b
   ·have:=bdK2 q b; omega
   ·exact f3 q (K5in q a) b) fun q=> yA
 rw[set_self f1]at r3;have r4:=rep_at (h:=⟨E9,c+1⟩) ((old key n12 b1).trans g1) r3 (fun a=> by
  rcases a with(a|a|a)|a
  ·exact n12 a
  ·omega
  ·exact g3 ((f4 key).2 (.inl (K5in key a)))
  ·exact g3 ((f4 key).2 (.inr a)))
 rw[vW]at r4;refine⟨_,r4,fun q a=>?_⟩;rcases a with a|(a|a|a)|a
 ·exact .inl ((g4 q).2 (.inl a))
 ·exact .inl ((g4 q).2 (.inr ((f4 q).2 (.inl ((h4 q).2 (.inl a))))))
 ·exact .inr a
 ·exact .inl ((g4 q).2 (.inr ((f4 q).2 (.inl (K5in q a)))))
 ·exact .inl ((g4 q).2 (.inr ((f4 q).2 (.inr a))))
end Rv
