/- An abstract machine for translated code, proved to answer as the code does: part 3 -/
import Derived.Test.YtfecoipgcigamaaGreatRv1
import Derived.KernelRfl
import Derived.WalkKit
import Derived.ProofKit
import Derived.OpenShut
import Derived.ChangeOld
import Derived.Carry
import Derived.WideShapes
import Derived.DataReads
namespace Rv
set_option linter.unusedVariables false
set_option linter.unusedSimpArgs false
open Enc (enc)
abbrev Ks:=Nat→Prop
class Deep (α:Type) [Enc α] where
 rep:Heap→V→α→Ks→Prop
 ds:List Nat
 dep:Nat
 frame:∀ {h h':Heap} {v:V} {a:α} {K:Ks},rep h v a K→(∀k,K k→h'.ents[k]? =h.ents[k]?)→rep h' v a K
 bd:∀ {h:Heap} {v:V} {a:α} {K:Ks} {k:Nat},rep h v a K→K k→k < h.ents.length
 fz:∀ {h:Heap} {v:V} {a:α} {K:Ks},rep h v a K→∀f,frz h (f+dep) v=some (enc a)
 br:∀ (a:α) (f:Nat) (r:List Nat),bare (f+dep) (ds++r) (enc a)=true
 tkr:∀ {h:Heap} {v:V} {a:α} {K:Ks},rep h v a K→∀f (r:List Nat),∃h',take (f+dep) (ds++r) v h=some (enc a,h')∧h'.ents.length=h.ents.length∧∀k,¬K k→h'.ents[k]? =h.ents[k]?
 thr:∀ (a:α) (h:Heap) (f:Nat) (r:List Nat),∃v h',thaw (f+dep) (ds++r) (enc a) h=some (v,h')∧rep h' v a (fun k=> h.ents.length≤k∧k < h'.ents.length)∧h.ents.length≤h'.ents.length∧∀k,k < h.ents.length→h'.ents[k]? =h.ents[k]?
instance deepInt:Deep Int where
 rep h v a K:=v=enc a∧∀k,¬K k
 ds:=[]
 dep:=4
 frame h _:=h
 bd h hk:=(h.2 _ hk).elim
 fz:=by rintro h v a K ⟨rfl,_⟩ f; exact Enc.fz a h f
 br a f r:=by cases r <;> rfl
 tkr:=by rintro h v a K ⟨rfl,_⟩ f r; exact⟨h,by cases r <;> rfl,rfl,fun _ _=> rfl⟩
 thr a h f r:=⟨enc a,h,by cases r <;> rfl,⟨rfl,fun k hk=> by omega⟩,Nat.le_refl _,fun _ _=> rfl⟩
theorem Deep.tk{α:Type}[Enc α][Deep α]{h:Heap}{v:V}{a:α}{K:Ks}(hr:Deep.rep h v a K)(f:Nat):∃h',take (f+Deep.dep α) (Deep.ds α) v h=some (enc a,h')∧h'.ents.length=h.ents.length∧∀k,¬K k→h'.ents[k]? =h.ents[k]?:=by
 have:=Deep.tkr hr f []
 rwa[List.append_nil]at this
theorem Deep.th{α:Type}[Enc α][Deep α](a:α)(h:Heap)(f:Nat):∃v h',thaw (f+Deep.dep α) (Deep.ds α) (enc a) h=some (v,h')∧Deep.rep h' v a (fun k=> h.ents.length≤k∧k < h'.ents.length)∧h.ents.length≤h'.ents.length∧∀k,k < h.ents.length→h'.ents[k]? =h.ents[k]?:=by
 have:=Deep.thr a h f []
 rwa[List.append_nil]at this
section
variable {α:Type} [Enc α] [Deep α]
def reps(h:Heap):List V→List α→Ks→Prop
 | [],[],K=>∀k,¬K k
 |v::vs,a::l,K=>∃K1 K2:Ks,Deep.rep h v a K1∧reps h vs l K2∧(∀k,K1 k→¬K2 k)∧∀k,K k↔K1 k∨K2 k
 |_,_,_=> False
theorem reps.len{h:Heap}:∀ {vs:List V} {l:List α} {K:Ks},reps h vs l K→vs.length=l.length
 | [],[],_,_=> rfl
 |v::vs,a::l,K,⟨_,_,_,h2,_⟩=> by simp[h2.len]
theorem reps.frame{h h':Heap}:∀ {vs:List V} {l:List α} {K:Ks},reps h vs l K→(∀k,K k→h'.ents[k]? =h.ents[k]?)→reps h' vs l K
 | [],[],_,r,_=> r
 |v::vs,a::l,K,⟨K1,K2,h1,h2,h3,h4⟩,hf=>⟨K1,K2,Deep.frame h1 fun k hk=> hf k ((h4 k).2 (.inl hk)),h2.frame fun k hk=> hf k ((h4 k).2 (.inr hk)),h3,h4⟩
theorem reps.bd{h:Heap}{k:Nat}:∀ {vs:List V} {l:List α} {K:Ks},reps h vs l K→K k→k < h.ents.length
 | [],[],_,r,hk=>(r k hk).elim
 |v::vs,a::l,K,⟨K1,K2,h1,h2,h3,h4⟩,hk=> by
  rcases(h4 k).1 hk with hk|hk
  ·exact Deep.bd h1 hk
  ·exact h2.bd hk
theorem reps.fz{h:Heap}(f:Nat):∀ {vs:List V} {l:List α} {K:Ks},reps h vs l K→mapO (frz h (f+Deep.dep α)) vs=some (l.map enc)
 | [],[],_,_=> rfl
 |v::vs,a::l,K,⟨K1,K2,h1,h2,h3,h4⟩=> by simp only[mapO,Deep.fz h1 f,h2.fz f,List.map_cons]
theorem reps.br(f:Nat)(r:List Nat):∀l:List α,(l.map enc).all (bare (f+Deep.dep α) (Deep.ds α++r))=true
 | []=> rfl
 |a::l=> by simp only[List.map_cons,List.all_cons,Deep.br a f r,reps.br f r l,Bool.and_self]
theorem reps.tk(f:Nat)(r:List Nat):∀ {vs:List V} {l:List α} {K:Ks} {h:Heap},reps h vs l K→∃h',mapS (take (f+Deep.dep α) (Deep.ds α++r)) vs h=some (l.map enc,h')∧h'.ents.length=h.ents.length∧∀k,¬K k→h'.ents[k]? =h.ents[k]?
 | [],[],_,h,_=>⟨h,rfl,rfl,fun _ _=> rfl⟩
 |v::vs,a::l,K,h,⟨K1,K2,h1,h2,h3,h4⟩=> by
  obtain⟨g,a1,a2,a3⟩:=Deep.tkr h1 f r;have r2:reps g vs l K2:=h2.frame fun k hk=> a3 k fun hk1=> h3 k hk1 hk;obtain⟨g',b1,b2,b3⟩:=r2.tk f r;refine⟨g',by simp only[mapS,a1,b1,List.map_cons],by omega,fun k hk=>?_⟩;rw[b3 k fun x=> hk ((h4 k).2 (.inr x)),a3 k fun x=> hk ((h4 k).2 (.inl x))]
theorem reps.th(f:Nat)(r:List Nat):∀ (l:List α) (h:Heap),∃vs h',mapS (thaw (f+Deep.dep α) (Deep.ds α++r)) (l.map enc) h=some (vs,h')∧reps h' vs l (fun k=> h.ents.length≤k∧k < h'.ents.length)∧h.ents.length≤h'.ents.length∧∀k,k < h.ents.length→h'.ents[k]? =h.ents[k]?
 | [],h=>⟨[],h,rfl,fun k hk=> by omega,Nat.le_refl _,fun _ _=> rfl⟩
 |a::l,h=> by
  obtain⟨v,g,a1,a2,a3,a4⟩:=Deep.thr a h f r;obtain⟨vs,g',b1,b2,b3,b4⟩:=reps.th f r l g;refine⟨v::vs,g',by simp only[List.map_cons,mapS,a1,b1],⟨_,_,Deep.frame a2 fun k hk=> b4 k hk.2,b2,fun k p q=> by omega,fun k=> by omega⟩,by omega,fun k hk=>?_⟩;rw[b4 k (by omega),a4 k hk]
theorem reps.snoc{h:Heap}{v:V}{a:α}{K1:Ks}(h1:Deep.rep h v a K1):∀ {vs:List V} {l:List α} {K K':Ks},reps h vs l K→(∀k,K k→¬K1 k)→(∀k,K' k↔K k∨K1 k)→reps h (vs++[v]) (l++[a]) K'
 | [],[],K,K',r,hd,he=>⟨K1,fun _=> False,h1,fun _ x=> x,fun _ _ x=> x,fun k=> by rw[he]; have:=r k; simp[this]⟩
 |u::vs,b::l,K,K',⟨A,B,g1,g2,g3,g4⟩,hd,he=> by
  refine⟨A,fun k=> B k∨K1 k,g1,reps.snoc h1 g2 (fun k hk=> hd k ((g4 k).2 (.inr hk))) (fun k=> Iff.rfl),fun k hk hb=>?_,fun k=> by rw[he,g4,or_assoc]⟩;rcases hb with hb|hb
  ·exact g3 k hk hb
  ·exact hd k ((g4 k).2 (.inl hk)) hb
theorem reps.focus{h:Heap}:∀ {vs:List V} {l:List α} {K:Ks} {i:Nat} (_:reps h vs l K) (hi:i < l.length),∃ (x:V) (K1 K2:Ks),vs[i]? =some x∧Deep.rep h x l[i] K1∧(∀k,K1 k→¬K2 k)∧(∀k,K k↔K1 k∨K2 k)∧
  ∀ (h':Heap) (x':V) (a':α) (K1' K':Ks),Deep.rep h' x' a' K1'→(∀k,K2 k→h'.ents[k]? =h.ents[k]?)→(∀k,K1' k→¬K2 k)→(∀k,K' k↔K1' k∨K2 k)→reps h' (vs.set i x') (l.set i a') K'
 | [],[],K,i,_,hi=> absurd hi (Nat.not_lt_zero _)
 |v::vs,a::l,K,0,⟨A,B,g1,g2,g3,g4⟩,hi=>⟨v,A,B,rfl,g1,g3,g4,fun h' x' a' K1' K' q1 q2 q3 q4=>⟨K1',B,q1,g2.frame q2,q3,q4⟩⟩
 |v::vs,a::l,K,i+1,⟨A,B,g1,g2,g3,g4⟩,hi=> by
  obtain⟨x,K1,K2,f1,f2,f3,f4,f5⟩:=reps.focus g2 (show i < l.length by simpa using hi);refine⟨x,K1,fun k=> A k∨K2 k,f1,f2,fun k hk hb=>?_,fun k=>?_,fun h' x' a' K1' K' q1 q2 q3 q4=>?_⟩
  ·rcases hb with hb|hb
   ·exact g3 k hb ((f4 k).2 (.inl hk))
   ·exact f3 k hk hb
  ·rw[g4,f4]
   constructor
   ·rintro(p|p|p)
    ·exact .inr (.inl p)
    ·exact .inl p
    ·exact .inr (.inr p)
   ·rintro(p|p|p)
    ·exact .inr (.inl p)
    ·exact .inl p
    ·exact .inr (.inr p)
  ·refine⟨A,fun k=> K1' k∨K2 k,Deep.frame g1 fun k hk=> q2 k (.inl hk),f5 h' x' a' K1' _ q1 (fun k hk=> q2 k (.inr hk)) (fun k p q=> q3 k p (.inr q)) (fun k=> Iff.rfl),fun k hk hb=>?_,fun k=>?_⟩
   ·rcases hb with hb|hb
    ·exact q3 k hb (.inl hk)
    ·exact g3 k hk ((f4 k).2 (.inr hb))
   ·rw[q4]
    constructor
    ·rintro(p|p|p)
     ·exact .inr (.inl p)
     ·exact .inl p
     ·exact .inr (.inr p)
    ·rintro(p|p|p)
     ·exact .inr (.inl p)
     ·exact .inl p
     ·exact .inr (.inr p)
theorem get_of{h:Heap}{key uid:Nat}{vs:List V}(he:h.ents[key]? =some (uid,some vs)):h.get key uid=some vs:=by simp[Heap.get,he]
theorem kill_ne(h:Heap){key k:Nat}(hk:k≠key):(h.kill key).ents[k]? =h.ents[k]?:=by
 simp[Heap.kill,List.getElem?_set,Ne.symm hk]
theorem push_lt{h:Heap}{cs:List V}{k:Nat}(hk:k < h.ents.length):(h.push cs).ents[k]? =h.ents[k]?:=by
 simp[Heap.push,List.getElem?_append_left hk]
theorem push_eq(h:Heap)(cs:List V):(h.push cs).ents[h.ents.length]? =some (h.clk,some cs):=by simp[Heap.push]
def lrep(h:Heap)(v:V)(l:List α)(K:Ks):Prop:=
 (v= .nils∧l=[]∧∀k,¬K k)∨∃key uid vs K',v= .sl key uid 0 l.length 1∧h.ents[key]? =some (uid,some vs)∧reps h vs l K'∧¬K' key∧∀k,K k↔k=key∨K' k
instance deepList[One α]:Deep (List α) where
 rep:=lrep
 ds:=1::Deep.ds α
 dep:=Deep.dep α+1
 frame:=by
  rintro h h' v a K (⟨rfl,rfl,h1⟩|⟨key,uid,vs,K',h1,h2,h3,h4,h5⟩) hf
  ·exact .inl ⟨rfl,rfl,h1⟩
  ·exact .inr ⟨key,uid,vs,K',h1,by rw[hf key ((h5 key).2 (.inl rfl))]; exact h2,h3.frame fun k hk=> hf k ((h5 k).2 (.inr hk)),h4,h5⟩
 bd:=by
  rintro h v a K k (⟨rfl,rfl,h1⟩|⟨key,uid,vs,K',h1,h2,h3,h4,h5⟩) hk
  ·exact(h1 k hk).elim
  ·rcases(h5 k).1 hk with rfl|hk
   ·exact(List.getElem?_eq_some_iff.1 h2).1
   ·exact h3.bd hk
 fz:=by
  rintro h v a K (⟨rfl,rfl,h1⟩|⟨key,uid,vs,K',rfl,h2,h3,h4,h5⟩) f
  ·rfl
  ·have hl:=h3.len
   rw[←Nat.add_assoc];simp only[frz,get_of h2,Nat.mul_one,Nat.zero_add,List.drop_zero];rw[if_pos ⟨by omega,by omega⟩,←hl,List.take_length,h3.fz f];simp only[chunk_1]; rfl
 br:=by
  intro a f r;have e:(Enc.enc a:V)= .isl (a.map enc):=rfl;rw[e,←Nat.add_assoc,List.cons_append];simp only[bare,flat_enc,reps.br]
 tkr:=by
  rintro h v a K (⟨rfl,rfl,h1⟩|⟨key,uid,vs,K',rfl,h2,h3,h4,h5⟩) f r
  ·exact⟨h,rfl,rfl,fun _ _=> rfl⟩
  ·have hl:=h3.len
   have hr:reps (h.kill key) vs a K':=h3.frame fun k hk=> kill_ne h fun e=> h4 (e▸hk);obtain⟨g,b1,b2,b3⟩:=hr.tk f r;refine⟨g,?_,by rw[b2]; simp[Heap.kill],fun k hk=>?_⟩
   ·rw[←Nat.add_assoc,List.cons_append]
    simp only[take,get_of h2,Nat.mul_one,Nat.zero_add,List.drop_zero,List.tail_cons];rw[if_pos ⟨by omega,by omega,by simp[hdOk]⟩,←hl,List.take_length,b1];simp only[chunk_1]; rfl
   ·rw[b3 k fun x=> hk ((h5 k).2 (.inr x)),kill_ne h fun e=> hk ((h5 k).2 (.inl e))]
 thr:=by
  intro a h f r;obtain⟨vs,g,b1,b2,b3,b4⟩:=reps.th f r a h;have hl:=b2.len;refine⟨.sl g.ents.length g.clk 0 a.length 1,g.push vs,?_,.inr ⟨g.ents.length,g.clk,vs,_,rfl,push_eq g vs,b2.frame fun k hk=> push_lt hk.2,fun x=> by omega,fun k=>?_⟩,by simp[Heap.push]; omega,fun k hk=>?_⟩
  ·rw[←Nat.add_assoc,List.cons_append]
   have e:(Enc.enc a:V)= .isl (a.map enc):=rfl;rw[e];simp only[thaw,flat_enc,b1,List.length_map]
  ·simp[Heap.push]; omega
  ·rw[push_lt (by omega),b4 k hk]
theorem reps_int{h:Heap}:∀ {vs:List V} {l:List Int} {K:Ks},reps h vs l K→vs=l.map enc∧∀k,¬K k
 | [],[],_,r=>⟨rfl,r⟩
 |v::vs,a::l,K,⟨A,B,g1,g2,g3,g4⟩=> by
  obtain⟨rfl,g1⟩:=g1;obtain⟨rfl,q⟩:=reps_int g2;exact⟨rfl,fun k hk=>((g4 k).1 hk).elim (g1 k) (q k)⟩
theorem int_reps(h:Heap):∀ (l:List Int),reps h (l.map enc) l (fun _=> False)
 | []=> fun _ x=> x
 |a::l=> show reps h (enc a::l.map enc) (a::l) _ from ⟨fun _=> False,fun _=> False,show enc a=enc a∧_ from ⟨rfl,fun _ x=> x⟩,int_reps h l,fun _ x=> x.elim,fun k=> by simp⟩
theorem row_int{h:Heap}{v:V}{l:List Int}{K:Ks}(r:Deep.rep h v l K):(v= .nils∧l=[]∧∀k,¬K k)∨∃key uid,v= .sl key uid 0 l.length 1∧h.ents[key]? =some (uid,some (l.map enc))∧∀k,K k↔k=key:=by
 rcases r with r|⟨key,uid,vs,K',h1,h2,h3,h4,h5⟩
 ·exact .inl r
 ·obtain⟨rfl,q⟩:=reps_int h3
  exact .inr ⟨key,uid,h1,h2,fun k=> by rw[h5]; simp[q k]⟩
theorem int_row{h:Heap}{l:List Int}{K:Ks}{key uid:Nat}(he:h.ents[key]? =some (uid,some (l.map enc)))(hK:∀k,K k↔k=key):Deep.rep h (.sl key uid 0 l.length 1) l K:=
 .inr ⟨key,uid,_,_,rfl,he,int_reps h l,fun x=> x,fun k=> by rw[hK]; simp⟩
theorem appendV_deep{E:List (Nat×Option (List V))}{c key u n b:Nat}{vs:List V}{x:V}(he:E[key]? =some (u,some vs))(hl:vs.length=n)(hb:(n+1)*b≤1099511627776)(h1:n+1≤1099511627776):
  appendV 1 b (.sl key u 0 n 1) 1 [x] ⟨E,c⟩=some (.sl key c 0 (n+1) 1,⟨E.set key (c,some (vs++[x])),c+1⟩):=by
 subst hl;unfold appendV;simp only[Heap.get,he,Nat.zero_add,Nat.mul_one,List.drop_zero,List.take_length,Heap.renew];simp[hb,h1]
theorem res_dp{A:Prog}{g:Nat}{args:List V}{f:Fn}{h:Heap}{S:V→Heap→Prop}(hf:A g=some f)(hl:args.length=f.nargs)(hb:f.body.isClone=false)
  (w:∀e:Env,e.length=f.ntmps - f.nargs+args.length→(∀ (i:Nat) v,args[i]? =some v→e.at i=v)→W A f.body e h (fun x e h'=>(∀i,x≠ .exit i)∧∃v,f.out e h'=some v∧S v h')):∃v h',res A g args h=some (v,h')∧S v h':=by
 have hw:=w (args++List.replicate (f.ntmps - f.nargs) V.undef) (by simp; omega) fun i v hv=> by
  have hlt:=(List.getElem?_eq_some_iff.1 hv).1;simp only[Env.at,List.getD_eq_getElem?_getD,List.getElem?_append_left hlt,hv,Option.getD_some]
 obtain⟨k,x,e1,h1,h2,h3,v,h4,h5⟩:=hw;exact⟨v,h1,Ev.res (.intro hb hf hl ⟨k,x,e1,h1,h2,h3,h4,rfl⟩),h5⟩
theorem deep_round{α:Type}[Enc α][Deep α]{h h1 h2:Heap}{vs:List V}{l:List α}{K K1:Ks}{v:V}{a:α}(g2:reps h vs l K)(r:Deep.rep h1 v a K1)(hK:∀k,K1 k→h.ents.length≤k)
  (old:∀k,k < h.ents.length→h1.ents[k]? =h.ents[k]?) (new:∀k,k < h1.ents.length→K k∨K1 k→h2.ents[k]? =h1.ents[k]?) (hl:h.ents.length≤h1.ents.length):reps h2 (vs++[v]) (l++[a]) (fun k=> K k∨K1 k):=by
 have r1:Deep.rep h2 v a K1:=Deep.frame r fun k q=> new k (Deep.bd r q) (.inr q);have r2:reps h2 vs l K:=g2.frame fun k q=> by
  have hb:=g2.bd q;rw[new k (by omega) (.inl q),old k hb]
 exact reps.snoc r1 r2 (fun k p q=> by have:=g2.bd p; have:=hK k q; omega) (fun k=> Iff.rfl)
theorem set_app_new{E:List (Nat×Option (List V))}{y z:Nat×Option (List V)}{key k:Nat}(hk:k≠key)(hl:k < E.length):((E++[y]).set key z)[k]? =E[k]?:=by
 rw[List.getElem?_set_ne (Ne.symm hk),List.getElem?_append_left hl]
theorem set_app_key{E:List (Nat×Option (List V))}{z:Nat×Option (List V)}{key:Nat}(hl:key < E.length):(E.set key z)[key]? =some z:=by
 rw[List.getElem?_set_self hl]
theorem ans_of_deep{α:Type}[Enc α][Deep α]{A:Prog}{g:Nat}{args:List V}{r:α}(hd:Deep.dep α≤16)(h:∃v h',res A g args Heap.empty=some (v,h')∧∃K,Deep.rep h' v r K):ans A g args=some (Enc.enc r):=by
 obtain⟨v,h',h1,K,h2⟩:=h;unfold ans;rw[h1];have:=Deep.fz h2 (16 - Deep.dep α);rw[show 16 - Deep.dep α+Deep.dep α=FZ from by unfold FZ; omega]at this;exact this
theorem tans_of_deep{α:Type}[Enc α][Deep α]{A:Prog}{g:Nat}{args:List V}{r:α}(hd:Deep.dep α≤16)(h:∃v h',res A g args Heap.empty=some (v,h')∧∃K,Deep.rep h' v r K):tans A g (Deep.ds α) args=some (Enc.enc r):=by
 obtain⟨v,h',h1,K,h2⟩:=h;obtain⟨h2',q,_⟩:=Deep.tk h2 (16 - Deep.dep α);rw[show 16 - Deep.dep α+Deep.dep α=FZ from by unfold FZ; omega]at q;unfold tans;rw[h1];simp only[q]
theorem thaw_deep{α:Type}[Enc α][Deep α](hd:Deep.dep α≤16)(a:α)(h:Heap):∃v h',thaw 16 (Deep.ds α) (Enc.enc a) h=some (v,h')∧Deep.rep h' v a (fun k=> h.ents.length≤k∧k < h'.ents.length)∧h.ents.length≤h'.ents.length∧∀k,k < h.ents.length→h'.ents[k]? =h.ents[k]?:=by
 have:=Deep.th a h (16 - Deep.dep α)
 rwa[show 16 - Deep.dep α+Deep.dep α=16 from by omega]at this
theorem rep_one{α:Type}[Enc α][Deep α][One α]{h:Heap}{v:V}{l:List α}{K:Ks}(r:Deep.rep h v l K):v.cells=[v]∧v.tupless=true:=by
 rcases r with⟨rfl,_⟩|⟨key,uid,vs,K',rfl,_⟩<;> exact⟨rfl,rfl⟩
theorem rep_at{α:Type}[Enc α][Deep α][One α]{h:Heap}{key uid:Nat}{vs:List V}{l:List α}{K:Ks}(g1:h.ents[key]? =some (uid,some vs))(g2:reps h vs l K)(g3:¬K key):Deep.rep h (.sl key uid 0 l.length 1) l (fun k=> k=key∨K k):=
 .inr ⟨key,uid,vs,K,rfl,g1,g2,g3,fun k=> Iff.rfl⟩
theorem set_ne{E:List (Nat×Option (List V))}{z:Nat×Option (List V)}{key k:Nat}(hk:k≠key):(E.set key z)[k]? =E[k]?:=by
 rw[List.getElem?_set_ne (Ne.symm hk)]
theorem ans_agg{A:Prog}{g:Nat}{args:List V}{h':Heap}{p:Int}{d:List Int}{m:V}{ms:List (List (List Int))}{K:Ks}(h1:res A g args Heap.empty=some (V.agg [V.int .i64 p,V.isl (d.map Enc.enc),m],h'))(h2:Deep.rep h' m ms K):
  ans A g args=some (V.agg [V.int .i64 p,V.isl (d.map Enc.enc),V.isl (ms.map Enc.enc)]):=by
 unfold ans;rw[h1];have q:frz h' 15 m=some (V.isl (ms.map Enc.enc)):=Deep.fz h2 8;have q2:frz h' 15 (V.isl (d.map Enc.enc))=some (V.isl (d.map Enc.enc)):=rfl;have q3:frz h' 15 (V.int .i64 p)=some (V.int .i64 p):=rfl;show frz h' 16 _=_;simp only[frz,mapO,q,q2,q3]
theorem tans_agg{A:Prog}{g:Nat}{args:List V}{h':Heap}{p:Int}{d:List Int}{m:V}{ms:List (List (List Int))}{K:Ks}(h1:res A g args Heap.empty=some (V.agg [V.int .i64 p,V.isl (d.map Enc.enc),m],h'))(h2:Deep.rep h' m ms K):
  tans A g [1,1,1] args=some (V.agg [V.int .i64 p,V.iptr [V.isl (d.map Enc.enc)],V.isl (ms.map Enc.enc)]):=by
 unfold tans;rw[h1];obtain⟨h3,q,_⟩:=Deep.tk h2 8;have q':take 15 [1,1,1] m h'=some (V.isl (ms.map Enc.enc),h3):=q;have r:refless 15 (V.isl (d.map Enc.enc))=true:=Enc.rl d 11;have q2:take 15 [1,1,1] (V.isl (d.map Enc.enc)) h'=some (V.iptr [V.isl (d.map Enc.enc)],h'):=by simp only[take,r,if_true]
 have q3:take 15 [1,1,1] (V.int .i64 p) h'=some (V.int .i64 p,h'):=rfl;have q4:mapS (take 15 [1,1,1]) [V.int .i64 p,V.isl (d.map Enc.enc),m] h'=some ([V.int .i64 p,V.iptr [V.isl (d.map Enc.enc)],V.isl (ms.map Enc.enc)],h3):=by simp only[mapS,q',q2,q3]
 show(match(match mapS (take 15 [1,1,1]) [V.int .i64 p,V.isl (d.map Enc.enc),m] h' with|some (ds,h2)=> some (V.agg ds,h2)|none=> none)with|some (t,_)=> some t|none=> none)=_;rw[q4]
theorem thaw_agg(p:Int)(d:List Int)(ms:List (List (List Int)))(h:Heap):∃m h',thaw 16 [1,1,1] (V.agg [V.int .i64 p,V.iptr [V.isl (d.map Enc.enc)],V.isl (ms.map Enc.enc)]) h=some (V.agg [V.int .i64 p,V.isl (d.map Enc.enc),m],h')∧
  Deep.rep h' m ms (fun k=> h.ents.length≤k∧k < h'.ents.length)∧h.ents.length≤h'.ents.length∧∀k,k < h.ents.length→h'.ents[k]? =h.ents[k]?:=by
 obtain⟨m,h',t1,t2⟩:=Deep.th ms h 8;have t1':thaw 15 [1,1,1] (V.isl (ms.map Enc.enc)) h=some (m,h'):=t1;refine⟨m,h',?_,t2⟩;have q2:thaw 15 [1,1,1] (V.iptr [V.isl (d.map Enc.enc)]) h=some (V.isl (d.map Enc.enc),h):=rfl;have q3:thaw 15 [1,1,1] (V.int .i64 p) h=some (V.int .i64 p,h):=rfl;have q4:mapS (thaw 15 [1,1,1]) [V.int .i64 p,V.iptr [V.isl (d.map Enc.enc)],V.isl (ms.map Enc.enc)] h=some ([V.int .i64 p,V.isl (d.map Enc.enc),m],h'):=by simp only[mapS,t1',q2,q3]
 show(match mapS (thaw 15 [1,1,1]) [V.int .i64 p,V.iptr [V.isl (d.map Enc.enc)],V.isl (ms.map Enc.enc)] h with|some (ds,h2)=> some (V.agg ds,h2)|none=> none)=_;rw[q4]
theorem rep_focus{α:Type}[Enc α][Deep α][One α]{h:Heap}{v:V}{l:List α}{K:Ks}{i:Nat}{a:α}(r:Deep.rep h v l K)(hi:l[i]? =some a):∃key uid vs x,∃K1:Ks,v= .sl key uid 0 l.length 1∧h.ents[key]? =some (uid,some vs)∧vs[i]? =some x∧vs.length=l.length∧Deep.rep h x a K1∧(∀k,K1 k→K k)∧
  ∀ (h':Heap) (a':α),Deep.rep h' x a' K1→(∀k,K k→¬K1 k→h'.ents[k]? =h.ents[k]?)→Deep.rep h' v (l.set i a') K:=by
 obtain⟨hlt,rfl⟩:=List.getElem?_eq_some_iff.1 hi;rcases r with⟨rfl,rfl,_⟩|⟨key,uid,vs,K',rfl,h2,h3,h4,h5⟩
 ·exact absurd hlt (by simp)
 ·obtain⟨x,K1,K2,f1,f2,f3,f4,f5⟩:=h3.focus hlt
  refine⟨key,uid,vs,x,K1,rfl,h2,f1,h3.len,f2,fun k hk=>(h5 k).2 (.inr ((f4 k).2 (.inl hk))),fun h' a' q1 q2=>?_⟩;have hx:vs.set i x=vs:=set_self f1;have hr:=f5 h' x a' K1 K' q1 (fun k hk=> q2 k ((h5 k).2 (.inr ((f4 k).2 (.inr hk)))) (fun p=> f3 k p hk)) f3 f4;rw[hx]at hr;have e:(V.sl key uid 0 l.length 1)= .sl key uid 0 (l.set i a').length 1:=by rw[List.length_set]
  rw[e];refine .inr ⟨key,uid,vs,K',rfl,?_,hr,h4,h5⟩;rw[q2 key ((h5 key).2 (.inl rfl)) (fun p=> h4 ((f4 key).2 (.inl p)))];exact h2
theorem rep_len{α:Type}[Enc α][Deep α][One α]{h:Heap}{v:V}{l:List α}{K:Ks}(r:Deep.rep h v l K):lenV v=some l.length:=by
 rcases r with⟨rfl,rfl,_⟩|⟨key,uid,vs,K',rfl,_⟩<;> rfl
theorem ofCells_drop{vs:List V}{i:Nat}{x:V}(h:vs[i]? =some x):ofCells none (vs.drop i)=some x:=by
 obtain⟨hlt,rfl⟩:=List.getElem?_eq_some_iff.1 h;rw[List.drop_eq_getElem_cons hlt]; rfl
theorem setI_eq{α:Type}{l l2:List α}{i:Int}{y:α}(h:setI l i y=some l2):l2=l.set i.toNat y:=by
 unfold setI at h; split at h
 ·cases h; rfl
 ·cases h
theorem reps_nils{α:Type}[Enc α][Deep α][One α](h:Heap):∀n:Nat,reps h (List.replicate n V.nils) (List.replicate n ([]:List α)) (fun _=> False)
 |0=> fun _ x=> x
 |n+1=> by
  rw[List.replicate_succ,List.replicate_succ];exact⟨fun _=> False,fun _=> False,.inl ⟨rfl,rfl,fun _ x=> x⟩,reps_nils h n,fun _ x=> x.elim,fun k=> by simp⟩
theorem mkL_deep{α:Type}{b:Nat}{n:Int}{l2:List (List α)}(g:mkL b n ([]:List α)=some l2):0≤n∧n*b≤1099511627776∧n≤1099511627776∧l2=List.replicate n.toNat []:=by
 unfold mkL at g; split at g
 ·rename_i hc; cases g; exact⟨hc.1,hc.2.1,hc.2.2,rfl⟩
 ·cases g
theorem take_ints(f:Nat)(ss:List Nat)(h:Heap):∀l:List Int,mapS (take (f+1) ss) (l.map enc) h=some (l.map enc,h)
 | []=> rfl
 |a::l=> by
  have q:take (f+1) ss (enc a) h=some (enc a,h):=by cases ss <;> rfl
  simp only[List.map_cons,mapS,q,take_ints f ss h l]
theorem take_row{h:Heap}{v:V}{l:List Int}{K:Ks}(r:Deep.rep h v l K)(f:Nat)(ss:List Nat):∃h',take (f+2) (1::ss) v h=some (V.isl (l.map enc),h')∧h'.ents.length=h.ents.length∧∀k,¬K k→h'.ents[k]? =h.ents[k]?:=by
 rcases row_int r with⟨rfl,rfl,_⟩|⟨key,uid,rfl,h2,h3⟩
 ·exact⟨h,rfl,rfl,fun _ _=> rfl⟩
 ·refine⟨h.kill key,?_,by simp[Heap.kill],fun k hk=> kill_ne h fun e=> hk ((h3 k).2 e)⟩
  have e:(List.map (enc:Int→V) l).take l.length=l.map enc:=by rw[List.take_of_length_le (by simp)]
  simp only[take,get_of h2,Nat.mul_one,Nat.zero_add,List.drop_zero,List.tail_cons];rw[if_pos ⟨by simp,by omega,by simp[hdOk]⟩,e,take_ints f ss];simp only[chunk_1]
theorem tans_agg2{A:Prog}{g:Nat}{args:List V}{h':Heap}{p:Int}{d:List Int}{dv m:V}{ms:List (List (List Int))}{K1 K2:Ks}(h1:res A g args Heap.empty=some (V.agg [V.int .i64 p,dv,m],h'))(hd:Deep.rep h' dv d K1)(h2:Deep.rep h' m ms K2)(hk:∀k,K1 k→¬K2 k):
  tans A g [1,1,1] args=some (V.agg [V.int .i64 p,V.isl (d.map enc),V.isl (ms.map enc)]):=by
 unfold tans;rw[h1];obtain⟨g1,q1,_,q1'⟩:=take_row hd 13 [1,1];obtain⟨g2,q2,_⟩:=Deep.tk (Deep.frame h2 fun k x=> q1' k fun y=> hk k y x) 8;have q2':take 15 [1,1,1] m g1=some (V.isl (ms.map enc),g2):=q2;have q1'':take 15 [1,1,1] dv h'=some (V.isl (d.map enc),g1):=q1;have q3:take 15 [1,1,1] (V.int .i64 p) h'=some (V.int .i64 p,h'):=rfl;have q4:mapS (take 15 [1,1,1]) [V.int .i64 p,dv,m] h'=some ([V.int .i64 p,V.isl (d.map enc),V.isl (ms.map enc)],g2):=by simp only[mapS,q1'',q2',q3]
 show(match(match mapS (take 15 [1,1,1]) [V.int .i64 p,dv,m] h' with|some (ds,h2)=> some (V.agg ds,h2)|none=> none)with|some (t,_)=> some t|none=> none)=_;rw[q4]
theorem ans_agg2{A:Prog}{g:Nat}{args:List V}{h':Heap}{p:Int}{d:List Int}{dv m:V}{ms:List (List (List Int))}{K1 K2:Ks}(h1:res A g args Heap.empty=some (V.agg [V.int .i64 p,dv,m],h'))(hd:Deep.rep h' dv d K1)(h2:Deep.rep h' m ms K2):
  ans A g args=some (V.agg [V.int .i64 p,V.isl (d.map enc),V.isl (ms.map enc)]):=by
 unfold ans;rw[h1];have q:frz h' 15 m=some (V.isl (ms.map enc)):=Deep.fz h2 8;have q2:frz h' 15 dv=some (V.isl (d.map enc)):=Deep.fz hd 10;have q3:frz h' 15 (V.int .i64 p)=some (V.int .i64 p):=rfl;have q4:mapO (frz h' 15) [V.int .i64 p,dv,m]=some [V.int .i64 p,V.isl (d.map enc),V.isl (ms.map enc)]:=by simp only[mapO,q,q2,q3]
 show(match mapO (frz h' 15) [V.int .i64 p,dv,m]with|some ds=> some (V.agg ds)|none=> none)=_;rw[q4]
end
end Rv
namespace Rv
set_option linter.unusedVariables false
set_option linter.unusedSimpArgs false
open Enc (enc)
structure DV where
 {α:Type}
 [e:Enc α]
 [d:Deep α]
 a:α
def DV.enc(x:DV):V:= @Enc.enc x.α x.e x.a
def DV.rep(x:DV)(h:Heap)(v:V)(K:Ks):Prop:= @Deep.rep x.α x.e x.d h v x.a K
def DV.ds(x:DV):List Nat:= @Deep.ds x.α x.e x.d
def DV.dep(x:DV):Nat:= @Deep.dep x.α x.e x.d
def repF(h:Heap):List V→List DV→Ks→Prop
 | [],[],K=>∀k,¬K k
 |v::vs,a::l,K=>∃K1 K2:Ks,a.rep h v K1∧repF h vs l K2∧(∀k,K1 k→¬K2 k)∧∀k,K k↔K1 k∨K2 k
 |_,_,_=> False
theorem DV.frame{x:DV}{h h':Heap}{v:V}{K:Ks}(r:x.rep h v K)(hf:∀k,K k→h'.ents[k]? =h.ents[k]?):x.rep h' v K:= @Deep.frame x.α x.e x.d _ _ _ _ _ r hf
theorem DV.bd{x:DV}{h:Heap}{v:V}{K:Ks}{k:Nat}(r:x.rep h v K)(hk:K k):k < h.ents.length:= @Deep.bd x.α x.e x.d _ _ _ _ _ r hk
theorem repF.len{h:Heap}:∀ {vs:List V} {l:List DV} {K:Ks},repF h vs l K→vs.length=l.length
 | [],[],_,_=> rfl
 |v::vs,a::l,K,⟨_,_,_,h2,_⟩=> by simp[h2.len]
theorem repF.frame{h h':Heap}:∀ {vs:List V} {l:List DV} {K:Ks},repF h vs l K→(∀k,K k→h'.ents[k]? =h.ents[k]?)→repF h' vs l K
 | [],[],_,r,_=> r
 |v::vs,a::l,K,⟨K1,K2,h1,h2,h3,h4⟩,hf=>⟨K1,K2,DV.frame (x:=a) h1 fun k hk=> hf k ((h4 k).2 (.inl hk)),h2.frame fun k hk=> hf k ((h4 k).2 (.inr hk)),h3,h4⟩
theorem repF.bd{h:Heap}{k:Nat}:∀ {vs:List V} {l:List DV} {K:Ks},repF h vs l K→K k→k < h.ents.length
 | [],[],_,r,hk=>(r k hk).elim
 |v::vs,a::l,K,⟨K1,K2,h1,h2,h3,h4⟩,hk=> by
  rcases(h4 k).1 hk with hk|hk
  ·exact DV.bd (x:=a) h1 hk
  ·exact h2.bd hk
def Fits(ss:List Nat)(B:Nat)(l:List DV):Prop:=∀d∈l,(∃r,ss=d.ds++r)∧d.dep≤B
theorem Fits.tail{ss:List Nat}{B:Nat}{a:DV}{l:List DV}(h:Fits ss B (a::l)):Fits ss B l:=fun d hd=> h d (List.mem_cons_of_mem _ hd)
theorem Fits.more{ss:List Nat}{B:Nat}{l:List DV}(h:Fits ss B l)(r:List Nat):Fits (ss++r) B l:=fun d hd=>⟨by obtain⟨q,hq⟩:=(h d hd).1; exact⟨q++r,by rw[hq,List.append_assoc]⟩,(h d hd).2⟩
theorem repF.fz{h:Heap}{ss:List Nat}{B:Nat}(f:Nat):∀ {vs:List V} {l:List DV} {K:Ks},Fits ss B l→repF h vs l K→mapO (frz h (f+B)) vs=some (l.map DV.enc)
 | [],[],_,_,_=> rfl
 |v::vs,a::l,K,hb,⟨K1,K2,h1,h2,h3,h4⟩=> by
  have hB:=(hb a List.mem_cons_self).2;have q:frz h (f+B) v=some a.enc:=by
   have:= @Deep.fz a.α a.e a.d _ _ _ _ h1 (f+B - a.dep);rw[show f+B - a.dep+ @Deep.dep a.α a.e a.d=f+B from by have:a.dep= @Deep.dep a.α a.e a.d:=rfl; omega]at this;exact this
  simp only[mapO,q,h2.fz f hb.tail,List.map_cons]
theorem repF.br{ss:List Nat}{B:Nat}(f:Nat):∀ {l:List DV},Fits ss B l→(l.map DV.enc).all (bare (f+B) ss)=true
 | [],_=> rfl
 |a::l,hb=> by
  obtain⟨⟨r,hr⟩,hB⟩:=hb a List.mem_cons_self;have q:bare (f+B) ss a.enc=true:=by
   have:= @Deep.br a.α a.e a.d a.a (f+B - a.dep) r;rw[show f+B - a.dep+ @Deep.dep a.α a.e a.d=f+B from by have:a.dep= @Deep.dep a.α a.e a.d:=rfl; omega]at this;rw[hr]; exact this
  simp only[List.map_cons,List.all_cons,q,repF.br f hb.tail,Bool.and_self]
theorem repF.tk{ss:List Nat}{B:Nat}(f:Nat):∀ {vs:List V} {l:List DV} {K:Ks} {h:Heap},Fits ss B l→repF h vs l K→∃h',mapS (take (f+B) ss) vs h=some (l.map DV.enc,h')∧h'.ents.length=h.ents.length∧∀k,¬K k→h'.ents[k]? =h.ents[k]?
 | [],[],_,h,_,_=>⟨h,rfl,rfl,fun _ _=> rfl⟩
 |v::vs,a::l,K,h,hb,⟨K1,K2,h1,h2,h3,h4⟩=> by
  obtain⟨⟨r,hr⟩,hB⟩:=hb a List.mem_cons_self;obtain⟨g,a1,a2,a3⟩:= @Deep.tkr a.α a.e a.d _ _ _ _ h1 (f+B - a.dep) r;rw[show f+B - a.dep+ @Deep.dep a.α a.e a.d=f+B from by have:a.dep= @Deep.dep a.α a.e a.d:=rfl; omega]at a1;have a1':take (f+B) ss v h=some (a.enc,g):=by rw[hr]; exact a1
  have r2:repF g vs l K2:=h2.frame fun k hk=> a3 k fun hk1=> h3 k hk1 hk;obtain⟨g',b1,b2,b3⟩:=r2.tk f hb.tail;refine⟨g',by simp only[mapS,a1',b1,List.map_cons],by omega,fun k hk=>?_⟩;rw[b3 k fun x=> hk ((h4 k).2 (.inr x)),a3 k fun x=> hk ((h4 k).2 (.inl x))]
theorem repF.th{ss:List Nat}{B:Nat}(f:Nat):∀ (l:List DV) (h:Heap),Fits ss B l→∃vs h',mapS (thaw (f+B) ss) (l.map DV.enc) h=some (vs,h')∧repF h' vs l (fun k=> h.ents.length≤k∧k < h'.ents.length)∧h.ents.length≤h'.ents.length∧∀k,k < h.ents.length→h'.ents[k]? =h.ents[k]?
 | [],h,_=>⟨[],h,rfl,fun k hk=> by omega,Nat.le_refl _,fun _ _=> rfl⟩
 |a::l,h,hb=> by
  obtain⟨⟨r,hr⟩,hB⟩:=hb a List.mem_cons_self;obtain⟨v,g,a1,a2,a3,a4⟩:= @Deep.thr a.α a.e a.d a.a h (f+B - a.dep) r;rw[show f+B - a.dep+ @Deep.dep a.α a.e a.d=f+B from by have:a.dep= @Deep.dep a.α a.e a.d:=rfl; omega]at a1;have a1':thaw (f+B) ss a.enc h=some (v,g):=by rw[hr]; exact a1
  obtain⟨vs,g',b1,b2,b3,b4⟩:=repF.th f l g hb.tail;have a2':a.rep g v (fun k=> h.ents.length≤k∧k < g.ents.length):=a2;refine⟨v::vs,g',by simp only[List.map_cons,mapS,a1',b1],⟨_,_,DV.frame (x:=a) a2' fun k hk=> b4 k hk.2,b2,fun k p q=> by omega,fun k=> by omega⟩,by omega,fun k hk=>?_⟩;rw[b4 k (by omega),a4 k hk]
abbrev deepRec{α:Type}[Enc α](fs:α→List DV)(he:∀x,(enc x:V)= .agg ((fs x).map DV.enc))(s:Nat)(ss:List Nat)(B:Nat)(hB:∀x,Fits (s::ss) B (fs x)):Deep α where
 rep h v a K:=∃vs,v= .agg vs∧repF h vs (fs a) K
 ds:=s::ss
 dep:=B+1
 frame:=by
  rintro h h' v a K ⟨vs,rfl,r⟩ hf;exact⟨vs,rfl,r.frame hf⟩
 bd:=by
  rintro h v a K k ⟨vs,rfl,r⟩ hk;exact r.bd hk
 fz:=by
  rintro h v a K ⟨vs,rfl,r⟩ f;rw[←Nat.add_assoc];simp only[frz,r.fz f (hB a),he]
 br:=by
  intro a f r;rw[←Nat.add_assoc,he];simp only[bare];exact repF.br f ((hB a).more r)
 tkr:=by
  rintro h v a K ⟨vs,rfl,q⟩ f r;obtain⟨h',g1,g2,g3⟩:=q.tk f ((hB a).more r);refine⟨h',?_,g2,g3⟩;rw[←Nat.add_assoc,List.cons_append];simp only[take];rw[←List.cons_append,g1,he]
 thr:=by
  intro a h f r;obtain⟨vs,h',g1,g2,g3,g4⟩:=repF.th f (fs a) h ((hB a).more r);refine⟨.agg vs,h',?_,⟨vs,rfl,g2⟩,g3,g4⟩;rw[←Nat.add_assoc,he,List.cons_append];simp only[thaw];rw[←List.cons_append,g1]
theorem tans_tup{A:Prog}{g:Nat}{args:List V}{h':Heap}{vs:List V}{l:List DV}{K:Ks}{s:Nat}{ss:List Nat}(hl:Fits (s::ss) 15 l)(h1:res A g args Heap.empty=some (.tup vs,h'))(h2:repF h' vs l K):tans A g (s::ss) args=some (.tup (l.map DV.enc)):=by
 unfold tans;rw[h1];obtain⟨g',q,_⟩:=h2.tk 0 hl;rw[Nat.zero_add]at q;show(match take (15+1) (s::ss) (.tup vs) h' with|some (t,_)=> some t|none=> none)=_;simp only[take,q]
theorem ans_tup{A:Prog}{g:Nat}{args:List V}{h':Heap}{vs:List V}{l:List DV}{K:Ks}{ss:List Nat}(hl:Fits ss 15 l)(h1:res A g args Heap.empty=some (.tup vs,h'))(h2:repF h' vs l K):ans A g args=some (.tup (l.map DV.enc)):=by
 unfold ans;rw[h1];have q:=h2.fz 0 hl;rw[Nat.zero_add]at q;show frz h' (15+1) (.tup vs)=_;simp only[frz,q]
theorem thaw_tup{s:Nat}{ss:List Nat}{l:List DV}(hl:Fits (s::ss) 15 l)(h:Heap):∃vs h',thaw 16 (s::ss) (.tup (l.map DV.enc)) h=some (.tup vs,h')∧repF h' vs l (fun k=> h.ents.length≤k∧k < h'.ents.length)∧h.ents.length≤h'.ents.length∧∀k,k < h.ents.length→h'.ents[k]? =h.ents[k]?:=by
 obtain⟨vs,h',g1,g2,g3,g4⟩:=repF.th 0 l h hl;rw[Nat.zero_add]at g1;refine⟨vs,h',?_,g2,g3,g4⟩;show thaw (15+1) _ _ _=_;simp only[thaw,g1]
theorem bare_tup{s:Nat}{ss:List Nat}{l:List DV}(hl:Fits (s::ss) 15 l):bare 16 (s::ss) (.tup (l.map DV.enc))=true:=by
 show bare (15+1) _ _=_;simp only[bare];have:=repF.br 0 hl
 rwa[Nat.zero_add]at this
section
variable {α:Type} (E:List α) (x y z w:α)
theorem ge2a:(E++[x]++[y])[E.length]? =some x:=by simp
theorem ge2b:(E++[x]++[y])[E.length+1]? =some y:=by simp
theorem ge3a:(E++[x]++[y]++[z])[E.length]? =some x:=by simp
theorem ge3b:(E++[x]++[y]++[z])[E.length+1]? =some y:=by simp
theorem ge3c:(E++[x]++[y]++[z])[E.length+2]? =some z:=by simp
theorem se2a:(E++[x]++[y]).set E.length w=E++[w]++[y]:=by simp
theorem se2b:(E++[x]++[y]).set (E.length+1) w=E++[x]++[w]:=by
 rw[List.append_assoc,List.set_append_right _ _ (by omega)]; simp
theorem se3a:(E++[x]++[y]++[z]).set E.length w=E++[w]++[y]++[z]:=by simp
theorem se3b:(E++[x]++[y]++[z]).set (E.length+1) w=E++[x]++[w]++[z]:=by
 rw[List.append_assoc,List.append_assoc,List.set_append_right _ _ (by omega)]; simp
theorem se3c:(E++[x]++[y]++[z]).set (E.length+2) w=E++[x]++[y]++[w]:=by
 rw[List.append_assoc,List.append_assoc,List.set_append_right _ _ (by omega)]; simp
theorem le1:(E++[x]).length=E.length+1:=by simp
end
theorem frz_row{E:List (Nat×Option (List V))}{c key uid:Nat}{l:List Int}(h:E[key]? =some (uid,some (l.map enc))):frz ⟨E,c⟩ 16 (.sl key uid 0 l.length 1)=some (.isl (l.map enc)):=
 Deep.fz (α:=List Int) (K:=fun k=> k=key) (int_row h fun k=> Iff.rfl) 11
theorem repF_nil(h:Heap):repF h [] [] (fun _=> False):=fun _ x=> x
theorem repF_int{h:Heap}{vs:List V}{p:Int}{l:List DV}{K:Ks}(r:repF h vs l K):repF h (V.int .i64 p::vs) (⟨p⟩::l) K:=⟨fun _=> False,K,⟨rfl,fun _ x=> x⟩,r,fun _ x=> x.elim,fun k=> by simp⟩
theorem repF_cons{α:Type}[Enc α][Deep α]{h:Heap}{v:V}{a:α}{vs:List V}{l:List DV}{K1 K2:Ks}(h1:Deep.rep h v a K1)(h2:repF h vs l K2)(hd:∀k,K1 k→¬K2 k):repF h (v::vs) (⟨a⟩::l) (fun k=> K1 k∨K2 k):=⟨K1,K2,h1,h2,hd,fun k=> Iff.rfl⟩
theorem repF.to{h:Heap}{vs:List V}{l:List DV}{K K':Ks}(r:repF h vs l K)(he:∀k,K' k↔K k):repF h vs l K':=by
 have:K'=K:=by funext k; exact propext (he k)
 rw[this]; exact r
theorem repF_int_un{h:Heap}{vs:List V}{p:Int}{l:List DV}{K:Ks}(r:repF h vs (⟨p⟩::l) K):∃ws,vs=V.int .i64 p::ws∧repF h ws l K:=by
 cases vs with
 |nil=> exact r.elim
 |cons v ws=>
  obtain⟨K1,K2,h1,h2,h3,h4⟩:=r;have h1':Deep.rep h v p K1:=h1;obtain⟨rfl,h1'⟩:=h1';exact⟨ws,rfl,h2.to fun k=> by rw[h4]; simp[h1' k]⟩
theorem repF_cons_un{α:Type}[Enc α][Deep α]{h:Heap}{vs:List V}{a:α}{l:List DV}{K:Ks}(r:repF h vs (⟨a⟩::l) K):∃v ws,∃K1 K2:Ks,vs=v::ws∧Deep.rep h v a K1∧repF h ws l K2∧(∀k,K1 k→¬K2 k)∧∀k,K k↔K1 k∨K2 k:=by
 cases vs with
 |nil=> exact r.elim
 |cons v ws=>
  obtain⟨K1,K2,h1,h2,h3,h4⟩:=r;exact⟨v,ws,K1,K2,rfl,h1,h2,h3,h4⟩
theorem repF_nil_un{h:Heap}{vs:List V}{K:Ks}(r:repF h vs [] K):vs=[]∧∀k,¬K k:=by
 cases vs with
 |nil=> exact⟨rfl,r⟩
 |cons v ws=> exact r.elim
theorem repF_1un{α:Type}[Enc α][Deep α]{h:Heap}{vs:List V}{a:α}{K:Ks}(r:repF h vs [⟨a⟩] K):∃v,vs=[v]∧Deep.rep h v a K:=by
 obtain⟨v,ws,K1,K2,rfl,h1,h2,h3,h4⟩:=repF_cons_un r;obtain⟨rfl,h2⟩:=repF_nil_un h2;have:K=K1:=by funext k; exact propext (by rw[h4]; simp[h2 k])
 rw[this]; exact⟨v,rfl,h1⟩
theorem repF_1{α:Type}[Enc α][Deep α]{h:Heap}{v:V}{a:α}{K:Ks}(r:Deep.rep h v a K):repF h [v] [⟨a⟩] K:=⟨K,fun _=> False,r,fun _ x=> x,fun _ _ x=> x,fun k=> by simp⟩
theorem rec3_un{α β:Type}[Enc α][Deep α][Enc β][Deep β]{h:Heap}{vs:List V}{p:Int}{a:α}{b:β}{K:Ks}(r:repF h vs [⟨p⟩,⟨a⟩,⟨b⟩] K):∃v w,∃K1 K2:Ks,vs=[V.int .i64 p,v,w]∧Deep.rep h v a K1∧Deep.rep h w b K2∧(∀k,K1 k→¬K2 k)∧∀k,K k↔K1 k∨K2 k:=by
 obtain⟨ws,rfl,r'⟩:=repF_int_un r;obtain⟨v,ws',K1,K2,rfl,h1,h2,h3,h4⟩:=repF_cons_un r';obtain⟨w,rfl,h5⟩:=repF_1un h2;exact⟨v,w,K1,K2,rfl,h1,h5,h3,h4⟩
theorem rec3{α β:Type}[Enc α][Deep α][Enc β][Deep β]{h:Heap}{p:Int}{a:α}{b:β}{v w:V}{K1 K2:Ks}(h1:Deep.rep h v a K1)(h2:Deep.rep h w b K2)(h3:∀k,K1 k→¬K2 k):repF h [V.int .i64 p,v,w] [⟨p⟩,⟨a⟩,⟨b⟩] (fun k=> K1 k∨K2 k):=
 repF_int (repF_cons h1 (repF_1 h2) h3)
theorem rep_nils{α:Type}[Enc α][Deep α][One α](h:Heap):Deep.rep h V.nils ([]:List α) (fun _=> False):= .inl ⟨rfl,rfl,fun _ x=> x⟩
theorem pair_rep{α:Type}[Enc α][Deep α]{h:Heap}{v:V}{a:α}{K:Ks}(r:Deep.rep h v a K)(c:Int):repF h [v,V.int .i64 c] [⟨a⟩,⟨c⟩] K:=⟨K,fun _=> False,r,repF_int (repF_nil h),fun _ _ x=> x,fun k=> by simp⟩
theorem pair_un{α:Type}[Enc α][Deep α]{h:Heap}{vs:List V}{a:α}{c:Int}{K:Ks}(r:repF h vs [⟨a⟩,⟨c⟩] K):∃v,vs=[v,V.int .i64 c]∧Deep.rep h v a K:=by
 obtain⟨v,ws,K1,K2,rfl,h1,h2,h3,h4⟩:=repF_cons_un r;obtain⟨ws',rfl,h5⟩:=repF_int_un h2;obtain⟨rfl,h6⟩:=repF_nil_un h5;have:K=K1:=by funext k; exact propext (by rw[h4]; simp[h6 k])
 rw[this]; exact⟨v,rfl,h1⟩
theorem fits_pair{α:Type}[Enc α][Deep α]{a:α}{c:Int}{ss:List Nat}(h1:ss=Deep.ds α)(h2:Deep.dep α≤15):Fits ss 15 [⟨a⟩,⟨c⟩]:=by
 intro d hd;simp only[List.mem_cons,List.not_mem_nil,or_false]at hd;rcases hd with rfl|rfl
 ·exact⟨⟨[],by rw[List.append_nil]; exact h1⟩,h2⟩
 ·exact⟨⟨_,rfl⟩,Nat.le_of_ble_eq_true rfl⟩
theorem thawD{α:Type}[Enc α][Deep α](hd:Deep.dep α≤16)(a:α)(h:Heap):∃v h',∃K:Ks,thaw 16 (Deep.ds α) (Enc.enc a) h=some (v,h')∧Deep.rep h' v a K∧(∀k,K k→h.ents.length≤k∧k < h'.ents.length)∧h.ents.length≤h'.ents.length∧∀k,k < h.ents.length→h'.ents[k]? =h.ents[k]?:=by
 obtain⟨v,h',h1,h2,h3⟩:=thaw_deep hd a h;exact⟨v,h',_,h1,h2,fun k q=> q,h3⟩
theorem thawP{α:Type}[Enc α][Deep α]{s:Nat}{ss:List Nat}(hd:s::ss=Deep.ds α∧Deep.dep α≤15)(a:α)(c:Int)(h:Heap):∃v h',∃K:Ks,thaw 16 (s::ss) (.tup [Enc.enc a,V.int .i64 c]) h=some (.tup [v,V.int .i64 c],h')∧Deep.rep h' v a K∧(∀k,K k→h.ents.length≤k∧k < h'.ents.length)∧h.ents.length≤h'.ents.length∧∀k,k < h.ents.length→h'.ents[k]? =h.ents[k]?:=by
 obtain⟨vs,h',h1,h2,h3⟩:=thaw_tup (fits_pair (a:=a) (c:=c) hd.1 hd.2) h;obtain⟨v,rfl,h4⟩:=pair_un h2;exact⟨v,h',_,h1,h4,fun k q=> q,h3⟩
theorem append_rep{α:Type}[Enc α][Deep α][One α]{E:List (Nat×Option (List V))}{c b:Nat}{v x:V}{l l2:List α}{a:α}{K K1:Ks}(r:Deep.rep ⟨E,c⟩ v l K)(r1:Deep.rep ⟨E,c⟩ x a K1)(hd:∀k,K k→¬K1 k)(g:app b l [a]=some l2):
  ∃v' E' c',∃K':Ks,appendV 1 b v 1 [x] ⟨E,c⟩=some (v',⟨E',c'⟩)∧Deep.rep ⟨E',c'⟩ v' l2 K'∧(∀k,K' k→K k∨K1 k∨E.length≤k)∧(∀k,k < E.length→¬K k→E'[k]? =E[k]?)∧E.length≤E'.length:=by
 obtain⟨q1,q2,rfl⟩:=app_w g;simp only[List.length_cons,List.length_nil,Nat.zero_add]at q1 q2;rcases r with⟨rfl,rfl,hK⟩|⟨key,uid,vs,K0,rfl,g1,g2,g3,g4⟩
 ·simp only[List.length_nil,Nat.zero_add]at q1 q2
  refine⟨.sl E.length c 0 1 1,E++[(c,some [x])],c+1,fun k=> k=E.length∨K1 k,?_,?_,fun k q=> q.elim (fun q=> .inr (.inr (by omega))) (fun q=> .inr (.inl q)),fun k q _=> List.getElem?_append_left q,by simp⟩
  ·simp[appendV,Heap.push]; omega
  ·have rr:reps ⟨E++[(c,some [x])],c+1⟩ [x] [a] K1:=⟨K1,fun _=> False,Deep.frame r1 fun k q=> List.getElem?_append_left (Deep.bd r1 q),fun _ y=> y,fun _ _ y=> y,fun k=> by simp⟩
   exact rep_at (l:=[a]) (get_last _ _) rr (fun q=> by have:=Deep.bd r1 q; simp at this)
 ·have hk:key < E.length:=(List.getElem?_eq_some_iff.1 g1).1
  refine⟨.sl key c 0 (l.length+1) 1,E.set key (c,some (vs++[x])),c+1,fun k=> k=key∨(K0 k∨K1 k),appendV_deep g1 g2.len q1 q2,?_,fun k q=>?_,fun k q nk=> set_ne (fun e=> nk ((g4 k).2 (.inl e))),by simp⟩
  ·have nk1:¬K1 key:=fun q=> hd key ((g4 key).2 (.inl rfl)) q
   have rr:reps ⟨E.set key (c,some (vs++[x])),c+1⟩ (vs++[x]) (l++[a]) (fun k=> K0 k∨K1 k):=
    reps.snoc (Deep.frame r1 fun k q=> set_ne (fun e=> by subst e; exact nk1 q)) (g2.frame fun k q=> set_ne (fun e=> by subst e; exact g3 q)) (fun k q=> hd k ((g4 k).2 (.inr q))) (fun k=> Iff.rfl)
   have:=rep_at (l:=l++[a]) (set_app_key (z:=(c,some (vs++[x]))) hk) rr (fun q=> q.elim g3 nk1);simp only[List.length_append,List.length_cons,List.length_nil,Nat.zero_add]at this;exact this
  ·rcases q with rfl|q|q
   ·exact .inl ((g4 _).2 (.inl rfl))
   ·exact .inl ((g4 k).2 (.inr q))
   ·exact .inr (.inl q)
end Rv
namespace Rv
set_option linter.unusedVariables false
set_option linter.unusedSimpArgs false
open Enc (enc)
structure MatAt (E:List (Nat×Option (List V))) (vs:List V) (l:List (List Int)) (B:Nat→Prop):Prop where
 len:vs.length=l.length
 row:∀ (i:Nat) v r,vs[i]? =some v→l[i]? =some r→∃k u,v= .sl k u 0 r.length 1∧E[k]? =some (u,some (r.map enc))∧B k
 inj:∀ (i j k u n k' u' n':Nat),vs[i]? =some (.sl k u 0 n 1)→vs[j]? =some (.sl k' u' 0 n' 1)→k=k'→i=j
variable {E:List (Nat×Option (List V))} {vs:List V} {l:List (List Int)} {B:Nat→Prop}
theorem MatAt.nil{B:Nat→Prop}:MatAt E [] [] B:=⟨rfl,fun i v r h=> by simp at h,fun i j k u n k' u' n' h=> by simp at h⟩
theorem MatAt.frame{E':List (Nat×Option (List V))}(m:MatAt E vs l B)(hf:∀k,k < E.length→B k→E'[k]? =E[k]?):MatAt E' vs l B:=
 ⟨m.len,fun i v r h1 h2=> by
  obtain⟨k,u,e,g,b⟩:=m.row i v r h1 h2;exact⟨k,u,e,by rw[hf k (List.getElem?_eq_some_iff.1 g).1 b]; exact g,b⟩,m.inj⟩
theorem MatAt.mono{B':Nat→Prop}(m:MatAt E vs l B)(h:∀k,k < E.length→B k→B' k):MatAt E vs l B':=
 ⟨m.len,fun i v r h1 h2=> by
  obtain⟨k,u,e,g,b⟩:=m.row i v r h1 h2;exact⟨k,u,e,g,h k (List.getElem?_eq_some_iff.1 g).1 b⟩,m.inj⟩
theorem MatAt.get(m:MatAt E vs l B){i:Nat}{r:List Int}(h:l[i]? =some r):∃k u,vs[i]? =some (.sl k u 0 r.length 1)∧E[k]? =some (u,some (r.map enc))∧B k:=by
 have hi:i < vs.length:=by rw[m.len]; exact(List.getElem?_eq_some_iff.1 h).1
 obtain⟨k,u,e,g,b⟩:=m.row i _ r (List.getElem?_eq_getElem hi) h;exact⟨k,u,by rw[List.getElem?_eq_getElem hi,e],g,b⟩
theorem MatAt.write(m:MatAt E vs l B){i k u:Nat}{r r':List Int}(h:l[i]? =some r)(hv:vs[i]? =some (.sl k u 0 r.length 1))(hl:r'.length=r.length):MatAt (E.set k (u,some (r'.map enc))) vs (l.set i r') B:=by
 have hi:=(List.getElem?_eq_some_iff.1 h).1;refine⟨by rw[List.length_set]; exact m.len,fun j v s h1 h2=>?_,m.inj⟩;by_cases e:j=i
 ·subst e
  rw[List.getElem?_set_self hi]at h2;cases h2;rw[hv]at h1; cases h1;obtain⟨k2,u2,e2,g,b⟩:=m.row j _ r hv h;cases e2;exact⟨k,u,by rw[hl],List.getElem?_set_self (List.getElem?_eq_some_iff.1 g).1,b⟩
 ·rw[List.getElem?_set_ne (Ne.symm e)]at h2
  obtain⟨k2,u2,e2,g,b⟩:=m.row j v s h1 h2;subst e2;have hk:k2≠k:=fun q=> e (m.inj j i _ _ _ _ _ _ h1 hv q);exact⟨k2,u2,rfl,by rw[List.getElem?_set_ne (Ne.symm hk)]; exact g,b⟩
def swapI(i j n:Nat):Nat:=if n=j then i else if n=i then j else n
theorem swapI_inj{i j m n:Nat}(h:swapI i j m=swapI i j n):m=n:=by
 unfold swapI at h;split at h <;> split at h <;>(try split at h)<;>(try split at h)<;> omega
theorem swap_get{α:Type}{xs:List α}{i j:Nat}{a b:α}(hi:xs[i]? =some a)(hj:xs[j]? =some b)(n:Nat):((xs.set i b).set j a)[n]? =xs[swapI i j n]?:=by
 have h1:=(List.getElem?_eq_some_iff.1 hi).1;have h2:=(List.getElem?_eq_some_iff.1 hj).1;unfold swapI;by_cases e:n=j
 ·subst e; rw[if_pos rfl,List.getElem?_set_self (by simp; omega),hi]
 ·rw[if_neg e,List.getElem?_set_ne (Ne.symm e)]
  by_cases e2:n=i
  ·subst e2; rw[if_pos rfl,List.getElem?_set_self h1,hj]
  ·rw[if_neg e2,List.getElem?_set_ne (Ne.symm e2)]
theorem MatAt.swap(m:MatAt E vs l B){i j:Nat}{a b:V}{r s:List Int}(hi:vs[i]? =some a)(hj:vs[j]? =some b)(gi:l[i]? =some r)(gj:l[j]? =some s):MatAt E ((vs.set i b).set j a) ((l.set i s).set j r) B:=by
 refine⟨by simp[m.len],fun n v q h1 h2=>?_,fun n n' k u w k' u' w' h1 h2 e=>?_⟩
 ·rw[swap_get hi hj]at h1
  rw[swap_get gi gj]at h2;exact m.row _ v q h1 h2
 ·rw[swap_get hi hj]at h1 h2
  exact swapI_inj (m.inj _ _ _ _ _ _ _ _ h1 h2 e)
theorem MatAt.snoc(m:MatAt E vs l B){k u:Nat}{r:List Int}(h:E[k]? =some (u,some (r.map enc)))(hB:B k)(hn:∀ (i k' u' n:Nat),vs[i]? =some (.sl k' u' 0 n 1)→k'≠k):MatAt E (vs++[.sl k u 0 r.length 1]) (l++[r]) B:=by
 have hl:=m.len;refine⟨by simp[hl],fun i v s h1 h2=>?_,fun i j a b c a' b' c' h1 h2 e=>?_⟩
 ·rcases Nat.lt_or_ge i vs.length with hi|hi
  ·rw[List.getElem?_append_left hi]at h1
   rw[List.getElem?_append_left (by omega)]at h2;exact m.row i v s h1 h2
  ·rw[List.getElem?_append_right hi]at h1
   rw[List.getElem?_append_right (by omega)]at h2;have:i=vs.length:=by
    have:=(List.getElem?_eq_some_iff.1 h1).1;simp at this; omega
   subst this;rw[←hl,Nat.sub_self]at h2;rw[Nat.sub_self]at h1;cases h1; cases h2;exact⟨k,u,rfl,h,hB⟩
 ·have key:∀n x y z,(vs++[V.sl k u 0 r.length 1])[n]? =some (.sl x y 0 z 1)→(n < vs.length∧vs[n]? =some (.sl x y 0 z 1))∨(n=vs.length∧x=k):=fun n x y z hx=> by
   rcases Nat.lt_or_ge n vs.length with hi|hi
   ·rw[List.getElem?_append_left hi]at hx; exact .inl ⟨hi,hx⟩
   ·rw[List.getElem?_append_right hi]at hx
    have:n=vs.length:=by
     have:=(List.getElem?_eq_some_iff.1 hx).1;simp at this; omega
    subst this;simp at hx;exact .inr ⟨rfl,hx.1.symm⟩
  rcases key i _ _ _ h1 with⟨_,p⟩|⟨p,q⟩<;> rcases key j _ _ _ h2 with⟨_,p'⟩|⟨p',q'⟩
  ·exact m.inj i j _ _ _ _ _ _ p p' e
  ·exact absurd (e.trans q') (hn i _ _ _ p)
  ·exact absurd (e.symm.trans q) (hn j _ _ _ p')
  ·omega
theorem mapO_frz(c f:Nat):∀ (ws:List V) (q:List (List Int)),ws.length=q.length→(∀ (i:Nat) v r,ws[i]? =some v→q[i]? =some r→frz ⟨E,c⟩ f v=some (.isl (r.map enc)))→mapO (frz ⟨E,c⟩ f) ws=some (q.map enc)
 | [],[],_,_=> rfl
 |v::ws,r::q,hl,h=> by
  have h0:=h 0 v r rfl rfl;have ht:=mapO_frz c f ws q (by simpa using hl) fun i v r a b=> h (i+1) v r (by simpa using a) (by simpa using b);simp only[mapO,h0,ht,List.map_cons];rfl
theorem MatAt.fz1(m:MatAt E vs l B)(c:Nat){i:Nat}{v:V}{r:List Int}(h1:vs[i]? =some v)(h2:l[i]? =some r):frz ⟨E,c⟩ 15 v=some (.isl (r.map enc)):=by
 obtain⟨k,u,rfl,g,_⟩:=m.row i v r h1 h2;exact Deep.fz (α:=List Int) (K:=fun x=> x=k) (int_row g fun x=> Iff.rfl) 10
theorem MatAt.fz(m:MatAt E vs l B)(c:Nat){key uid off n:Nat}(hk:E[key]? =some (uid,some vs))(ho:off+n≤l.length):frz ⟨E,c⟩ 16 (.sl key uid off n 1)=some (.isl (((l.drop off).take n).map enc)):=by
 have hl:=m.len;have hm:mapO (frz ⟨E,c⟩ 15) ((vs.drop off).take n)=some (((l.drop off).take n).map enc):=by
  refine mapO_frz c 15 _ _ (by simp[hl]) fun i v r a b=>?_;rw[List.getElem?_take]at a b;split at a
  ·rename_i hi
   rw[if_pos hi]at b;rw[List.getElem?_drop]at a b;exact m.fz1 c a b
  ·cases a
 simp only[frz,get_of (h:=⟨E,c⟩) hk,Nat.mul_one];rw[if_pos ⟨by omega,by omega⟩,hm];simp only[chunk_1]
theorem tsd{vs:List V}{i:Nat}{x:V}(h:i < vs.length):vs.take i++[x]++vs.drop (i+1)=vs.set i x:=by
 rw[List.set_eq_take_append_cons_drop,if_pos h]; simp
theorem slice_lo{key uid n:Nat}{d:Int}(h0:0≤d)(h1:d≤n):sliceV 1 (.sl key uid 0 n 1) (some (.int .i64 d)) none=some (.sl key uid d.toNat (n - d.toNat) 1):=by
 have h2:d.toNat≤n:=by omega
 simp[sliceV,lenV,boundV,intV,h0,h1]
theorem slice_hi{key uid n:Nat}{d:Int}(h0:0≤d)(h1:d≤n):sliceV 1 (.sl key uid 0 n 1) none (some (.int .i64 d))=some (.sl key uid 0 d.toNat 1):=by
 have h2:d.toNat≤n:=by omega
 simp[sliceV,lenV,boundV,intV,h0,h1]
def RRep(E:List (Nat×Option (List V)))(B:Nat→Prop)(v:V)(r:List Int):Prop:=∃k u,v= .sl k u 0 r.length 1∧E[k]? =some (u,some (r.map enc))∧B k
theorem RRep.frame{E':List (Nat×Option (List V))}{v:V}{r:List Int}{B':Nat→Prop}(h:RRep E B v r)(hf:∀k,k < E.length→B k→E'[k]? =E[k]?∧B' k):RRep E' B' v r:=by
 obtain⟨k,u,h1,h2,h3⟩:=h;obtain⟨q1,q2⟩:=hf k (List.getElem?_eq_some_iff.1 h2).1 h3;exact⟨k,u,h1,q1.trans h2,q2⟩
theorem RRep.fz{v:V}{r:List Int}(h:RRep E B v r)(c f:Nat):frz ⟨E,c⟩ (f+6) v=some (.isl (r.map enc)):=by
 obtain⟨k,u,rfl,g,_⟩:=h;exact Deep.fz (α:=List Int) (K:=fun x=> x=k) (int_row g fun x=> Iff.rfl) (f+1)
structure Rws (E:List (Nat×Option (List V))) (B:Nat→Prop) (vs:List V) (l:List (List Int)):Prop where
 len:vs.length=l.length
 row:∀ (i:Nat) v r,vs[i]? =some v→l[i]? =some r→RRep E B v r
theorem Rws.nil{B:Nat→Prop}:Rws E B [] []:=⟨rfl,fun i v r h=> by simp at h⟩
theorem Rws.frame{E':List (Nat×Option (List V))}{B':Nat→Prop}(m:Rws E B vs l)(hf:∀k,k < E.length→B k→E'[k]? =E[k]?∧B' k):Rws E' B' vs l:=⟨m.len,fun i v r h1 h2=>(m.row i v r h1 h2).frame hf⟩
theorem Rws.get(m:Rws E B vs l){i:Nat}{r:List Int}(h:l[i]? =some r):∃v,vs[i]? =some v∧RRep E B v r:=by
 have hi:i < vs.length:=by rw[m.len]; exact(List.getElem?_eq_some_iff.1 h).1
 exact⟨vs[i],List.getElem?_eq_getElem hi,m.row i _ r (List.getElem?_eq_getElem hi) h⟩
theorem Rws.snoc(m:Rws E B vs l){v:V}{r:List Int}(h:RRep E B v r):Rws E B (vs++[v]) (l++[r]):=by
 have hl:=m.len;refine⟨by simp[hl],fun i w s h1 h2=>?_⟩;rcases Nat.lt_or_ge i vs.length with hi|hi
 ·rw[List.getElem?_append_left hi]at h1
  rw[List.getElem?_append_left (by omega)]at h2;exact m.row i w s h1 h2
 ·rw[List.getElem?_append_right hi]at h1
  rw[List.getElem?_append_right (by omega)]at h2;have:i=vs.length:=by
   have:=(List.getElem?_eq_some_iff.1 h1).1;simp at this; omega
  subst this;rw[Nat.sub_self]at h1;rw[←hl,Nat.sub_self]at h2;cases h1; cases h2;exact h
theorem Rws.fz(m:Rws E B vs l)(c:Nat){key uid:Nat}(hk:E[key]? =some (uid,some vs)):frz ⟨E,c⟩ 16 (.sl key uid 0 l.length 1)=some (.isl (l.map enc)):=by
 have hl:=m.len;have hm:mapO (frz ⟨E,c⟩ 15) vs=some (l.map enc):=mapO_frz c 15 _ _ hl fun i v r a b=>(m.row i v r a b).fz c 9;simp only[frz,get_of (h:=⟨E,c⟩) hk,Nat.mul_one,Nat.zero_add,List.drop_zero];rw[if_pos ⟨by omega,by omega⟩,←hl,List.take_length,hm];simp only[chunk_1]
theorem mat_tk(f:Nat):∀ (ws:List V) (q:List (List Int)) (h:Heap),ws.length=q.length→(∀ (i:Nat) v r,ws[i]? =some v→q[i]? =some r→∃k u,v= .sl k u 0 r.length 1∧h.ents[k]? =some (u,some (r.map enc)))→
  (∀ (i j k u n k' u' n':Nat),ws[i]? =some (.sl k u 0 n 1)→ws[j]? =some (.sl k' u' 0 n' 1)→k=k'→i=j)→∃h',mapS (take (f+2) []) ws h=some (q.map enc,h')
 | [],[],h,_,_,_=>⟨h,rfl⟩
 |v::ws,r::q,h,hl,hr,hi=> by
  obtain⟨k,u,rfl,g⟩:=hr 0 v r rfl rfl;have e:(List.map (enc:Int→V) r).take r.length=r.map enc:=List.take_of_length_le (by simp);have ht:take (f+2) [] (.sl k u 0 r.length 1) h=some (enc r,h.kill k):=by
   simp only[take,get_of g,Nat.mul_one,Nat.zero_add,List.drop_zero,List.tail_nil];rw[if_pos ⟨by simp,by omega,by simp[hdOk]⟩,e,take_ints f []];simp only[chunk_1];rfl
  obtain⟨h',h2⟩:=mat_tk f ws q (h.kill k) (by simpa using hl) (fun i v' r' a b=> by
   obtain⟨k',u',e',g'⟩:=hr (i+1) v' r' (by simpa using a) (by simpa using b);refine⟨k',u',e',?_⟩;rw[kill_ne h fun q=>?_]
   ·exact g'
   ·subst e'; subst q
    have:=hi (i+1) 0 _ _ _ _ _ _ (by simpa using a) rfl rfl;omega) (fun i j k1 u1 n1 k2 u2 n2 a b c=> by
   have:=hi (i+1) (j+1) _ _ _ _ _ _ (by simpa using a) (by simpa using b) c;omega)
  exact⟨h',by simp only[mapS,ht,h2,List.map_cons]⟩
theorem MatAt.tk(m:MatAt E vs l B)(c:Nat){key uid n:Nat}(hk:E[key]? =some (uid,some vs))(hB:¬B key)(hn:n≤l.length):∃h',take 16 [1] (.sl key uid 0 n 1) ⟨E,c⟩=some (.isl ((l.take n).map enc),h'):=by
 have hl:=m.len;obtain⟨h',h2⟩:=mat_tk 13 (vs.take n) (l.take n) ((⟨E,c⟩:Heap).kill key) (by simp[hl]) (fun i v r a b=> by
  rw[List.getElem?_take]at a b;split at a
  ·rename_i hi
   rw[if_pos hi]at b;obtain⟨k,u,e,g,hb⟩:=m.row i v r a b;exact⟨k,u,e,by rw[kill_ne _ fun q=> by subst q; exact hB hb]; exact g⟩
  ·cases a) (fun i j k u n1 k' u' n2 a b e=> by
  rw[List.getElem?_take]at a b;split at a
  ·split at b
   ·exact m.inj i j _ _ _ _ _ _ a b e
   ·cases b
  ·cases a)
 refine⟨h',?_⟩;simp only[take,get_of (h:=⟨E,c⟩) hk,Nat.mul_one,Nat.zero_add,List.drop_zero,List.tail_cons];rw[if_pos ⟨by omega,by omega,by simp[hdOk]⟩,h2];simp only[chunk_1]
end Rv
namespace Rv
set_option linter.unusedVariables false
set_option linter.unusedSimpArgs false
open Go (IntKind BinOp UnOp Program Value Operand Oper Code TypeId Func World Addr Obj Act Calls DataW Lit Field Reach)
open Go.ChangeShapes Go.WideShapes Go.RowKit
theorem frz_to_bool{h:Heap}{f:Nat}{r:V}{b:Bool}(hf:frz h f r=some (.bool b)):r= .bool b:=by
 cases f with
 |zero=> simp[frz]at hf
 |succ f=>
  cases r with
  |bool c=> simp[frz]at hf; rw[hf]
  |_=> exfalso; simp only[frz]at hf;(repeat' split at hf)<;> simp at hf
theorem ran_of_ans{A:Prog}{g:Nat}{as:List V}{b:Bool}(h:ans A g as=some (Enc.enc b)):∃k,((A.run k g as Heap.empty).map (·.1))=some (.bool b):=by
 unfold ans at h;split at h
 ·rename_i r h1 hr
  obtain⟨k,hk⟩:=res_run hr;have:=frz_to_bool (show frz h1 FZ r=some (.bool b) from h);subst this;exact⟨k,by rw[hk]; rfl⟩
 ·cases h
def cellsOf(w:World):Imm:=fun b o=> w.cell? ⟨b,o,none⟩
def Opens(P:Program)(tbl:Nat→Option Nat)(w:World)(t:TypeId)(n:Nat)(α:Type)[Enc α](L:α→Prop):Prop:=
 P.cellsOf t=n∧∀ (H:Type) (enc:TypeId×Value→H) (base:Nat) (spare:Nat→Bool) (held:Bool) (fuel:Nat) (cs:List Value) (d:DataW H×List Go.MemPlace),
  DataW.trod enc P w base spare held fuel t cs=some d→∃x:α,L x∧cs.length=n∧(∀v∈cs,v.oneCell'=true)∧RIs tbl (cellsOf w) (Enc.enc x).cells cs
variable {P:Program} {tbl:Nat→Option Nat} {w:World}
theorem opens_int{t:TypeId}(ht:P.underlying t=some (.int .i64))(hc:P.cellsOf t=1):Opens P tbl w t 1 Int (fun n=> -9223372036854775808≤n∧n≤9223372036854775807):=by
 refine⟨hc,fun H enc base spare held fuel cs d h=>?_⟩;obtain⟨n,rfl,rfl,hw⟩:=DataW.trod_int ht h;exact⟨n,Go.bounds_i64 hw,rfl,by simp[Value.oneCell'],.cons (.int _ _) .nil⟩
theorem add_block(a:Addr)(n:Nat):(a.add n).block=a.block:=by unfold Addr.add; split <;> rfl
theorem add_off(a:Addr)(n:Nat):(a.add n).off=a.off+n:=by
 unfold Addr.add; split
 ·rename_i h; subst h; rfl
 ·rfl
theorem add_add(a:Addr)(p q:Nat):(a.add p).add q=a.add (p+q):=by
 cases a;unfold Addr.add;by_cases hq:q=0
 ·subst hq; simp
 ·rw[if_neg hq,if_neg (show¬p+q=0 by omega)]
  split <;> simp <;> omega
theorem cell_plain{a:Addr}{v:Value}(h:w.cell? a=some v):a=⟨a.block,a.off,none⟩:=by
 unfold World.cell? at h;split at h
 ·split at h
  ·cases h
  ·rename_i hs
   cases a with
   |mk b o s=> cases s with
    |none=> rfl
    |some x=> simp at hs
 ·cases h
theorem opens_slice{t e:TypeId}{n:Nat}{α:Type}[Enc α]{L:α→Prop}(ht:P.underlying t=some (.slice e))(hc:P.cellsOf t=1)(hn:0 < n)(hm:∀x:α,(Enc.enc x).cells.length=n)(he:Opens P tbl w e n α L):
  Opens P tbl w t 1 (List α) (fun l=> l.length≤9223372036854775807∧∀y∈l,L y):=by
 refine⟨hc,fun H enc base spare held fuel cs d h=>?_⟩;obtain⟨hce,hel⟩:=he;rcases DataW.trod_slice ht h with⟨rfl,rfl⟩|⟨a,len,cap,elems,rest,m,_,rfl,rfl,hb,hl,hmx,hlen,hes,_,_⟩
 ·exact⟨[],⟨by simp,by simp⟩,rfl,by simp[Value.oneCell'],.cons (.isl0 none 0 fun _=> rfl) .nil⟩
 have key:∀k,k≤len→∃ (xs:List α) (vs:List Value),xs.length=k∧(∀y∈xs,L y)∧vs.length=k*n∧(∀v∈vs,v.oneCell'=true)∧
   (∀ (i:Nat) v,vs[i]? =some v→w.cell? (a.add i)=some v)∧RIs tbl (cellsOf w) (flat (xs.map Enc.enc)) vs:=by
  intro k;induction k with
  |zero=> intro _; exact⟨[],[],rfl,by simp,by simp,by simp,by simp,.nil⟩
  |succ k ih=>
   intro hk;obtain⟨xs,vs,h1,h2,h3,h4,h5,h6⟩:=ih (by omega);have hk':=hes k (by omega);rw[List.getElem?_eq_getElem (show k < elems.length by omega),Option.bind_eq_some_iff]at hk';obtain⟨cs',g1,g2⟩:=hk';obtain⟨x,q1,q2,q3,q4⟩:=hel _ _ _ _ _ _ _ _ g2;obtain⟨r1,r2,r3⟩:=World.cells?_some g1;rw[hce]at r3 r2;refine⟨xs++[x],vs++cs',by simp[h1],?_,by rw[List.length_append,h3,q2,Nat.succ_mul],?_,?_,?_⟩
   ·intro y hy
    rcases List.mem_append.1 hy with hy|hy
    ·exact h2 y hy
    ·rw[List.mem_singleton.1 hy]; exact q1
   ·intro v hv
    rcases List.mem_append.1 hv with hv|hv
    ·exact h4 v hv
    ·exact q3 v hv
   ·intro i v hv
    by_cases hi:i < vs.length
    ·rw[List.getElem?_append_left hi]at hv; exact h5 i v hv
    ·rw[List.getElem?_append_right (by omega)]at hv
     have hlt:=(List.getElem?_eq_some_iff.1 hv).1;have hc2:=r3 (i - vs.length) (by omega);rw[hv]at hc2;have e:(a.add (k*n)).add (i - vs.length)=a.add i:=by
      rw[add_add]; congr 1; omega
     rw[←e]; exact hc2
   ·rw[List.map_append,show flat (xs.map Enc.enc++[x].map Enc.enc)=flat (xs.map Enc.enc)++flat ([x].map Enc.enc) from List.flatMap_append ..]
    exact h6.append (by simpa[flat]using q4)
 obtain⟨xs,vs,h1,h2,h3,h4,h5,h6⟩:=key len (Nat.le_refl _);have hmx':cap≤9223372036854775807:=hmx;refine⟨xs,⟨by omega,h2⟩,rfl,by simp[Value.oneCell'],.cons ?_ .nil⟩;by_cases h0:len=0
 ·have:xs=[]:=List.eq_nil_of_length_eq_zero (by omega)
  subst this; subst h0;exact .isl0 (some a) cap (by simp)
 ·have hv0:0 < vs.length:=by rw[h3]; exact Nat.mul_pos (by omega) hn
  have p0:=h5 0 vs[0] (by simp[hv0]);have ea:a=⟨a.block,a.off,none⟩:=cell_plain (show w.cell? a=some vs[0] from p0);have hx:(xs.map (Enc.enc:α→V)).length=len:=by simp[h1]
  rw[←hx];rw[ea];refine .isl (xs.map Enc.enc) a.block a.off cap n vs (by omega) hn (by simp[hm]) h6.len h4 (fun i v hv=>?_) h6.at_;have p1:=h5 i v hv;have p2:=cell_plain p1;rw[add_block,add_off]at p2;rw[p2]at p1;exact p1
theorem opens_struct3{t:TypeId}{f0 f1 f2:Field}{n0 n1 n2:Nat}{α α0 α1 α2:Type}[Enc α][Enc α0][Enc α1][Enc α2]{L0:α0→Prop}{L1:α1→Prop}{L2:α2→Prop}(mk:α0→α1→α2→α)(L:α→Prop)(ht:P.underlying t=some (.struct #[f0,f1,f2]))(hc:P.cellsOf t=n0+(n1+n2))
  (o0:f0.offset=0) (o1:f1.offset=n0) (o2:f2.offset=n0+n1) (h0:Opens P tbl w f0.type n0 α0 L0) (h1:Opens P tbl w f1.type n1 α1 L1) (h2:Opens P tbl w f2.type n2 α2 L2) (he:∀x0 x1 x2,(Enc.enc (mk x0 x1 x2)).cells=(Enc.enc x0).cells++((Enc.enc x1).cells++(Enc.enc x2).cells)) (hL:∀x0 x1 x2,L0 x0→L1 x1→L2 x2→L (mk x0 x1 x2)):Opens P tbl w t (n0+(n1+n2)) α L:=by
 refine⟨hc,fun H enc base spare held fuel cs d h=>?_⟩;obtain⟨xs,n,_,rfl,hl,hlen,hf⟩:=DataW.trod_struct ht h;have hx:xs.length=3:=hlen;have e0:=hf 0 f0 rfl;have e1:=hf 1 f1 rfl;have e2:=hf 2 f2 rfl;rw[List.getElem?_eq_getElem (by omega)]at e0 e1 e2;rw[o0,h0.1]at e0;rw[o1,h1.1]at e1;rw[o2,h2.1]at e2;obtain⟨x0,a1,a2,a3,a4⟩:=h0.2 _ _ _ _ _ _ _ _ e0;obtain⟨x1,b1,b2,b3,b4⟩:=h1.2 _ _ _ _ _ _ _ _ e1;obtain⟨x2,c1,c2,c3,c4⟩:=h2.2 _ _ _ _ _ _ _ _ e2;rw[hc]at hl;have e:cs=(cs.drop 0).take n0++((cs.drop n0).take n1++(cs.drop (n0+n1)).take n2):=by
  rw[List.drop_zero,List.take_of_length_le (l:=cs.drop (n0+n1)) (by simp; omega),←List.drop_drop,List.take_append_drop,List.take_append_drop]
 refine⟨mk x0 x1 x2,hL _ _ _ a1 b1 c1,hl,?_,?_⟩
 ·intro v hv
  rw[e]at hv;rcases List.mem_append.1 hv with hv|hv
  ·exact a3 v hv
  ·rcases List.mem_append.1 hv with hv|hv
   ·exact b3 v hv
   ·exact c3 v hv
 ·rw[he,e]; exact a4.append (b4.append c4)
theorem opened_struct{t:TypeId}{n:Nat}{α:Type}[Enc α]{L:α→Prop}{fs:Array Field}{H:Type}{enc:TypeId×Value→H}{base b0:Nat}{spare:Nat→Bool}{held:Bool}{r:Reach}{v:Value}{d:DataW H}{ps:List Go.MemPlace}
  (hu:P.underlying t=some (.struct fs)) (hv:Value.okWide P w r b0 t v) (ho:Opens P tbl w t n α L) (ha:∀x:α,Enc.enc x= .agg (Enc.enc x).cells) (h:DataW.Trod enc P w base spare held t v d ps):∃x:α,L x∧RI tbl (cellsOf w) (Enc.enc x) v:=by
 simp only[Value.okWide,hu]at hv;obtain⟨cs,rfl,_,_⟩:=hv;obtain⟨fuel,h⟩:=h;obtain⟨x,h1,h2,h3,h4⟩:=ho.2 _ _ _ _ _ _ _ _ h;refine⟨x,h1,?_⟩;rw[ha x];have e:(Value.agg cs).cells.toList=cs.toList:=rfl;rw[e]at h2 h3 h4;have:=RI.agg (tbl:=tbl) (I:=cellsOf w) (Enc.enc x).cells cs.toList h4.len h3 h4.at_;simpa using this
theorem opened_slice{t e:TypeId}{α:Type}[Enc α]{L:List α→Prop}{H:Type}{enc:TypeId×Value→H}{base b0:Nat}{spare:Nat→Bool}{held:Bool}{r:Reach}{v:Value}{d:DataW H}{ps:List Go.MemPlace}
  (hu:P.underlying t=some (.slice e)) (hv:Value.okWide P w r b0 t v) (ho:Opens P tbl w t 1 (List α) L) (h:DataW.Trod enc P w base spare held t v d ps):∃x:List α,L x∧RI tbl (cellsOf w) (Enc.enc x) v:=by
 obtain⟨a,len,cap,rfl⟩:=okWide_slice hu hv;obtain⟨fuel,h⟩:=h;obtain⟨x,h1,h2,h3,h4⟩:=ho.2 _ _ _ _ _ _ _ _ h;refine⟨x,h1,?_⟩;obtain⟨y,q,hq,hr,_⟩:=P2.uncons (show P2 _ (Enc.enc x:: []) _ from h4);have e2:(Value.slice a len cap).cells.toList=[.slice a len cap]:=rfl;rw[e2]at hq;cases hq;exact hr
end Rv
