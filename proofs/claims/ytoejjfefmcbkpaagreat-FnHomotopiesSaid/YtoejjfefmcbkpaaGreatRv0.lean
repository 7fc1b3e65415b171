/- An abstract machine for translated code, proved to answer as the code does: part 1 -/
import GoSem.Core.View
import GoSem.ClaimKeys
import GoSem.Op.Equal
import GoSem.Core.Region
import Derived.Orders
import Derived.Below
import Derived.WalkKit
import Derived.Lib.Strings
import Derived.DeepKeys
import Derived.Laws.StructEq
import Derived.Laws.Append
set_option linter.unusedVariables false
set_option linter.unusedSimpArgs false
namespace Rv
theorem gB:type_of% @List.getElem?_eq_getElem:=@List.getElem?_eq_getElem
theorem gC:type_of% @List.getElem?_append_left:=@List.getElem?_append_left
theorem gD:type_of% @List.getD_eq_getElem?_getD:=@List.getD_eq_getElem?_getD
theorem gE:type_of% @List.mem_of_getElem?:=@List.mem_of_getElem?
theorem gF:type_of% @List.getElem?_eq_none:=@List.getElem?_eq_none
theorem gG:type_of% @List.getElem?_map:=@List.getElem?_map
theorem gH:type_of% @List.getElem?_take:=@List.getElem?_take
theorem gI:type_of% @List.getElem?_append_right:=@List.getElem?_append_right
theorem gJ:type_of% @Array.getElem?_toList:=@Array.getElem?_toList
theorem gK:type_of% @List.getElem?_set:=@List.getElem?_set
theorem gL:type_of% @List.getElem?_set_ne:=@List.getElem?_set_ne
theorem gM:type_of% @List.getElem?_eq_some_iff:=@List.getElem?_eq_some_iff
theorem gN:type_of% @List.getElem?_drop:=@List.getElem?_drop
theorem gO:type_of% @List.getElem?_append:=@List.getElem?_append
theorem gP:type_of% @Array.getElem?_eq_some_iff:=@Array.getElem?_eq_some_iff
theorem gQ:type_of% @List.getElem?_set_self:=@List.getElem?_set_self
theorem gR:type_of% @List.getElem?_of_mem:=@List.getElem?_of_mem
theorem gS:type_of% @Array.ext_getElem?:=@Array.ext_getElem?
theorem gT:type_of% @Array.getElem?_setIfInBounds:=@Array.getElem?_setIfInBounds
theorem gA{α:Type _}{l:List α}{i:Nat}{a:α}(h:l[i]? =some a):i<l.length:=(List.getElem?_eq_some_iff.1 h).1
theorem wA : type_of% @Option.some.inj := @Option.some.inj
theorem wB : type_of% @Option.some.injEq := @Option.some.injEq
theorem wC : type_of% @List.getElem_mem := @List.getElem_mem
theorem wD : type_of% @Bool.false_ne_true := @Bool.false_ne_true
theorem wE : type_of% @Nat.le_refl := @Nat.le_refl
theorem wF : type_of% @Go.run_underlying := @Go.run_underlying
theorem wG : type_of% @List.mem_cons_self := @List.mem_cons_self
theorem wH : type_of% @Prod.mk.injEq := @Prod.mk.injEq
theorem wI : type_of% @List.mem_cons_of_mem := @List.mem_cons_of_mem
theorem wJ : type_of% @Array.length_toList := @Array.length_toList
theorem wK : type_of% @List.getElem_of_mem := @List.getElem_of_mem
theorem wL : type_of% @Bool.and_eq_true := @Bool.and_eq_true
theorem wM : type_of% @Go.Result.andThen_ok := @Go.Result.andThen_ok
theorem wN : type_of% @List.mem_append := @List.mem_append
theorem wO : type_of% @List.all_eq_true := @List.all_eq_true
theorem wP : type_of% @Bool.false_eq_true := @Bool.false_eq_true
theorem wQ : type_of% @List.mem_map := @List.mem_map
theorem wR : type_of% @List.length_append := @List.length_append
theorem wS : type_of% @Nat.lt_or_ge := @Nat.lt_or_ge
theorem wT : type_of% @List.take_of_length_le := @List.take_of_length_le
theorem wU : type_of% @List.eq_nil_of_length_eq_zero := @List.eq_nil_of_length_eq_zero
theorem wV : type_of% @Nat.zero_add := @Nat.zero_add
theorem wW : type_of% @List.mem_of_mem_take := @List.mem_of_mem_take
theorem wX : type_of% @List.mem_range := @List.mem_range
theorem wY : type_of% @Go.Sem.run_bind := @Go.Sem.run_bind
theorem wZ : type_of% @List.take_append_getElem := @List.take_append_getElem
theorem vA : type_of% @List.mem_cons := @List.mem_cons
theorem vB : type_of% @List.map_cons := @List.map_cons
theorem vC : type_of% @Nat.add_assoc := @Nat.add_assoc
theorem vD : type_of% @Nat.zero_le := @Nat.zero_le
theorem vE : type_of% @List.append_assoc := @List.append_assoc
theorem vF : type_of% @List.length_cons := @List.length_cons
theorem vG : type_of% @List.pairwise_cons := @List.pairwise_cons
theorem vH : type_of% @List.length_nil := @List.length_nil
theorem vI : type_of% @Option.map_some := @Option.map_some
theorem vJ : type_of% @List.mem_append_left := @List.mem_append_left
theorem vK : type_of% @List.take_length := @List.take_length
theorem vL : type_of% @List.cons_append := @List.cons_append
theorem vM : type_of% @Nat.le_trans := @Nat.le_trans
theorem vN : type_of% @List.drop_zero := @List.drop_zero
theorem vO : type_of% @Go.Sem.run_pure := @Go.Sem.run_pure
theorem vP : type_of% @Classical.choose_spec := @Classical.choose_spec
theorem vQ : type_of% @Nat.add_sub_cancel := @Nat.add_sub_cancel
theorem vR : type_of% @List.mem_of_mem_drop := @List.mem_of_mem_drop
theorem vS : type_of% @List.any_eq_true := @List.any_eq_true
theorem vT : type_of% @List.flatMap_cons := @List.flatMap_cons
theorem vU : type_of% @Int.toNat_natCast := @Int.toNat_natCast
theorem vV : type_of% @Bool.not_eq_true' := @Bool.not_eq_true'
theorem vW : type_of% @List.length_set := @List.length_set
theorem vX : type_of% @List.length_map := @List.length_map
theorem vY : type_of% @Classical.byContradiction := @Classical.byContradiction
theorem vZ : type_of% @List.mem_append_right := @List.mem_append_right
theorem yA : type_of% @Iff.rfl := @Iff.rfl
theorem yB : type_of% @Nat.mul_le_mul_right := @Nat.mul_le_mul_right
theorem yC : type_of% @Bool.or_eq_true := @Bool.or_eq_true
theorem yD : type_of% @Nat.mul_one := @Nat.mul_one
theorem yE : type_of% @Int.le_refl := @Int.le_refl
theorem yF : type_of% @Nat.le_max_right := @Nat.le_max_right
theorem yG : type_of% @List.length_take := @List.length_take
theorem yH : type_of% @Nat.not_lt_zero := @Nat.not_lt_zero
theorem yI : type_of% @List.nil_append := @List.nil_append
theorem yJ : type_of% @Nat.lt_trichotomy := @Nat.lt_trichotomy
theorem yK : type_of% @Ne.symm := @Ne.symm
theorem yL : type_of% @Option.getD_some := @Option.getD_some
theorem yM : type_of% @Nat.le_max_left := @Nat.le_max_left
theorem yN : type_of% @List.length_drop := @List.length_drop
theorem yO : type_of% @List.ext_getElem := @List.ext_getElem
theorem yP : type_of% @List.drop_eq_getElem_cons := @List.drop_eq_getElem_cons
theorem yQ : type_of% @List.map_congr_left := @List.map_congr_left
theorem yR : type_of% @Option.map_none := @Option.map_none
theorem yS : type_of% @Array.ext' := @Array.ext'
theorem yT : type_of% @Nat.succ_mul := @Nat.succ_mul
theorem yU : type_of% @Nat.add_zero := @Nat.add_zero
theorem yV : type_of% @List.flatten_cons := @List.flatten_cons
theorem yW : type_of% @List.not_mem_nil := @List.not_mem_nil
theorem yX : type_of% @List.mem_flatten := @List.mem_flatten
theorem yY : type_of% @Nat.le_succ := @Nat.le_succ
theorem yZ : type_of% @Nat.min_eq_left := @Nat.min_eq_left
theorem uA : type_of% @List.mem_filter := @List.mem_filter
theorem uB : type_of% @List.map_append := @List.map_append
theorem uC : type_of% @List.append_nil := @List.append_nil
theorem uD : type_of% @Bool.eq_iff_iff := @Bool.eq_iff_iff
theorem uE : type_of% @Nat.zero_mul := @Nat.zero_mul
theorem uF : type_of% @Nat.sub_self := @Nat.sub_self
open Go (IntKind BinOp UnOp)
inductive V where
 |int (k:IntKind) (n:Int)
 |bool (b:Bool)
 |str (l:List Nat)
 |nilp
 |ptr (key uid off:Nat)
 |iptr (cs:List V)
 |nils
 |sl (key uid off len sz:Nat)
 |isl (xs:List V)
 |islx
 |fn (g:Nat) (fst cap:List V)
 |nilf
 |agg (cs:List V)
 |tup (vs:List V)
 deriving Inhabited
def V.undef:V:= .tup []
def V.cells:V→List V
 | .agg cs=> cs
 |v=>[v]
def V.one:V→Bool
 | .agg _=> false
 | .tup _=> false
 |_=> true
def V.tupless:V→Bool
 | .tup _=> false
 |_=> true
inductive X where
 |t (n:Nat)
 |c (v:V)
 deriving Inhabited
inductive Md where
 |plain
 |pure (ds:List Nat)
 |thr (ds:List Nat)
 deriving Inhabited
inductive Lay where
 |bool
 |int (k:IntKind)
 |str
 |arr (n size each:Nat) (e:Lay)
 |st (size:Nat) (fs:List (Nat×Nat×Lay))
 deriving Inhabited
inductive Ld where
 |any
 |imm
 |apart (s:Nat)
 deriving Inhabited
inductive O where
 |move (x:X)
 |frz (x:X)
 |pick (c a b:X)
 |box (x:X)
 |alloc (cs:List V)
 |build (zero:List V) (parts:List (Nat×Nat×X))
 |buildSlice (sz len:Nat) (zero:List V) (parts:List (Nat×Nat×X))
 |blit (sz len:Nat) (zero:List V) (parts:List (Nat×Nat×X))
 |load (md:Ld) (n:Option Nat) (x:X)
 |store (n:Nat) (a x:X)
 |nilCheck (x:X)
 |bin (kind:Nat) (op:BinOp) (x y:X)
 |eqS (ne:Bool) (d:Nat) (lay:Lay) (x y:X)
 |un (op:UnOp) (x:X)
 |toInt (k:IntKind) (x:X)
 |toStr (x:X)
 |mkfn (g:Nat) (fst cap:List X)
 |makeSlice (sz bytes:Nat) (zero:List V) (l c:X)
 |slice (sz:Nat) (x:X) (lo hi:Option X)
 |sliceS (x:X) (lo hi:Option X)
 |fieldAddr (off:Nat) (x:X)
 |field (off:Nat) (n:Option Nat) (x:X)
 |indexAddr (arr:Option Nat) (sz:Nat) (x i:X)
 |indexA (len sz:Nat) (n:Option Nat) (x i:X)
 |indexS (x i:X)
 |extract (i:Nat) (x:X)
 |callf (md:Md) (g:Nat) (args:List X)
 |callv (md:Md) (f:X) (args:List X)
 |len (x:X)
 |lenS (x:X)
 |cap (x:X)
 |append (sz bytes:Nat) (x y:X)
 |appendZ (sz bytes:Nat) (zero:List V) (x y:X)
 |copy (sz:Nat) (x y:X)
 |max2 (x y:X)
 |min2 (x y:X)
 |abort
 |fz (o:O)
 |nz (md:Option Nat) (o:O)
 deriving Inhabited
structure Op where
 dst:Option Nat
 op:O
 guard:Option (Nat×Bool)
 deriving Inhabited
inductive C where
 |skip
 |reg (ops:List Op) (draw:Option (List (List Nat)))
 |seq (a b:C)
 |cond (x:X) (a b:C)
 |block (id:Nat) (a:C)
 |loop (keep:Bool) (a:C)
 |exit (id:Nat)
 |ret
 |clone (sz bytes:Nat)
 deriving Inhabited
inductive Rs where
 |tmp (t:Nat)
 |cell (t:Nat) (n:Option Nat)
 deriving Inhabited
structure Fn where
 nargs:Nat
 ntmps:Nat
 results:List Rs
 body:C
 deriving Inhabited
structure Heap where
 ents:List (Nat×Option (List V))
 clk:Nat
 deriving Inhabited
def Heap.empty:Heap:=⟨[],0⟩
def Heap.get(h:Heap)(key uid:Nat):Option (List V):=
 match h.ents[key]? with
 |some (u,some cs)=> if u=uid then some cs else none
 |_=> none
def Heap.push(h:Heap)(cs:List V):Heap:=⟨h.ents++[(h.clk,some cs)],h.clk+1⟩
def Heap.put(h:Heap)(key uid:Nat)(cs:List V):Heap:=⟨h.ents.set key (uid,some cs),h.clk⟩
def Heap.renew(h:Heap)(key:Nat)(cs:List V):Heap:=⟨h.ents.set key (h.clk,some cs),h.clk+1⟩
def Heap.kill(h:Heap)(key:Nat):Heap:=⟨h.ents.set key (0,none),h.clk⟩
def Heap.trunc(h:Heap)(n:Nat):Heap:=⟨h.ents.take n,h.clk⟩
def jn(sz n:Nat)(cs:List V):List V:=
 if sz=1 then cs else(List.range n).map fun i=> .agg ((cs.drop (i*sz)).take sz)
def flat(xs:List V):List V:=xs.flatMap V.cells
def mapO{α β:Type}(f:α→Option β):List α→Option (List β)
 | []=> some []
 |x::xs=> match f x with
  |some y=> match mapO f xs with|some ys=> some (y::ys)|none=> none
  |none=> none
def mapS{σ α β:Type}(f:α→σ→Option (β×σ)):List α→σ→Option (List β×σ)
 | [],s=> some ([],s)
 |x::xs,s=> match f x s with
  |some (y,s1)=> match mapS f xs s1 with|some (ys,s2)=> some (y::ys,s2)|none=> none
  |none=> none
def frz(h:Heap):Nat→V→Option V
 |0,_=> none
 |f+1,.ptr key uid off=>
  match h.get key uid with
  |some cs=> match mapO (frz h f) (cs.drop off)with|some ds=> some (.iptr ds)|none=> none
  |none=> none
 |f+1,.sl key uid off len sz=>
  match h.get key uid with
  |some cs=>
   if off+len*sz≤cs.length∧0 < sz then
    match mapO (frz h f) ((cs.drop off).take (len*sz))with|some ds=> some (.isl (jn sz len ds))|none=> none
   else none
  |none=> none
 |f+1,.agg cs=> match mapO (frz h f) cs with|some ds=> some (.agg ds)|none=> none
 |f+1,.tup cs=> match mapO (frz h f) cs with|some ds=> some (.tup ds)|none=> none
 |f+1,.fn g fs cs=> match mapO (frz h f) fs with
  |some es=> match mapO (frz h f) cs with|some ds=> some (.fn g es ds)|none=> none
  |none=> none
 |_+1,.nils=> some (.isl [])
 |_+1,v=> some v
def qo:Nat→V→Bool
 |0,_=> false
 |_+1,.ptr .. => false
 |_+1,.sl .. => false
 |f+1,.agg cs=> cs.all (qo f)
 |f+1,.tup cs=> cs.all (qo f)
 |f+1,.fn _ fs cs=> fs.all (qo f)&& cs.all (qo f)
 |_+1,_=> true
def hdOk:List Nat→Nat→Bool
 | [],_=> true
 |s::_,sz=> sz==s
def take:Nat→List Nat→V→Heap→Option (V×Heap)
 |0,_,_,_=> none
 |f+1,ss,.sl key uid off len sz,h=>
  match h.get key uid with
  |some cs=>
   if off+len*sz≤cs.length∧0 < sz∧hdOk ss sz=true then
    match mapS (take f ss.tail) ((cs.drop off).take (len*sz)) (h.kill key)with
    |some (ds,h2)=> some (.isl (jn sz len ds),h2)
    |none=> none
   else none
  |none=> none
 |f+1,ss,.agg cs,h=> match mapS (take f ss) cs h with|some (ds,h2)=> some (.agg ds,h2)|none=> none
 |f+1,ss,.tup cs,h=> match mapS (take f ss) cs h with|some (ds,h2)=> some (.tup ds,h2)|none=> none
 |_+1,_,.nils,h=> some (.isl [],h)
 |_+1,_,.int k n,h=> some (.int k n,h)
 |_+1,_,.bool b,h=> some (.bool b,h)
 |_+1,_,.str l,h=> some (.str l,h)
 |f+1,[],.ptr key uid off,h=>
  match h.get key uid with
  |some cs=> match mapS (take f []) (cs.drop off) (h.kill key)with
   |some (ds,h2)=> some (.iptr ds,h2)
   |none=> none
  |none=> none
 |f+1,[],v,h=> if qo (f+1) v then some (v,h)else none
 |f+1,_::_,.isl xs,h=> if qo (f+1) (.isl xs)then some (.iptr [.isl xs],h)else none
 |_+1,_::_,_,_=> none
def thaw:Nat→List Nat→V→Heap→Option (V×Heap)
 |0,_,_,_=> none
 |_+1,[],v,h=> some (v,h)
 |f+1,s::ss,.isl xs,h=>
  match mapS (thaw f ss) (flat xs) h with
  |some (ds,h2)=> some (.sl h2.ents.length h2.clk 0 xs.length s,h2.push ds)
  |none=> none
 |_+1,_::_,.iptr vs,h=> match vs with| [v]=> some (v,h)|_=> none
 |f+1,s::ss,.agg cs,h=> match mapS (thaw f (s::ss)) cs h with|some (ds,h2)=> some (.agg ds,h2)|none=> none
 |f+1,s::ss,.tup cs,h=> match mapS (thaw f (s::ss)) cs h with|some (ds,h2)=> some (.tup ds,h2)|none=> none
 |_+1,_::_,v,h=> some (v,h)
def bare:Nat→List Nat→V→Bool
 |0,_,_=> false
 |_+1,_,.int .. => true
 |_+1,_,.bool _=> true
 |_+1,_,.str _=> true
 |_+1,_,.nils=> true
 |f+1,ss,.tup cs=> cs.all (bare f ss)
 |f+1,ss,.agg cs=> cs.all (bare f ss)
 |f+1,_::ss,.isl xs=>(flat xs).all (bare f ss)
 |_+1,_,_=> false
def FZ:Nat:=16
abbrev Env:=List V
def Env.at(e:Env)(t:Nat):V:=e.getD t V.undef
def Ld.bars(e:Env)(key:Nat):Ld→Bool
 | .any=> false
 | .imm=> true
 | .apart s=> match e.at s with| .ptr k _ _=> k==key|_=> true
def Ld.looks:Ld→List Nat
 | .apart s=>[s]
 |_=>[]
def V.lit:V→Bool
 | .int .. => true
 | .bool _=> true
 | .str _=> true
 | .isl _=> true
 |_=> false
def X.ev(e:Env):X→V
 | .t n=> e.at n
 | .c v=> v
def cellsEq:List V→List V→Option Bool
 | [],[]=> some true
 | .int j a::xs,.int k b::ys=> if j=k then(if a==b then cellsEq xs ys else some false)else none
 |_,_=> none
def binI(op:BinOp)(k:IntKind)(a b:Int):Option V:=
 match op with
 | .add=> some (.int k (k.wrap (a+b)))
 | .sub=> some (.int k (k.wrap (a - b)))
 | .mul=> some (.int k (k.wrap (a*b)))
 | .quo=> if b=0 then none else some (.int k (k.wrap (a.tdiv b)))
 | .rem=> if b=0 then none else some (.int k (a.tmod b))
 | .eql=> some (.bool (a==b))
 | .neq=> some (.bool (a != b))
 | .lss=> some (.bool (decide (a < b)))
 | .leq=> some (.bool (decide (a≤b)))
 | .gtr=> some (.bool (decide (a > b)))
 | .geq=> some (.bool (decide (a≥b)))
 | .and=> some (.int k (k.wrap (BitVec.ofInt k.bits a &&& BitVec.ofInt k.bits b).toNat))
 | .or=> some (.int k (k.wrap (BitVec.ofInt k.bits a |||BitVec.ofInt k.bits b).toNat))
 | .xor=> some (.int k (k.wrap (BitVec.ofInt k.bits a^^^BitVec.ofInt k.bits b).toNat))
 |_=> none
def binV(kind:Nat)(op:BinOp)(x y:V):Option V:=
 match kind with
 |0=> match op,x,y with
  | .shl,.int k a,.int _ b=> if b < 0 then none else some (.int k (k.wrap (a*2^(min b.toNat k.bits))))
  | .shr,.int k a,.int _ b=> if b < 0 then none else some (.int k (a.fdiv (2^(min b.toNat k.bits))))
  |op,.int k a,.int k' b=> if k=k' then binI op k a b else none
  | .add,.str a,.str b=> if a.length+b.length≤2^40 then some (.str (a++b))else none
  | .eql,.str a,.str b=> some (.bool (a==b))
  | .neq,.str a,.str b=> some (.bool (!(a==b)))
  |_,_,_=> none
 |1=> match op,x,y with
  | .eql,.bool a,.bool b=> some (.bool (a==b))
  | .neq,.bool a,.bool b=> some (.bool (!(a==b)))
  |_,_,_=> none
 |2=> match op,x,y with
  | .eql,.nils,.nils=> some (.bool true)
  | .neq,.nils,.nils=> some (.bool false)
  | .eql,.isl (_::_),.nils=> some (.bool false)
  | .neq,.isl (_::_),.nils=> some (.bool true)
  | .eql,.sl _ _ _ (_+1) _,.nils=> some (.bool false)
  | .neq,.sl _ _ _ (_+1) _,.nils=> some (.bool true)
  | .eql,.islx,.nils=> some (.bool false)
  |_,_,_=> none
 |_=> match op,x,y with
  | .eql,.agg a,.agg b=> match cellsEq a b with|some r=> some (.bool r)|none=> none
  | .neq,.agg a,.agg b=> match cellsEq a b with|some r=> some (.bool (!r))|none=> none
  |_,_,_=> none
def mapFlat{α β:Type}(f:α→Option (List β))(l:List α):Option (List β):=
 match mapO f l with|some ys=> some ys.flatten|none=> none
def layV:Nat→Lay→List V→Option (List V)
 |0,_,_=> none
 |_+1,.bool,[.bool b]=> some [.bool b]
 |_+1,.int q,[.int q' n]=> if q'=q∧(Go.Lit.int q n).wf=true then some [.int q n]else none
 |_+1,.str,[.str l]=> if l.length≤Go.maxLen then some [.str l]else none
 |d+1,.arr n sz es e,cs=> if cs.length=sz then mapFlat (fun i=> layV d e ((cs.drop (i*es)).take es)) (List.range n)else none
 |d+1,.st sz fs,cs=> if cs.length=sz then mapFlat (fun(f:Nat×Nat×Lay)=> layV d f.2.2 ((cs.drop f.1).take f.2.1)) fs else none
 |_+1,_,_=> none
def leafEq:V→V→Bool
 | .int j a,.int k b=> decide (j=k)&&(a==b)
 | .bool a,.bool b=> a==b
 | .str a,.str b=> a==b
 |_,_=> false
def xe:List V→List V→Bool
 | [],[]=> true
 |x::xs,y::ys=> leafEq x y && xe xs ys
 |_,_=> false
def eqSV(ne:Bool)(d:Nat)(lay:Lay)(x y:V):Option V:=
 match x,y with
 | .agg a,.agg b=> match layV d lay a,layV d lay b with
  |some p,some q=> some (.bool (if xe p q then !ne else ne))
  |_,_=> none
 |_,_=> none
def unV(op:UnOp)(x:V):Option V:=
 match op,x with
 | .not,.bool b=> some (.bool (!b))
 | .neg,.int k n=> some (.int k (k.wrap (0 - n)))
 |_,_=> none
def jX(e:Env):List (Nat×Nat×X)→List V→Option (List V)
 | [],cs=> some cs
 |(off,size,x)::ps,cs=>
  let ds:=(x.ev e).cells
  if ds.length=size∧off+size≤cs.length∧(x.ev e).tupless=true then jX e ps (cs.take off++ds++cs.drop (off+size))else none
def ze(n:Option Nat)(cs:List V):Option V:=
 match n with
 |some m=> if m≤cs.length then some (.agg (cs.take m))else none
 |none=> match cs with|c::_=> some c| []=> none
def lenV:V→Option Nat
 | .nils=> some 0
 | .sl _ _ _ n _=> some n
 | .isl xs=> some xs.length
 |_=> none
def intV:V→Option Int
 | .int .i64 n=> some n
 |_=> none
def bytesV:List V→Option (List Nat)
 | []=> some []
 | .int .u8 n::r=> if 0≤n∧n < 256 then match bytesV r with|some l=> some (n.toNat::l)|none=> none else none
 |_=> none
def srcV(h:Heap)(sz:Nat):V→Option (Nat×List V)
 | .nils=> some (0,[])
 | .islx=> some (0,[])
 | .isl xs=> if(flat xs).length=xs.length*sz then some (xs.length,flat xs)else none
 | .sl key uid off len s=>
  match h.get key uid with
  |some cs=> if off+len*sz≤cs.length∧s=sz then some (len,(cs.drop off).take (len*sz))else none
  |none=> none
 | .str l=> if sz=1 then some (l.length,l.map fun(b:Nat)=> V.int .u8 b)else none
 |_=> none
abbrev Call:=Nat→List V→Heap→Option (V×Heap)
def zY(call:Call)(md:Md)(g:Nat)(args:List V)(h:Heap):Option (V×Heap):=
 match md with
 | .plain=> call g args h
 | .pure ds=>
  match mapO (frz h FZ) args with
  |none=> none
  |some as=>
   match call g as Heap.empty with
   |none=> none
   |some (r,h1)=>
    match ds with
    | []=> match frz h1 FZ r with
     |some t=> if args.all (qo FZ)|| bare FZ [] t then some (t,h)else none
     |none=> none
    |s::ss=> match take FZ (s::ss) r h1 with
     |some (t,_)=> if args.all (qo FZ)|| bare FZ (s::ss) t then thaw FZ (s::ss) t h else none
     |none=> none
 | .thr ds=>
  match args with
  | .ptr key uid 0::rest=>
   match h.get key uid with
   |some cs=>
    if(cs.all (qo FZ)&& rest.all (qo FZ))=true then
     match call g (.ptr 0 0 0::rest) ⟨[(0,some cs)],1⟩with
     |some (r,h1)=>
      match h1.get 0 0 with
      |some cs'=>
       if cs'.all (qo FZ)=true then
        match ds with
        | []=> match frz (h1.kill 0) FZ r with
         |some t=> some (t,h.put key uid cs')
         |none=> none
        |s::ss=> match take FZ (s::ss) r (h1.kill 0)with
         |some (t,_)=> thaw FZ (s::ss) t (h.put key uid cs')
         |none=> none
       else none
      |none=> none
     |none=> none
    else none
   |none=> none
  |_=> none
def jB(y:Nat):Option V→Nat→Option Nat
 |none,d=> some d
 |some v,_=> match intV v with|some i=> if 0≤i∧i≤y then some i.toNat else none|none=> none
def sliceV(sz:Nat)(x:V)(lo hi:Option V):Option V:=
 match lenV x with
 |none=> none
 |some n=>
  match jB n hi n with
  |none=> none
  |some b=>
   match jB b lo 0 with
   |none=> none
   |some a=>
    match x with
    | .nils=> some .nils
    | .isl xs=> if xs.all (fun v=> v.cells.length==sz)then some (.isl ((xs.take b).drop a))else none
    | .sl key uid off _ s=> if s=sz∨n=0 then some (.sl key uid (off+a*sz) (b - a) s)else none
    |_=> none
def sliceSV(x:V)(lo hi:Option V):Option V:=
 match x with
 | .str l=>
  match jB l.length hi l.length with
  |none=> none
  |some b=>
   match jB b lo 0 with
   |none=> none
   |some a=> some (.str ((l.take b).drop a))
 |_=> none
def za(sz bytes:Nat)(x:V)(n:Nat)(ds:List V)(h:Heap):Option (V×Heap):=
 if n=0 then
  match x with
  | .nils=> some (.nils,h)
  | .sl key uid off len s=> some (.sl key uid off len s,h)
  |_=> none
 else match x with
  | .nils=> if n*bytes≤2^40∧n≤2^40 then some (.sl h.ents.length h.clk 0 n sz,h.push ds)else none
  | .sl key uid off len s=> match h.get key uid with
   |some cs=> if off+len*sz≤cs.length∧s=sz∧(len+n)*bytes≤2^40∧len+n≤2^40 then
     some (.sl key h.clk 0 (len+n) sz,h.renew key ((cs.drop off).take (len*sz)++ds))else none
   |none=> none
  |_=> none
def nz1(md:Option Nat)(v:V)(h:Heap):Option (V×Heap):=
 match v with
 | .nils=> match md with
  |none=> some (.isl [],h)
  |some s=> some (.sl h.ents.length h.clk 0 0 s,h.push [])
 |v=> some (v,h)
def nzV(md:Option Nat)(v:V)(h:Heap):Option (V×Heap):=
 match v with
 | .agg cs=> match mapS (nz1 md) cs h with|some (ds,h1)=> some (.agg ds,h1)|none=> none
 | .ptr key uid off=> match h.get key uid with
  |some cs=> match mapS (nz1 md) cs h with|some (ds,h1)=> some (.ptr key uid off,h1.put key uid ds)|none=> none
  |none=> none
 | .sl key uid off len sz=> match h.get key uid with
  |some cs=> match mapS (nz1 md) cs h with|some (ds,h1)=> some (.sl key uid off len sz,h1.put key uid ds)|none=> none
  |none=> none
 |v=> nz1 md v h
def opEv(call:Call)(o:O)(e:Env)(h:Heap):Option (V×Heap):=
 match o with
 | .nz md o'=> match opEv call o' e h with|some (v,h1)=> nzV md v h1|none=> none
 | .fz o'=> match opEv call o' e h with|some (v,h1)=> take FZ [] v h1|none=> none
 | .move x=> some (x.ev e,h)
 | .frz x=> take FZ [] (x.ev e) h
 | .pick c a b=> match c.ev e with| .bool true=> some (a.ev e,h)| .bool false=> some (b.ev e,h)|_=> none
 | .box x=> if(x.ev e).tupless then some (.ptr h.ents.length h.clk 0,h.push (x.ev e).cells)else none
 | .alloc cs=> some (.ptr h.ents.length h.clk 0,h.push cs)
 | .build zero parts=> match jX e parts zero with|some cs=> some (.agg cs,h)|none=> none
 | .buildSlice sz len zero parts=> match jX e parts zero with
  |some cs=> some (.sl h.ents.length h.clk 0 len sz,h.push cs)
  |none=> none
 | .blit sz len zero parts=> match jX e parts zero with
  |some cs=> if cs.all V.lit=true∧len*sz≤cs.length∧0 < sz then some (.isl (jn sz len (cs.take (len*sz))),h)else none
  |none=> none
 | .load md n x=> match x.ev e with
  | .iptr cs=> match ze n cs with|some v=> some (v,h)|none=> none
  | .ptr key uid off=> if md.bars e key=true then none else match h.get key uid with
   |some cs=> match ze n (cs.drop off)with|some v=> some (v,h)|none=> none
   |none=> none
  |_=> none
 | .store n a x=> match a.ev e with
  | .ptr key uid off=> match h.get key uid with
   |some cs=>
    let ds:=(x.ev e).cells
    if ds.length=n∧off+n≤cs.length∧(x.ev e).tupless=true then some (V.undef,h.put key uid (cs.take off++ds++cs.drop (off+n)))else none
   |none=> none
  |_=> none
 | .nilCheck x=> match x.ev e with
  | .ptr k u f=> some (.ptr k u f,h)
  | .iptr cs=> some (.iptr cs,h)
  | .fn g fs cs=> some (.fn g fs cs,h)
  |_=> none
 | .bin kind op x y=> match binV kind op (x.ev e) (y.ev e)with|some v=> some (v,h)|none=> none
 | .eqS ne d lay x y=> match eqSV ne d lay (x.ev e) (y.ev e)with|some v=> some (v,h)|none=> none
 | .un op x=> match unV op (x.ev e)with|some v=> some (v,h)|none=> none
 | .toInt k x=> match x.ev e with| .int _ n=> some (.int k (k.wrap n),h)|_=> none
 | .toStr x=> match x.ev e with| .isl xs=>(match bytesV xs with|some l=> some (.str l,h)|none=> none)|_=> none
 | .mkfn g fs cs=> some (.fn g (fs.map (X.ev e)) (cs.map (X.ev e)),h)
 | .makeSlice sz bytes zero l c=> match intV (l.ev e),intV (c.ev e)with
  |some n,some m=> if n=m∧0≤n∧n*bytes≤2^40∧n≤2^40∧zero.length=sz then
    some (.sl h.ents.length h.clk 0 n.toNat sz,h.push ((List.replicate n.toNat zero).flatten))else none
  |_,_=> none
 | .slice sz x lo hi=> match sliceV sz (x.ev e) (lo.map (X.ev e)) (hi.map (X.ev e))with|some v=> some (v,h)|none=> none
 | .fieldAddr off x=> match x.ev e with
  | .ptr key uid o=> some (.ptr key uid (o+off),h)
  | .iptr cs=> some (.iptr (cs.drop off),h)
  |_=> none
 | .field off n x=> match x.ev e with
  | .agg cs=> match ze n (cs.drop off)with|some v=> some (v,h)|none=> none
  |_=> none
 | .indexAddr arr sz x i=> match(i.ev e)with
  | .int _ n=> if 0≤n then
    match arr,x.ev e with
    |none,.sl key uid off len s=> if n < len∧s=sz then some (.ptr key uid (off+n.toNat*sz),h)else none
    |none,.isl xs=> match xs[n.toNat]? with
     |some v=> if v.cells.length=sz then some (.iptr v.cells,h)else none
     |none=> none
    |some len,.ptr key uid o=> if n < len then some (.ptr key uid (o+n.toNat*sz),h)else none
    |some len,.iptr cs=> if n < len then some (.iptr (cs.drop (n.toNat*sz)),h)else none
    |_,_=> none
   else none
  |_=> none
 | .indexA len sz n x i=> match x.ev e,i.ev e with
  | .agg cs,.int _ j=> if 0≤j∧j < len then match ze n (cs.drop (j.toNat*sz))with|some v=> some (v,h)|none=> none else none
  |_,_=> none
 | .indexS x i=> match x.ev e,i.ev e with
  | .str l,.int _ j=> if 0≤j then match l[j.toNat]? with|some b=> some (.int .u8 b,h)|none=> none else none
  |_,_=> none
 | .extract i x=> match x.ev e with
  | .tup vs=> match vs[i]? with|some v=> some (v,h)|none=> none
  |_=> none
 | .callf md g args=> zY call md g (args.map (X.ev e)) h
 | .callv md f args=> match f.ev e with
  | .fn g fs cs=> zY call md g (fs++args.map (X.ev e)++cs) h
  |_=> none
 | .sliceS x lo hi=> match sliceSV (x.ev e) (lo.map (X.ev e)) (hi.map (X.ev e))with|some v=> some (v,h)|none=> none
 | .lenS x=> match x.ev e with| .str l=> some (.int .i64 l.length,h)|_=> none
 | .len x=> match lenV (x.ev e)with|some n=> some (.int .i64 n,h)|none=> none
 | .cap x=> match x.ev e with| .nils=> some (.int .i64 0,h)|_=> none
 | .append sz bytes x y=> match srcV h sz (y.ev e)with
  |some (n,ds)=> za sz bytes (x.ev e) n ds h
  |none=> none
 | .appendZ sz bytes zero x y=> match intV (y.ev e)with
  |some n=> if 0≤n∧n≤2^40∧n*bytes≤2^40∧zero.length=sz then za sz bytes (x.ev e) n.toNat ((List.replicate n.toNat zero).flatten) h else none
  |none=> none
 | .copy sz x y=> match srcV h sz (y.ev e),lenV (x.ev e)with
  |some (n,ds),some m=>
   let j:=min n m
   if j=0 then some (.int .i64 0,h)else
   match x.ev e with
   | .sl key uid off _ s=> match h.get key uid with
    |some cs=> if s=sz∧off+j*sz≤cs.length then
      some (.int .i64 j,h.put key uid (cs.take off++ds.take (j*sz)++cs.drop (off+j*sz)))else none
    |none=> none
   |_=> none
  |_,_=> none
 | .max2 x y=> match x.ev e,y.ev e with| .int k a,.int _ b=> some (.int k (if b > a then b else a),h)|_,_=> none
 | .min2 x y=> match x.ev e,y.ev e with| .int k a,.int _ b=> some (.int k (if b < a then b else a),h)|_,_=> none
 | .abort=> none
inductive Ex where
 |normal
 |exit (id:Nat)
 |ret
 deriving Inhabited
def Env.put(e:Env)(dst:Option Nat)(v:V):Env:=
 match dst with
 |some d=> e.set d v
 |none=> e
def Op.wanted(o:Op)(e:Env):Bool:=
 match o.guard with
 |none=> true
 |some (t,w)=> match e.at t with| .bool b=> b==w|_=> false
def Op.ev(call:Call)(o:Op)(e:Env)(h:Heap):Option (Env×Heap):=
 if o.wanted e then
  match opEv call o.op e h with
  |some (v,h1)=> some (e.put o.dst v,h1)
  |none=> none
 else some (e.put o.dst V.undef,h)
def jG(call:Call):List Op→Env→Heap→Option (Env×Heap)
 | [],e,h=> some (e,h)
 |o::os,e,h=> match o.ev call e h with
  |some (e1,h1)=> jG call os e1 h1
  |none=> none
def Heap.cut(keep:Bool)(n:Nat)(h:Heap):Heap:=if keep then h else h.trunc n
def loopN(body:Env→Heap→Option (Ex×Env×Heap))(keep:Bool)(n:Nat):Nat→Env→Heap→Option (Ex×Env×Heap)
 |0,_,_=> none
 |k+1,e,h=> match body e h with
  |some (.normal,e1,h1)=> loopN body keep n k e1 (h1.cut keep n)
  |some (.exit i,e1,h1)=> some (.exit i,e1,h1.cut keep n)
  |r=> r
def C.ev(call:Call)(k:Nat):C→Env→Heap→Option (Ex×Env×Heap)
 | .skip,e,h=> some (.normal,e,h)
 | .reg ops _,e,h=> match jG call ops e h with|some (e1,h1)=> some (.normal,e1,h1)|none=> none
 | .seq a b,e,h=> match C.ev call k a e h with
  |some (.normal,e1,h1)=> C.ev call k b e1 h1
  |r=> r
 | .cond x a b,e,h=> match x.ev e with
  | .bool true=> C.ev call k a e h
  | .bool false=> C.ev call k b e h
  |_=> none
 | .block id a,e,h=> match C.ev call k a e h with
  |some (.exit i,e1,h1)=> if i=id then some (.normal,e1,h1)else some (.exit i,e1,h1)
  |r=> r
 | .loop keep a,e,h=> loopN (C.ev call k a) keep h.ents.length k e h
 | .exit id,e,h=> some (.exit id,e,h)
 | .ret,e,h=> some (.ret,e,h)
 | .clone _ _,_,_=> none
def Rs.ev(e:Env)(h:Heap):Rs→Option V
 | .tmp t=> some (e.at t)
 | .cell t n=> match e.at t with
  | .ptr key uid off=> match h.get key uid with
   |some cs=> ze n (cs.drop off)
   |none=> none
  |_=> none
def Fn.out(f:Fn)(e:Env)(h:Heap):Option V:=
 match mapO (Rs.ev e h) f.results with
 |some [v]=> some v
 |some vs=> some (.tup vs)
 |none=> none
abbrev Prog:=Nat→Option Fn
def cloneC(sz bytes:Nat):C:=
 .seq (.reg [⟨some 2,.move (.c .nils),none⟩] none)
 (.seq (.seq (.reg [⟨some 3,.move (.t 0),none⟩,⟨some 4,.bin 2 .eql (.t 3) (.c .nils),none⟩] none)
  (.cond (.t 4) (.seq (.reg [⟨some 2,.move (.c .nils),none⟩] none) .ret) .skip))
 (.seq (.reg [⟨some 5,.buildSlice sz 0 [] [],none⟩,⟨some 6,.move (.t 0),none⟩,⟨some 7,.append sz bytes (.t 5) (.t 6),none⟩,⟨some 2,.move (.t 7),none⟩] none) .ret))
def bodyEv(call:Call)(k:Nat)(c:C)(e:Env)(h:Heap):Option (Ex×Env×Heap):=
 match c with
 | .clone sz b=> match e.at 0 with
  | .isl []=> some (.ret,e.put (some 2) (.sl h.ents.length h.clk 0 0 sz),h.push [])
  |_=> C.ev call k (cloneC sz b) e h
 |c=> C.ev call k c e h
def C.isClone:C→Bool
 | .clone _ _=> true
 |_=> false
def Prog.run(A:Prog):Nat→Call
 |0=> fun _ _ _=> none
 |k+1=> fun g args h=>
  match A g with
  |none=> none
  |some f=>
   if args.length=f.nargs then
    match bodyEv (A.run k) k f.body (args++List.replicate (f.ntmps - f.nargs) V.undef) h with
    |some (.exit _,_,_)=> none
    |some (_,e1,h1)=> match f.out e1 h1 with|some v=> some (v,h1)|none=> none
    |none=> none
   else none
end Rv
namespace Rv
open Go (IntKind BinOp UnOp Program Value Operand Oper Code TypeId Func)
def xA(tbl:Nat→Option Nat):Nat→Value→Option V
 |0,_=> none
 |_+1,.int k n=> some (.int k n)
 |_+1,.bool b=> some (.bool b)
 |_+1,.string s=> some (.str (s.data.toList.map UInt8.toNat))
 |_+1,.pointer none=> some .nilp
 |_+1,.slice none 0 0=> some .nils
 |_+1,.nilFunc=> some .nilf
 |f+1,.agg cs=> match mapO (xA tbl f) cs.toList with|some ds=> if ds.all V.one then some (.agg ds)else none|none=> none
 |f+1,.tuple cs=> match mapO (xA tbl f) cs.toList with|some ds=> some (.tup ds)|none=> none
 |_+1,_=> none
def CV:Nat:=8
def qO(tbl:Nat→Option Nat):Operand→Option X
 | .tmp t=> some (.t t)
 | .const v=> match xA tbl CV v with|some d=> some (.c d)|none=> none
 | .func f=> match tbl f with|some g=> some (.c (.fn g [] []))|none=> none
 | .global _=> none
structure TI where
 size:Nat
 bytes:Nat
 agg:Bool
 zero:List V
def aggOf(P:Program)(t:TypeId):Bool:=
 match P.underlying t with
 |some (.struct _)=> true
 |some (.array _ _)=> true
 |_=> false
def partN(P:Program)(t:TypeId):Option (Option Nat):=
 match P.info? t with
 |some i=> match P.underlying t with
  |some _=> some (if aggOf P t then some i.size else none)
  |none=> none
 |none=> none
def ju(P:Program)(tbl:Nat→Option Nat)(t:TypeId):Option (List V):=
 match P.info? t with
 |some i=> match i.zero with
  |some z=> match mapO (xA tbl CV) z.cells.toList with|some ds=> if ds.all V.one then some ds else none|none=> none
  |none=> none
 |none=> none
def binKind(P:Program)(t:TypeId):Option Nat:=
 match P.underlying t with
 |some (.int _)=> some 0
 |some .string=> some 0
 |some .bool=> some 1
 |some (.slice _)=> some 2
 |_=> none
def LD:Nat:=12
def layT(P:Program):Nat→TypeId→Option Lay
 |0,_=> none
 |d+1,t=> match P.underlying t with
  |some .bool=> some .bool
  |some (.int q)=> some (.int q)
  |some .string=> some .str
  |some (.array n e)=> match layT P d e with|some l=> some (.arr n (P.cellsOf t) (P.cellsOf e) l)|none=> none
  | some (.struct fs) => if fs.all (·.name != "_") then
    match mapO (fun(f:Go.Field)=> match layT P d f.type with|some l=> some (f.offset,P.cellsOf f.type,l)|none=> none) fs.toList with
    |some l=> some (.st (P.cellsOf t) l)
    |none=> none else none
  |_=> none
def eqLay(P:Program)(t:TypeId):Option Lay:=
 if aggOf P t && P.keyTypeAt LD t && !(P.eqGuardType P.depth t)then layT P LD t else none
def qx(P:Program)(tbl:Nat→Option Nat)(o:Oper):Option O:=
 let x1 (x:Operand) (k:X→Option O):Option O:=match qO tbl x with|some a=> k a|none=> none
 let xs (l:List Operand) (k:List X→Option O):Option O:=match mapO (qO tbl) l with|some a=> k a|none=> none
 let parts (place:Nat→Option (Nat×Nat)) (ps:List (Nat×Operand)) (k:List (Nat×Nat×X)→Option O):Option O:=
  match mapO (fun(p:Nat×Operand)=> match place p.1,qO tbl p.2 with|some (a,b),some x=> some (a,b,x)|_,_=> none) ps with
  |some l=> k l
  |none=> none
 match o.op with
 | .move x=> x1 x fun a=> some (.move a)
 | .assign x=> x1 x fun a=> some (.move a)
 | .pick c a b=> x1 c fun c=> x1 a fun a=> x1 b fun b=> some (.pick c a b)
 | .box _ v=> x1 v fun a=> some (.box a)
 | .alloc e=> match ju P tbl e with|some z=> some (.alloc z)|none=> none
 | .build t ps=> match ju P tbl t,P.underlying t with
  |some z,some (.struct fs)=> if !(fs.all fun f=>(P.info? f.type).isSome)then none else parts (fun i=> match fs[i]? with|some f=>(match P.info? f.type with|some q=> some (f.offset,q.size)|none=> none)|none=> none) ps.toList fun l=> some (.build z l)
  |some z,some (.array _ e)=> match P.info? e with
   |some i=> parts (fun j=> some (j*i.size,i.size)) ps.toList fun l=> some (.build z l)
   |none=> none
  |_,_=> none
 | .buildSlice t n ps=> match P.underlying t with
  |some (.slice e)=> match P.info? e,ju P tbl e with
   |some i,some z=> if z.length=i.size∧0 < i.size∧n*i.size≤2^20 then
     parts (fun j=> some (j*i.size,i.size)) ps.toList fun l=> some (.buildSlice i.size n ((List.replicate n z).flatten) l)else none
   |_,_=> none
  |_=> none
 | .load t a=> x1 a fun a=> match partN P t with
  |some n=> some (.load .any n a)
  |none=> none
 | .store t a v=> x1 a fun a=> x1 v fun v=> match P.info? t with|some i=> some (.store i.size a v)|none=> none
 | .nilCheck x=> x1 x fun a=> some (.nilCheck a)
 | .binOp op t x y _=> match binKind P t with
  |some k=> x1 x fun x=> x1 y fun y=> some (.bin k op x y)
  |none=> match eqLay P t with
   |some l=> match op with
    | .eql=> x1 x fun x=> x1 y fun y=> some (.eqS false LD l x y)
    | .neq=> x1 x fun x=> x1 y fun y=> some (.eqS true LD l x y)
    |_=> none
   |none=> none
 | .unOp op _ x=> x1 x fun a=> some (.un op a)
 | .convert s d x=> match P.underlying s,P.underlying d with
  |some (.int _),some (.int k)=> x1 x fun a=> some (.toInt k a)
  |some (.slice e),some .string=> match P.underlying e with|some (.int .u8)=> x1 x fun a=> some (.toStr a)|_=> none
  |_,_=> none
 | .makeFunc (.func f) fst cap=> match tbl f with
  |some g=> xs fst.toList fun fst=> xs cap.toList fun cap=> some (.mkfn g fst cap)
  |none=> none
 | .makeSlice t l c=> match P.underlying t with
  |some (.slice e)=> match P.info? e,ju P tbl e with
   |some i,some z=> if z.length=i.size∧0 < i.size then x1 l fun l=> x1 c fun c=> some (.makeSlice i.size i.bytes z l c)else none
   |_,_=> none
  |_=> none
 | .slice t x lo hi none=>
  let xo (l:Option Operand) (k:Option X→Option O):Option O:=match l with|none=> k none|some a=> match qO tbl a with|some b=> k (some b)|none=> none
  match P.underlying t with
  |some (.slice e)=> match P.info? e with|some i=> if 0 < i.size then x1 x fun x=> xo lo fun lo=> xo hi fun hi=> some (.slice i.size x lo hi)else none|none=> none
  |some .string=> x1 x fun x=> xo lo fun lo=> xo hi fun hi=> some (.sliceS x lo hi)
  |_=> none
 | .fieldAddr t x f=> match P.underlying t with
  |some (.struct fs)=> match fs[f]? with
   |some f=> match P.info? f.type with
    |some i=> if 0 < i.size then x1 x fun x=> some (.fieldAddr f.offset x)else none
    |none=> none
   |none=> none
  |_=> none
 | .field t x f=> match P.underlying t with
  |some (.struct fs)=> match fs[f]? with
   |some f=> match partN P f.type with
    |some n=> x1 x fun x=> some (.field f.offset n x)
    |none=> none
   |none=> none
  |_=> none
 | .indexAddr t x i=> match P.underlying t with
  |some (.slice e)=> match P.info? e with
   |some j=> if 0 < j.size then x1 x fun x=> x1 i fun i=> some (.indexAddr none j.size x i)else none
   |none=> none
  |some (.array n e)=> match P.info? e with
   |some j=> if 0 < j.size then x1 x fun x=> x1 i fun i=> some (.indexAddr (some n) j.size x i)else none
   |none=> none
  |_=> none
 | .index t x i=> match P.underlying t with
  |some (.array n e)=> match P.info? e,partN P e with
   |some j,some m=> x1 x fun x=> x1 i fun i=> some (.indexA n j.size m x i)
   |_,_=> none
  |some .string=> x1 x fun x=> x1 i fun i=> some (.indexS x i)
  |_=> none
 | .extract x i=> x1 x fun x=> some (.extract i x)
 | .call c=> match c.callee with
  | .value (.func f)=> match tbl f with
   |some g=> xs c.args.toList fun l=> some (.callf .plain g l)
   |none=> none
  | .value (.tmp t)=> xs c.args.toList fun l=> some (.callv .plain (.t t) l)
  | .builtin .len=> match c.args.toList,c.argTypes[0]? with
   | [x],some t=> match P.underlying t with
    |some .string=> x1 x fun x=> some (.lenS x)
    |some (.slice _)=> x1 x fun x=> some (.len x)
    |_=> none
   |_,_=> none
  | .builtin .cap=> match c.args.toList,c.argTypes[0]? with
   | [x],some t=> match P.underlying t with
    |some (.slice _)=> x1 x fun x=> some (.cap x)
    |_=> none
   |_,_=> none
  | .builtin .append=> match c.args.toList,c.argTypes.toList with
   | [x,y],[t,u]=> match P.underlying t,P.underlying u with
    |some (.slice e),some (.int _)=> match P.info? e,ju P tbl e with
     |some i,some z=> if 0 < i.size∧z.length=i.size then x1 x fun x=> x1 y fun y=> some (.appendZ i.size i.bytes z x y)else none
     |_,_=> none
    |some (.slice e),some (.slice _)=> match P.info? e,ju P tbl e with
     |some i,some z=> if 0 < i.size∧z.length=i.size then x1 x fun x=> x1 y fun y=> some (.append i.size i.bytes x y)else none
     |_,_=> none
    |some (.slice e),some .string=> match P.info? e,ju P tbl e with
     |some i,some z=> if 0 < i.size∧z.length=i.size then x1 x fun x=> x1 y fun y=> some (.append i.size i.bytes x y)else none
     |_,_=> none
    |_,_=> none
   |_,_=> none
  | .builtin .copy=> match c.args.toList,c.argTypes[0]? with
   | [x,y],some t=> match P.underlying t with
    |some (.slice e)=> match P.info? e with
     |some i=> if 0 < i.size then x1 x fun x=> x1 y fun y=> some (.copy i.size x y)else none
     |none=> none
    |_=> none
   |_,_=> none
  | .builtin .max=> match c.args.toList with
   | [x,y]=> x1 x fun x=> x1 y fun y=> some (.max2 x y)
   |_=> none
  | .builtin .min=> match c.args.toList with
   | [x,y]=> x1 x fun x=> x1 y fun y=> some (.min2 x y)
   |_=> none
  |_=> none
 |_=> none
def compOp(P:Program)(tbl:Nat→Option Nat)(ops:Array Oper)(o:Oper):Option Op:=
 let op:=(qx P tbl o).getD .abort
 match o.guard with
 |none=> some ⟨o.dst,op,none⟩
 |some (j,w)=> match(ops[j]?).bind (·.dst)with
  |some t=> some ⟨o.dst,op,some (t,w)⟩
  |none=> none
def afters(ops:List Oper):List (List Nat):=
 ops.map fun o=>(o.after.toList.filter fun e=> Go.Region.binds .any e).map (·.on)
def jV(P:Program)(tbl:Nat→Option Nat):Code→Option C
 | .skip=> some .skip
 | .region _ ops draw=> match mapO (compOp P tbl ops) ops.toList with
  |some l=> some (.reg l (if draw then some (afters ops.toList)else none))
  |none=> none
 | .seq a b=> match jV P tbl a,jV P tbl b with|some x,some y=> some (.seq x y)|_,_=> none
 | .cond c a b=> match qO tbl c,jV P tbl a,jV P tbl b with|some c,some x,some y=> some (.cond c x y)|_,_,_=> none
 | .block id a=> match jV P tbl a with|some x=> some (.block id x)|none=> none
 | .loop a=> match jV P tbl a with|some x=> some (.loop false x)|none=> none
 | .exit id=> some (.exit id)
 | .ret=> some .ret
 |_=> none
def compR(P:Program):Go.ResultVar→Option Rs
 | .tmp t=> some (.tmp t)
 | .cell a t=> match partN P t with|some n=> some (.cell a n)|none=> none
def compFn(P:Program)(tbl:Nat→Option Nat)(fn:Func):Option Fn:=
 match fn.body with
 |none=> none
 |some c=> match jV P tbl c,mapO (compR P) fn.results.toList with
  |some b,some r=> some ⟨fn.params.size+fn.nfree,fn.ntmps,r,b⟩
  |_,_=> none
def qR:O→O
 | .frz x=> .move x
 | .fz o=> qR o
 | .nz _ o=> qR o
 | .load _ n x=> .load .any n x
 | .blit a b z l=> .buildSlice a b z l
 | .callf _ g l=> .callf .plain g l
 | .callv _ f l=> .callv .plain f l
 |o=> o
def eraseRO(ops:List Op):Option (List (List Nat))→List Op
 |none=> ops.map fun o=>⟨o.dst,qR o.op,o.guard⟩
 |some l=> if l.length=ops.length+1 then
   (List.range ops.length).map fun r=> let o:=ops.getD ((l.getD ops.length []).idxOf r) default;⟨o.dst,qR o.op,o.guard⟩
  else ops.map fun o=>⟨o.dst,qR o.op,o.guard⟩
def eraseRD(ops:List Op):Option (List (List Nat))→Option (List (List Nat))
 |none=> none
 |some l=> if l.length=ops.length+1 then
   some ((List.range ops.length).map fun r=>(l.getD ((l.getD ops.length []).idxOf r) []).map fun k=>(l.getD ops.length []).getD k ops.length)
  else some l
def zO:C→C
 | .reg ops d=> .reg (eraseRO ops d) (eraseRD ops d)
 | .seq a b=> .seq (zO a) (zO b)
 | .cond x a b=> .cond x (zO a) (zO b)
 | .block i a=> .block i (zO a)
 | .loop _ a=> .loop false (zO a)
 | .clone sz b=> cloneC sz b
 |c=> c
def eraseFn(f:Fn):Fn:=⟨f.nargs,f.ntmps,f.results,zO f.body⟩
end Rv
namespace Rv
open Go (IntKind BinOp UnOp Program Value Operand Oper Code TypeId Func World Addr Obj Act Calls)
structure Loc where
 b:Nat
 o:Nat
 ext:Nat
abbrev Iota:=Nat→Nat→Option Loc
abbrev Imm:=Nat→Nat→Option Value
variable {tbl:Nat→Option Nat}
inductive RI (tbl:Nat→Option Nat) (I:Imm):V→Value→Prop
 |int (k:IntKind) (n:Int):RI tbl I (.int k n) (.int k n)
 |bool (b:Bool):RI tbl I (.bool b) (.bool b)
 |str (s:ByteArray) (l:List Nat) (h:s.data.toList.map UInt8.toNat=l):RI tbl I (.str l) (.string s)
 |nilp:RI tbl I .nilp (.pointer none)
 |iptr (cs:List V) (b o:Nat) (vs:List Value) (hl:vs.length=cs.length) (ho:∀v∈vs,v.oneCell'=true) (hi:∀ (i:Nat) v,vs[i]? =some v→I b (o+i)=some v)
   (hr:∀ (i:Nat) c v,cs[i]? =some c→vs[i]? =some v→RI tbl I c v):RI tbl I (.iptr cs) (.pointer (some ⟨b,o,none⟩))
 |nils:RI tbl I .nils (.slice none 0 0)
 |isl0 (a:Option Addr) (cap:Nat) (ha:a=none→cap=0):RI tbl I (.isl []) (.slice a 0 cap)
 |islx (a:Addr) (cap:Nat):RI tbl I .islx (.slice (some a) 0 cap)
 |isl (xs:List V) (b o cap sz:Nat) (vs:List Value) (hc:xs.length≤cap) (hz:0 < sz) (hx:∀x∈xs,x.cells.length=sz)
   (hl:vs.length=(flat xs).length) (ho:∀v∈vs,v.oneCell'=true) (hi:∀ (i:Nat) v,vs[i]? =some v→I b (o+i)=some v)
   (hr:∀ (i:Nat) c v,(flat xs)[i]? =some c→vs[i]? =some v→RI tbl I c v):RI tbl I (.isl xs) (.slice (some ⟨b,o,none⟩) xs.length cap)
 |fn (g f:Nat) (fst cap:List V) (fs cs:List Value) (ht:tbl f=some g) (hf:fs.length=fst.length) (hc:cs.length=cap.length)
   (h1:∀ (i:Nat) c v,fst[i]? =some c→fs[i]? =some v→RI tbl I c v) (h2:∀ (i:Nat) c v,cap[i]? =some c→cs[i]? =some v→RI tbl I c v):
   RI tbl I (.fn g fst cap) (.func (.func f) fs.toArray cs.toArray)
 |nilf:RI tbl I .nilf .nilFunc
 |agg (cs:List V) (vs:List Value) (hl:vs.length=cs.length) (ho:∀v∈vs,v.oneCell'=true) (hr:∀ (i:Nat) c v,cs[i]? =some c→vs[i]? =some v→RI tbl I c v):RI tbl I (.agg cs) (.agg vs.toArray)
 |tup (cs:List V) (vs:List Value) (hl:vs.length=cs.length) (hr:∀ (i:Nat) c v,cs[i]? =some c→vs[i]? =some v→RI tbl I c v):RI tbl I (.tup cs) (.tuple vs.toArray)
inductive RV (tbl:Nat→Option Nat) (ι:Iota) (I:Imm):V→Value→Prop
 |imm {v:V} {c:Value} (h:RI tbl I v c):RV tbl ι I v c
 |ptr (key uid off:Nat) (l:Loc) (h:ι key uid=some l):RV tbl ι I (.ptr key uid off) (.pointer (some ⟨l.b,l.o+off,none⟩))
 |sl (key uid off len sz cap:Nat) (l:Loc) (h:ι key uid=some l) (he:off+cap*sz≤l.ext) (hc:len≤cap) (hz:0 < sz):
   RV tbl ι I (.sl key uid off len sz) (.slice (some ⟨l.b,l.o+off,none⟩) len cap)
 |sl0 (key uid off sz:Nat) (a:Option Addr):RV tbl ι I (.sl key uid off 0 sz) (.slice a 0 0)
 |fn (g f:Nat) (fst cap:List V) (fs cs:List Value) (ht:tbl f=some g) (hf:fs.length=fst.length) (hc:cs.length=cap.length)
   (h1:∀ (i:Nat) c v,fst[i]? =some c→fs[i]? =some v→RV tbl ι I c v) (h2:∀ (i:Nat) c v,cap[i]? =some c→cs[i]? =some v→RV tbl ι I c v):
   RV tbl ι I (.fn g fst cap) (.func (.func f) fs.toArray cs.toArray)
 |agg (cs:List V) (vs:List Value) (hl:vs.length=cs.length) (ho:∀v∈vs,v.oneCell'=true) (hr:∀ (i:Nat) c v,cs[i]? =some c→vs[i]? =some v→RV tbl ι I c v):RV tbl ι I (.agg cs) (.agg vs.toArray)
 |tup (cs:List V) (vs:List Value) (hl:vs.length=cs.length) (hr:∀ (i:Nat) c v,cs[i]? =some c→vs[i]? =some v→RV tbl ι I c v):RV tbl ι I (.tup cs) (.tuple vs.toArray)
structure P2 {α β:Type} (R:α→β→Prop) (xs:List α) (ys:List β):Prop where
 len:ys.length=xs.length
 at_:∀ (i:Nat) x y,xs[i]? =some x→ys[i]? =some y→R x y
theorem P2.nil{α β:Type}{R:α→β→Prop}:P2 R [] []:=⟨rfl,fun i x y h=> by simp at h⟩
theorem P2.cons{α β:Type}{R:α→β→Prop}{x:α}{y:β}{xs:List α}{ys:List β}(h:R x y)(t:P2 R xs ys):P2 R (x::xs) (y::ys):=
 ⟨by simp[t.len],fun i a b ha hb=> by
  cases i with
  |zero=> simp at ha hb; subst ha; subst hb; exact h
  |succ i=> simp at ha hb; exact t.at_ i a b ha hb⟩
theorem P2.uncons{α β:Type}{R:α→β→Prop}{x:α}{xs:List α}{ys:List β}(h:P2 R (x::xs) ys):∃y t,ys=y::t∧R x y∧P2 R xs t:=by
 cases ys with
 |nil=> have:=h.len; simp at this
 |cons y t=>
  refine⟨y,t,rfl,h.at_ 0 x y rfl rfl,⟨by have:=h.len; simpa using this,fun i a b ha hb=> h.at_ (i+1) a b (by simpa using ha) (by simpa using hb)⟩⟩
theorem P2.mono{α β:Type}{R S:α→β→Prop}{xs:List α}{ys:List β}(h:P2 R xs ys)(k:∀x y,R x y→S x y):P2 S xs ys:=
 ⟨h.len,fun i x y a b=> k x y (h.at_ i x y a b)⟩
theorem P2.append{α β:Type}{R:α→β→Prop}{xs xs':List α}{ys ys':List β}(h:P2 R xs ys)(k:P2 R xs' ys'):P2 R (xs++xs') (ys++ys'):=by
 refine⟨by simp[h.len,k.len],fun i x y a b=>?_⟩;have hl:=h.len;by_cases hi:i < xs.length
 ·rw[gC hi]at a
  rw[gC (by omega)]at b;exact h.at_ i x y a b
 ·rw[gI (by omega)]at a
  rw[gI (by omega)]at b;rw[hl]at b;exact k.at_ _ x y a b
theorem P2.take{α β:Type}{R:α→β→Prop}{xs:List α}{ys:List β}(h:P2 R xs ys)(n:Nat):P2 R (xs.take n) (ys.take n):=by
 refine⟨by simp[h.len],fun i x y a b=>?_⟩;rw[gH]at a b;split at a
 ·rename_i hi; rw[if_pos hi]at b; exact h.at_ i x y a b
 ·cases a
theorem P2.drop{α β:Type}{R:α→β→Prop}{xs:List α}{ys:List β}(h:P2 R xs ys)(n:Nat):P2 R (xs.drop n) (ys.drop n):=by
 refine⟨by simp[h.len],fun i x y a b=>?_⟩;rw[gN]at a b;exact h.at_ _ x y a b
theorem P2.get{α β:Type}{R:α→β→Prop}{xs:List α}{ys:List β}(h:P2 R xs ys){i:Nat}{x:α}(hx:xs[i]? =some x):∃y,ys[i]? =some y∧R x y:=by
 have hi:=gA hx;have:i < ys.length:=by rw[h.len]; exact hi
 exact⟨ys[i],by simp[this],h.at_ i x _ hx (by simp[this])⟩
theorem P2.replicate{α β:Type}{R:α→β→Prop}{x:α}{y:β}(h:R x y)(n:Nat):P2 R (List.replicate n x) (List.replicate n y):=by
 induction n with
 |zero=> exact .nil
 |succ n ih=> simp only[List.replicate_succ]; exact .cons h ih
abbrev RIs(tbl:Nat→Option Nat)(I:Imm):=P2 (RI tbl I)
abbrev RVs(tbl:Nat→Option Nat)(ι:Iota)(I:Imm):=P2 (RV tbl ι I)
def Imm.le(I J:Imm):Prop:=∀b o v,I b o=some v→J b o=some v
def Iota.le(ι κ:Iota):Prop:=∀k u l,ι k u=some l→κ k u=some l
theorem Imm.le_refl(I:Imm):I.le I:=fun _ _ _ h=> h
theorem Imm.le_trans{I J K:Imm}(h:I.le J)(k:J.le K):I.le K:=fun b o v x=> k b o v (h b o v x)
theorem Iota.le_refl(I:Iota):I.le I:=fun _ _ _ h=> h
theorem Iota.le_trans{I J K:Iota}(h:I.le J)(k:J.le K):I.le K:=fun b o v x=> k b o v (h b o v x)
theorem RI.mono{I J:Imm}(hI:I.le J){v:V}{c:Value}(h:RI tbl I v c):RI tbl J v c:=by
 induction h with
 |int k n=> exact .int k n
 |bool b=> exact .bool b
 |str s l h=> exact .str s l h
 |nilp=> exact .nilp
 |iptr cs b o vs hl ho hi _ ih=> exact .iptr cs b o vs hl ho (fun i v h=> hI _ _ _ (hi i v h)) ih
 |nils=> exact .nils
 |isl0 a cap ha=> exact .isl0 a cap ha
 |islx a cap=> exact .islx a cap
 |isl xs b o cap sz vs hc hz hx hl ho hi _ ih=> exact .isl xs b o cap sz vs hc hz hx hl ho (fun i v h=> hI _ _ _ (hi i v h)) ih
 |fn g f fst cap fs cs ht hf hc _ _ ih1 ih2=> exact .fn g f fst cap fs cs ht hf hc ih1 ih2
 |nilf=> exact .nilf
 |agg cs vs hl ho _ ih=> exact .agg cs vs hl ho ih
 |tup cs vs hl _ ih=> exact .tup cs vs hl ih
theorem RV.mono{ι κ:Iota}{I J:Imm}(hι:ι.le κ)(hI:I.le J){v:V}{c:Value}(h:RV tbl ι I v c):RV tbl κ J v c:=by
 induction h with
 |imm h=> exact .imm (h.mono hI)
 |ptr key uid off l h=> exact .ptr key uid off l (hι _ _ _ h)
 |sl key uid off len sz cap l h he hc hz=> exact .sl key uid off len sz cap l (hι _ _ _ h) he hc hz
 |sl0 key uid off sz a=> exact .sl0 key uid off sz a
 |fn g f fst cap fs cs ht hf hc _ _ ih1 ih2=> exact .fn g f fst cap fs cs ht hf hc ih1 ih2
 |agg cs vs hl ho _ ih=> exact .agg cs vs hl ho ih
 |tup cs vs hl _ ih=> exact .tup cs vs hl ih
def zb(ι:Iota)(h:Heap)(b i:Nat):Prop:=
 ∃key uid cs l,h.ents[key]? =some (uid,some cs)∧ι key uid=some l∧l.b=b∧l.o≤i∧i < l.o+l.ext
structure Lies (tbl:Nat→Option Nat) (ι:Iota) (I:Imm) (w:World) (cs:List V) (l:Loc):Prop where
 ext:cs.length≤l.ext
 row:∃c elem fr,w.heap[l.b]? =some (.cells c elem fr)∧l.o+l.ext≤c.size∧(∀i,i < l.ext→¬(fr.1≤l.o+i∧l.o+i < fr.2))∧
  ∀ (i:Nat) x,cs[i]? =some x→∃v,c[l.o+i]? =some v∧RV tbl ι I x v∧v.oneCell'=true
structure St (tbl:Nat→Option Nat) (ι:Iota) (I:Imm) (h:Heap) (w:World):Prop where
 ent:∀key uid cs l,h.ents[key]? =some (uid,some cs)→ι key uid=some l→Lies tbl ι I w cs l
 sep:∀key uid cs l key' uid' cs' l',h.ents[key]? =some (uid,some cs)→ι key uid=some l→h.ents[key']? =some (uid',some cs')→ι key' uid'=some l'→
  key≠key'→∀b i,l.b=b→l.o≤i→i < l.o+l.ext→l'.b=b→l'.o≤i→i < l'.o+l'.ext→False
 imm:∀b o v,I b o=some v→w.cell? ⟨b,o,none⟩=some v
 immsep:∀b o v,I b o=some v→¬zb ι h b o
structure Frm (ι:Iota) (h:Heap) (w w':World):Prop where
 os:w'.os=w.os
 tape:w'.tape=w.tape
 output:w'.output=w.output
 size:w.heap.size≤w'.heap.size
 block:∀b,b < w.heap.size→(∀i,¬zb ι h b i)→w'.heap[b]? =w.heap[b]?
 cell:∀b,b < w.heap.size→∀c elem fr,w.heap[b]? =some (.cells c elem fr)→∃c',w'.heap[b]? =some (.cells c' elem fr)∧c'.size=c.size∧∀i,¬zb ι h b i→c'[i]? =c[i]?
structure Post (tbl:Nat→Option Nat) (ι:Iota) (I:Imm) (h:Heap) (w:World) (κ:Iota) (J:Imm) (h':Heap) (w':World):Prop where
 iota:∀k u,(u < h.clk∨h'.clk≤u)→κ k u=ι k u
 clk:h.clk≤h'.clk
 imm:I.le J
 st:St tbl κ J h' w'
 frm:Frm ι h w w'
 own:∀b i,zb κ h' b i→zb ι h b i∨w.heap.size≤b
 immnew:∀b i v,J b i=some v→I b i=some v∨zb ι h b i∨w.heap.size≤b
structure QPost (tbl:Nat→Option Nat) (ι:Iota) (I:Imm) (h:Heap) (w:World) (κ:Iota) (J:Imm) (h':Heap) (w':World):Prop where
 ents:∃n,h'.ents=h.ents++n∧∀e∈n,h.clk≤e.1∧e.1 < h'.clk
 iota:∀k u,(u < h.clk∨h'.clk≤u)→κ k u=ι k u
 clk:h.clk≤h'.clk
 imm:I.le J
 st:St tbl κ J h' w'
 below:Go.RowKit.Below w.heap.size w w'
 locs:∀k u l,κ k u=some l→ι k u=some l∨w.heap.size≤l.b∨l.ext=0
 immnew:∀b i v,J b i=some v→I b i=some v∨w.heap.size≤b
def zM(ι:Iota)(h:Heap):Prop:=∀k u,h.clk≤u→ι k u=none
theorem xx{ι κ:Iota}{a b:Nat}(h:∀k u,(u < a∨b≤u)→κ k u=ι k u)(hf:∀k u,a≤u→u < b→ι k u=none):ι.le κ:=by
 intro k u l hl;by_cases h1:u < a∨b≤u
 ·rw[h k u h1]; exact hl
 ·rw[hf k u (by omega) (by omega)]at hl; cases hl
end Rv
namespace Rv
open Go (IntKind BinOp UnOp Program Value Operand Oper Code TypeId Func World Addr Obj Act Calls)
variable {tbl:Nat→Option Nat}
theorem RV.of_int{ι:Iota}{I:Imm}{k:IntKind}{n:Int}{c:Value}(h:RV tbl ι I (.int k n) c):c= .int k n:=by
 cases h with|imm h=> cases h; rfl
theorem RV.of_bool{ι:Iota}{I:Imm}{b:Bool}{c:Value}(h:RV tbl ι I (.bool b) c):c= .bool b:=by
 cases h with|imm h=> cases h; rfl
theorem RV.of_str{ι:Iota}{I:Imm}{l:List Nat}{c:Value}(h:RV tbl ι I (.str l) c):∃s,c= .string s∧s.data.toList.map UInt8.toNat=l:=by
 cases h with|imm h=> cases h with|str s _ h=> exact⟨s,rfl,h⟩
theorem RV.undef{ι:Iota}{I:Imm}:RV tbl ι I V.undef Go.undef:=
 .tup [] [] rfl (fun i c v h=> by simp at h)
theorem zF(b o n:Nat):(⟨b,o,none⟩:Addr).add n=⟨b,o+n,none⟩:=by
 unfold Addr.add;split
 ·rename_i h; subst h; rfl
 ·rfl
theorem RV.one{ι:Iota}{I:Imm}{x:V}{c:Value}(h:RV tbl ι I x c)(hx:∀vs,x≠ .tup vs)(ha:∀vs,x≠ .agg vs):c.oneCell'=true:=by
 cases h with
 |imm h=> cases h <;> first|rfl|(exact absurd rfl (ha _))|(exact absurd rfl (hx _))
 |ptr=> rfl
 |sl=> rfl
 |sl0=> rfl
 |fn=> rfl
 |agg=> exact absurd rfl (ha _)
 |tup=> exact absurd rfl (hx _)
theorem RV.cells{ι:Iota}{I:Imm}{x:V}{c:Value}(h:RV tbl ι I x c)(hx:∀vs,x≠ .tup vs):
  RVs tbl ι I x.cells c.cells.toList∧∀v∈c.cells.toList,v.oneCell'=true:=by
 by_cases ha:∃vs,x= .agg vs
 ·obtain⟨cs,rfl⟩:=ha
  cases h with
  |imm h=> cases h with
   |agg _ vs hl ho hr=> exact⟨⟨by simpa[Value.cells,V.cells]using hl,fun i a b p q=> .imm (hr i a b (by simpa[V.cells]using p) (by simpa[Value.cells]using q))⟩,by simpa[Value.cells]using ho⟩
  |agg _ vs hl ho hr=> exact⟨⟨by simpa[Value.cells,V.cells]using hl,fun i a b p q=> hr i a b (by simpa[V.cells]using p) (by simpa[Value.cells]using q)⟩,by simpa[Value.cells]using ho⟩
 ·have ha':∀vs,x≠ .agg vs:=fun vs e=> ha ⟨vs,e⟩
  have h1:=h.one hx ha';have e1:x.cells=[x]:=by cases x <;> first|rfl|(exact absurd rfl (ha' _))
  have e2:c.cells= #[c]:=by cases c <;> first|rfl|(simp[Value.oneCell']at h1)
  rw[e1,e2];exact⟨.cons h .nil,fun v hv=> by simp at hv; subst hv; exact h1⟩
theorem RI.cells{I:Imm}{x:V}{c:Value}(h:RI tbl I x c)(hx:∀vs,x≠ .tup vs):
  RIs tbl I x.cells c.cells.toList∧∀v∈c.cells.toList,v.oneCell'=true:=by
 have h1:=(RV.imm (ι:=fun _ _=> none) h).cells hx;refine⟨⟨h1.1.len,fun i a b p q=>?_⟩,h1.2⟩;by_cases ha:∃vs,x= .agg vs
 ·obtain⟨cs,rfl⟩:=ha
  cases h with
  |agg _ vs hl ho hr=> exact hr i a b (by simpa[V.cells]using p) (by simpa[Value.cells]using q)
 ·have ha':∀vs,x≠ .agg vs:=fun vs e=> ha ⟨vs,e⟩
  have h1:=(RV.imm (ι:=fun _ _=> none) h).one hx ha';have e1:x.cells=[x]:=by cases x <;> first|rfl|(exact absurd rfl (ha' _))
  have e2:c.cells= #[c]:=by cases c <;> first|rfl|(simp[Value.oneCell']at h1)
  rw[e1]at p; rw[e2]at q;cases i with
  |zero=> simp at p q; subst p; subst q; exact h
  |succ i=> simp at p
theorem Lies.mono{ι κ:Iota}{I J:Imm}{w w':World}{cs:List V}{l:Loc}(hι:ι.le κ)(hI:I.le J)(hw:w'.heap[l.b]? =w.heap[l.b]?)
  (h:Lies tbl ι I w cs l):Lies tbl κ J w' cs l:=by
 obtain⟨he,c,elem,fr,h1,h2,h3,h4⟩:=h;exact⟨he,c,elem,fr,by rw[hw]; exact h1,h2,h3,fun i x hx=> let ⟨v,a,b,o⟩:=h4 i x hx;⟨v,a,b.mono hι hI,o⟩⟩
theorem Lies.cell{ι:Iota}{I:Imm}{w:World}{cs:List V}{l:Loc}(h:Lies tbl ι I w cs l){i:Nat}{x:V}(hx:cs[i]? =some x):
  ∃v,w.cell? ⟨l.b,l.o+i,none⟩=some v∧RV tbl ι I x v∧v.oneCell'=true:=by
 obtain⟨he,c,elem,fr,h1,h2,h3,h4⟩:=h;obtain⟨v,a,b,o⟩:=h4 i x hx;exact⟨v,by simp[World.cell?,h1,a],b,o⟩
theorem Lies.size{ι:Iota}{I:Imm}{w:World}{cs:List V}{l:Loc}(h:Lies tbl ι I w cs l):l.b < w.heap.size:=by
 obtain⟨he,c,elem,fr,h1,h2,h3,h4⟩:=h;exact(gP.1 h1).1
theorem Lies.list{ι:Iota}{I:Imm}{w:World}{cs:List V}{l:Loc}(h:Lies tbl ι I w cs l)(off:Nat):∃vs:List Value,
  RVs tbl ι I (cs.drop off) vs∧(∀v∈vs,v.oneCell'=true)∧∀ (j:Nat) v,vs[j]? =some v→w.cell? ⟨l.b,l.o+off+j,none⟩=some v:=by
 have hg:∀i:Nat,∃v,∀x,cs[off+i]? =some x→w.cell? ⟨l.b,l.o+off+i,none⟩=some v∧RV tbl ι I x v∧v.oneCell'=true:=by
  intro i;cases hx:cs[off+i]? with
  |none=> exact⟨Go.undef,fun x hx=> by cases hx⟩
  |some x=>
   obtain⟨v,a,b,o⟩:=h.cell hx;exact⟨v,fun y hy=> by cases hy; rw[vC]; exact⟨a,b,o⟩⟩
 let g:=fun i=> Classical.choose (hg i)
 have hgs:∀i,∀x,cs[off+i]? =some x→w.cell? ⟨l.b,l.o+off+i,none⟩=some (g i)∧RV tbl ι I x (g i)∧(g i).oneCell'=true:=fun i=> vP (hg i);have key:∀ (j:Nat) v,((List.range (cs.drop off).length).map g)[j]? =some v→∃x,cs[off+j]? =some x∧v=g j:=by
  intro j v hv;rw[gG]at hv;cases hr:(List.range (cs.drop off).length)[j]? with
  |none=> rw[hr]at hv; cases hv
  |some q=>
   rw[hr]at hv;obtain⟨hlt,hq⟩:=gM.1 hr;simp at hlt hq hv;exact⟨cs[off+j],by rw[gB (by omega)],by rw[←hv,←hq]⟩
 refine⟨(List.range (cs.drop off).length).map g,⟨by simp,fun i x v hx hv=>?_⟩,fun v hv=>?_,fun j v hv=>?_⟩
 ·obtain⟨y,hy,rfl⟩:=key i v hv
  rw[gN]at hx;exact(hgs i x hx).2.1
 ·obtain⟨i,hi⟩:=gR hv
  obtain⟨y,hy,rfl⟩:=key i v hi;exact(hgs i y hy).2.2
 ·obtain⟨y,hy,rfl⟩:=key j v hv
  exact(hgs j y hy).1
theorem zz{h:Heap}{key uid:Nat}{cs:List V}(hg:h.get key uid=some cs):h.ents[key]? =some (uid,some cs):=by
 unfold Heap.get at hg;split at hg
 ·rename_i u cs' he
  split at hg
  ·rename_i hu; cases hg; rw[he,hu]
  ·cases hg
 ·cases hg
theorem St.get{ι:Iota}{I:Imm}{h:Heap}{w:World}(hs:St tbl ι I h w){key uid:Nat}{cs:List V}{l:Loc}(hg:h.get key uid=some cs)(hl:ι key uid=some l):
  Lies tbl ι I w cs l:=hs.ent key uid cs l (zz hg) hl
theorem RV.of_ptr{ι:Iota}{I:Imm}{key uid off:Nat}{c:Value}(h:RV tbl ι I (.ptr key uid off) c):∃l,ι key uid=some l∧c= .pointer (some ⟨l.b,l.o+off,none⟩):=by
 cases h with
 |imm h=> cases h
 |ptr _ _ _ l h=> exact⟨l,h,rfl⟩
theorem St.drew{ι:Iota}{I:Imm}{h:Heap}{w:World}(hs:St tbl ι I h w)(n:Nat):St tbl ι I h {w with drawn:=n}:=
 ⟨fun key uid cs l a b=> Lies.mono (w:=w) (Iota.le_refl _) (Imm.le_refl _) rfl (hs.ent key uid cs l a b),hs.sep,hs.imm,hs.immsep⟩
def Iota.set(ι:Iota)(k u:Nat)(l:Loc):Iota:=fun k' u'=> if k'=k∧u'=u then some l else ι k' u'
theorem Iota.set_le{ι:Iota}{k u:Nat}{l:Loc}(h:ι k u=none):ι.le (ι.set k u l):=by
 intro k' u' l' hl;unfold Iota.set;split
 ·rename_i e; obtain⟨rfl,rfl⟩:=e; rw[h]at hl; cases hl
 ·exact hl
theorem ents_push{h:Heap}{cs:List V}{key:Nat}{e:Nat×Option (List V)}(he:(h.push cs).ents[key]? =some e):
  h.ents[key]? =some e∨(key=h.ents.length∧e=(h.clk,some cs)):=by
 unfold Heap.push at he;simp only at he;rw[gO]at he;split at he
 ·exact .inl he
 ·rename_i hlt
  have:key - h.ents.length=0:=by
   rcases Nat.eq_zero_or_pos (key - h.ents.length)with h0|h0
   ·exact h0
   ·rw[gF (by simp; omega)]at he; cases he
  rw[this]at he;simp at he;exact .inr ⟨by omega,he.symm⟩
theorem je(w:World)(o:Obj){b:Nat}(hb:b < w.heap.size):(w.heap.push o)[b]? =w.heap[b]?:=by
 rw[Array.getElem?_push,if_neg (by omega)]
theorem below_push(w:World)(o:Obj)(d:Nat):Go.RowKit.Below w.heap.size w {w with heap:=w.heap.push o,drawn:=d}:=
 ⟨rfl,rfl,rfl,by simp,fun k hk=> je w o hk⟩
theorem xu{ι:Iota}{I:Imm}{h:Heap}{w:World}(hs:St tbl ι I h w)(hfr:ι h.ents.length h.clk=none){cs:List V}{vs:List Value}(hv:RVs tbl ι I cs vs)(ho:∀v∈vs,v.oneCell'=true)
  (more:List Value) (elem:TypeId) (d:Nat) (arr:Array Value) (ha:arr.toList=vs++more):
  QPost tbl ι I h w (ι.set h.ents.length h.clk ⟨w.heap.size,0,arr.size⟩) I (h.push cs) {w with heap:=w.heap.push (.cells arr elem),drawn:=d}:=by
 have hle:=Iota.set_le (l:=⟨w.heap.size,0,arr.size⟩) hfr;have hlen:vs.length≤arr.size:=by rw[←wJ,ha]; simp
 have hnew:Lies tbl (ι.set h.ents.length h.clk ⟨w.heap.size,0,arr.size⟩) I {w with heap:=w.heap.push (.cells arr elem),drawn:=d} cs ⟨w.heap.size,0,arr.size⟩:=by
  refine⟨by have:=hv.len; simp only; omega,arr,elem,(0,0),by simp,by simp,fun i _=> by simp,fun i x hx=>?_⟩;obtain⟨v,hv1,hv2⟩:=hv.get hx;refine⟨v,?_,hv2.mono hle (Imm.le_refl _),ho v (gE hv1)⟩;have hi:=gA hv1;rw[wV,←gJ,ha,gC hi];exact hv1
 have hcase:∀key uid cs' l,(h.push cs).ents[key]? =some (uid,some cs')→(ι.set h.ents.length h.clk ⟨w.heap.size,0,arr.size⟩) key uid=some l→
   (h.ents[key]? =some (uid,some cs')∧ι key uid=some l∧key < h.ents.length)∨(key=h.ents.length∧uid=h.clk∧cs'=cs∧l=⟨w.heap.size,0,arr.size⟩):=by
  intro key uid cs' l he hl;rcases ents_push he with he|⟨rfl,he'⟩
  ·have hk:=gA he
   unfold Iota.set at hl;rw[if_neg (by omega)]at hl;exact .inl ⟨he,hl,hk⟩
  ·obtain⟨rfl,e2⟩:=Prod.mk.inj he'
   obtain rfl:=wA e2;unfold Iota.set at hl;rw[if_pos ⟨rfl,rfl⟩]at hl;cases hl;exact .inr ⟨rfl,rfl,rfl,rfl⟩
 refine⟨⟨_,rfl,fun e he=> by simp at he; subst he; simp[Heap.push]⟩,fun k u hk=>?_,by simp[Heap.push],Imm.le_refl _,⟨fun key uid cs' l he hl=>?_,fun key uid cs1 l key' uid' cs2 l' he hl he' hl' hne=>?_,fun b o v hb=>?_,fun b o v hb ho'=>?_⟩,below_push w _ d,fun k u l hl=>?_,fun b i v hb=> .inl hb⟩
 ·unfold Iota.set
  rw[if_neg];rintro⟨rfl,rfl⟩;simp[Heap.push]at hk;omega
 ·rcases hcase key uid cs' l he hl with⟨he,hl,hk⟩|⟨rfl,rfl,rfl,rfl⟩
  ·have hb:=(hs.ent _ _ _ _ he hl)
   exact Lies.mono (w:=w) hle (Imm.le_refl _) (je w _ hb.size) hb
  ·exact hnew
 ·rcases hcase _ _ _ _ he hl with⟨he1,hl1,hk⟩|⟨rfl,rfl,rfl,rfl⟩<;> rcases hcase _ _ _ _ he' hl' with⟨he2,hl2,hk'⟩|⟨rfl,rfl,rfl,rfl⟩
  ·exact hs.sep _ _ _ _ _ _ _ _ he1 hl1 he2 hl2 hne
  ·have:=(hs.ent _ _ _ _ he1 hl1).size; intro b i b1 _ _ b2 _ _; simp only at b2; omega
  ·have:=(hs.ent _ _ _ _ he2 hl2).size; intro b i b1 _ _ b2 _ _; simp only at b1; omega
  ·exact absurd rfl hne
 ·have:=hs.imm b o v hb
  have hlt:=World.block_lt_of_cell? w _ this;simp only[World.cell?]at this ⊢;simp only at hlt;rw[je w _ hlt];exact this
 ·obtain⟨key,uid,cs',l,he,hl,h1,h2,h3⟩:=ho'
  rcases hcase _ _ _ _ he hl with⟨he,hl,hk⟩|⟨rfl,rfl,rfl,rfl⟩
  ·exact hs.immsep b o v hb ⟨key,uid,cs',l,he,hl,h1,h2,h3⟩
  ·have hlt:=World.block_lt_of_cell? w _ (hs.imm b o v hb)
   simp only at h1 hlt;omega
 ·unfold Iota.set at hl
  split at hl
  ·cases hl; exact .inr (.inl (wE _))
  ·exact .inl hl
theorem QPost.refl{ι:Iota}{I:Imm}{h:Heap}{w:World}(hs:St tbl ι I h w):QPost tbl ι I h w ι I h w:=
 ⟨⟨[],by simp,fun e he=> by simp at he⟩,fun _ _ _=> rfl,wE _,Imm.le_refl _,hs,Go.RowKit.Below.refl _ _,fun _ _ _ h=> .inl h,fun _ _ _ h=> .inl h⟩
theorem QPost.post{ι κ:Iota}{I J:Imm}{h h':Heap}{w w':World}(hs:St tbl ι I h w)(hfr:∀k u,h.clk≤u→u < h'.clk→ι k u=none)(p:QPost tbl ι I h w κ J h' w'):Post tbl ι I h w κ J h' w':=by
 obtain⟨⟨n,hn,hnu⟩,hi,hc,hI,hst,hb,hl,hm⟩:=p;have hle:=xx hi hfr;refine⟨hi,hc,hI,hst,⟨hb.os,hb.tape,hb.output,hb.size,fun b hlt _=> hb.block b hlt,fun b hlt c elem fr hc=>⟨c,by rw[hb.block b hlt]; exact hc,rfl,fun _ _=> rfl⟩⟩,?_,fun b i v h=>(hm b i v h).imp_right .inr⟩;rintro b i ⟨key,uid,cs,l,he,hk,h1,h2,h3⟩;rcases hl _ _ _ hk with h4|h4|h4
 ·left
  rw[hn]at he;rcases wS key h.ents.length with hlt|hge
  ·rw[gC hlt]at he
   exact⟨key,uid,cs,l,he,h4,h1,h2,h3⟩
  ·rw[gI hge]at he
   obtain⟨u1,u2⟩:=hnu _ (gE he);rw[hfr key uid u1 u2]at h4;cases h4
 ·right; rw[←h1]; exact h4
 ·omega
theorem RV.of_agg{ι:Iota}{I:Imm}{cs:List V}{c:Value}(h:RV tbl ι I (.agg cs) c):∃vs:List Value,c= .agg vs.toArray∧RVs tbl ι I cs vs∧∀v∈vs,v.oneCell'=true:=by
 cases h with
 |imm h=> cases h with
  |agg _ vs hl ho hr=> exact⟨vs,rfl,⟨hl,fun i a b p q=> .imm (hr i a b p q)⟩,ho⟩
 |agg _ vs hl ho hr=> exact⟨vs,rfl,⟨hl,hr⟩,ho⟩
theorem RV.of_tup{ι:Iota}{I:Imm}{cs:List V}{c:Value}(h:RV tbl ι I (.tup cs) c):∃vs:List Value,c= .tuple vs.toArray∧RVs tbl ι I cs vs:=by
 cases h with
 |imm h=> cases h with
  |tup _ vs hl hr=> exact⟨vs,rfl,⟨hl,fun i a b p q=> .imm (hr i a b p q)⟩⟩
 |tup _ vs hl hr=> exact⟨vs,rfl,⟨hl,hr⟩⟩
theorem RV.of_fn{ι:Iota}{I:Imm}{g:Nat}{fst cap:List V}{c:Value}(h:RV tbl ι I (.fn g fst cap) c):∃f,∃fs cs:List Value,tbl f=some g∧c= .func (.func f) fs.toArray cs.toArray∧RVs tbl ι I fst fs∧RVs tbl ι I cap cs:=by
 cases h with
 |imm h=> cases h with
  |fn _ f _ _ fs cs ht hf hc h1 h2=> exact⟨f,fs,cs,ht,rfl,⟨hf,fun i a b p q=> .imm (h1 i a b p q)⟩,⟨hc,fun i a b p q=> .imm (h2 i a b p q)⟩⟩
 |fn _ f _ _ fs cs ht hf hc h1 h2=> exact⟨f,fs,cs,ht,rfl,⟨hf,h1⟩,⟨hc,h2⟩⟩
theorem RV.of_iptr{ι:Iota}{I:Imm}{cs:List V}{c:Value}(h:RV tbl ι I (.iptr cs) c):∃b o,∃vs:List Value,c= .pointer (some ⟨b,o,none⟩)∧RIs tbl I cs vs∧(∀v∈vs,v.oneCell'=true)∧∀ (i:Nat) v,vs[i]? =some v→I b (o+i)=some v:=by
 cases h with
 |imm h=> cases h with
  |iptr _ b o vs hl ho hi hr=> exact⟨b,o,vs,rfl,⟨hl,hr⟩,ho,hi⟩
theorem RV.of_isl{ι:Iota}{I:Imm}{xs:List V}{c:Value}(h:RV tbl ι I (.isl xs) c):(xs=[]∧∃ (a:Option Addr) (cap:Nat),c= .slice a 0 cap∧(a=none→cap=0))∨∃b o cap sz,∃vs:List Value,c= .slice (some ⟨b,o,none⟩) xs.length cap∧xs.length≤cap∧0 < sz∧(∀x∈xs,x.cells.length=sz)∧
  RIs tbl I (flat xs) vs∧(∀v∈vs,v.oneCell'=true)∧∀ (i:Nat) v,vs[i]? =some v→I b (o+i)=some v:=by
 cases h with
 |imm h=> cases h with
  |isl0 a cap ha=> exact .inl ⟨rfl,a,cap,rfl,ha⟩
  |isl _ b o cap sz vs hc hz hx hl ho hi hr=> exact .inr ⟨b,o,cap,sz,vs,rfl,hc,hz,hx,⟨hl,hr⟩,ho,hi⟩
theorem RV.of_islx{ι:Iota}{I:Imm}{c:Value}(h:RV tbl ι I .islx c):∃ (a:Addr) (cap:Nat),c= .slice (some a) 0 cap:=by
 cases h with
 |imm h=> cases h with
  |islx a cap=> exact⟨a,cap,rfl⟩
theorem RV.of_nils{ι:Iota}{I:Imm}{c:Value}(h:RV tbl ι I .nils c):c= .slice none 0 0:=by
 cases h with
 |imm h=> cases h; rfl
theorem RV.of_sl{ι:Iota}{I:Imm}{key uid off len sz:Nat}{c:Value}(h:RV tbl ι I (.sl key uid off len sz) c):(len=0∧∃a:Option Addr,c= .slice a 0 0)∨
  ∃cap l,ι key uid=some l∧off+cap*sz≤l.ext∧len≤cap∧0 < sz∧c= .slice (some ⟨l.b,l.o+off,none⟩) len cap:=by
 cases h with
 |imm h=> cases h
 |sl _ _ _ _ _ cap l h he hc hz=> exact .inr ⟨cap,l,h,he,hc,hz,rfl⟩
 |sl0 _ _ _ _ a=> exact .inl ⟨rfl,a,rfl⟩
theorem zC{α β:Type}{f:α→Option β}:∀ {xs:List α} {ys:List β},mapO f xs=some ys→ys.length=xs.length∧∀ (i:Nat) x,xs[i]? =some x→∃y,ys[i]? =some y∧f x=some y
 | [],ys,h=> by simp[mapO]at h; subst h; exact⟨rfl,fun i x h=> by simp at h⟩
 |x::xs,ys,h=> by
  simp only[mapO]at h;split at h
  ·rename_i y hy
   split at h
   ·rename_i ys' hys
    cases h;obtain⟨hl,ih⟩:=zC hys;refine⟨by simp[hl],fun i z hz=>?_⟩;cases i with
    |zero=> simp at hz; subst hz; exact⟨y,rfl,hy⟩
    |succ i=> simp at hz; obtain⟨y',a,b⟩:=ih i z hz; exact⟨y',by simpa using a,b⟩
   ·cases h
  ·cases h
theorem mapO_P2{α β γ:Type}{f:α→Option β}{xs:List α}{ys:List β}{R:α→γ→Prop}{S:β→γ→Prop}{zs:List γ}(h:mapO f xs=some ys)(hr:P2 R xs zs)
  (k:∀x y z,f x=some y→R x z→S y z):P2 S ys zs:=by
 obtain⟨hl,hm⟩:=zC h;refine⟨by rw[hr.len,hl],fun i y z hy hz=>?_⟩;have hi:i < xs.length:=by rw[←hl]; exact(gA hy)
 obtain⟨y',hy',hf⟩:=hm i xs[i] (by simp[hi]);rw[hy]at hy'; cases hy';exact k _ _ _ hf (hr.at_ i _ z (by simp[hi]) hz)
theorem RI.one{I:Imm}{x:V}{c:Value}(h:RI tbl I x c)(ho:c.oneCell'=true):x.cells=[x]:=by
 cases h <;> first|rfl|(simp[Value.oneCell']at ho)
theorem flat_ones:∀ {xs:List V},(∀x∈xs,x.cells=[x])→flat xs=xs
 | [],_=> rfl
 |x::xs,h=> by
  have:=flat_ones (xs:=xs) (fun y hy=> h y (wI _ hy));unfold flat at*;rw[vT,this,h x (wG ..)]; rfl
theorem chunk_flat_aux(sz:Nat):∀ (n:Nat) (ds:List V),ds.length=n*sz→((List.range n).map fun i=> V.agg ((ds.drop (i*sz)).take sz)).flatMap V.cells=ds
 |0,ds,h=> by simp at h; subst h; rfl
 |n+1,ds,h=> by
  rw[List.range_succ_eq_map,vB,vT,List.map_map];have ih:=chunk_flat_aux sz n (ds.drop sz) (by rw[yN,h,Nat.add_mul]; omega);have e:((List.range n).map ((fun i=> V.agg ((ds.drop (i*sz)).take sz))∘Nat.succ))=(List.range n).map fun i=> V.agg (((ds.drop sz).drop (i*sz)).take sz):=by
   apply yQ;intro i _;simp only[Function.comp,List.drop_drop];rw[show i.succ*sz=sz+i*sz from by rw[yT]; omega]
  rw[e,ih];simp[V.cells]
theorem chunk_spec{sz n:Nat}{ds:List V}(hl:ds.length=n*sz)(h1:∀x∈ds,x.cells=[x]):(jn sz n ds).length=n∧flat (jn sz n ds)=ds∧∀x∈jn sz n ds,x.cells.length=sz:=by
 unfold jn;split
 ·rename_i e; subst e
  exact⟨by omega,flat_ones h1,fun x hx=> by rw[h1 x hx]; rfl⟩
 ·refine⟨by simp,chunk_flat_aux sz n ds hl,fun x hx=>?_⟩
  rw[wQ]at hx;obtain⟨i,hi,rfl⟩:=hx;rw[wX]at hi;simp only[V.cells,yG,yN,hl];have:i*sz+sz≤n*sz:=by rw[←yT]; exact yB _ hi
  omega
theorem flat_at{sz:Nat}:∀ {xs:List V} {i:Nat} {u:V},(∀x∈xs,x.cells.length=sz)→xs[i]? =some u→((flat xs).drop (i*sz)).take u.cells.length=u.cells
 | [],i,u,_,h=> by simp at h
 |x::xs,0,u,hx,h=> by
  simp at h; subst h;simp[flat]
 |x::xs,i+1,u,hx,h=> by
  simp at h;have ih:=flat_at (fun y hy=> hx y (wI _ hy)) h;have hxl:=hx x (wG ..);have e:(i+1)*sz=x.cells.length+i*sz:=by rw[yT,hxl]; omega
  unfold flat at ih ⊢;rw[vT,e,←List.drop_drop,List.drop_left];exact ih
theorem P2.ones{I:Imm}{xs:List V}{vs:List Value}(h:RIs tbl I xs vs)(ho:∀v∈vs,v.oneCell'=true):∀x∈xs,x.cells=[x]:=by
 intro x hx;obtain⟨i,hi⟩:=gR hx;obtain⟨v,hv,hr⟩:=h.get hi;exact hr.one (ho v (gE hv))
theorem RI.mk_isl{I:Imm}{ds:List V}{vs:List Value}{b o len cap sz:Nat}(hc:len≤cap)(hz:0 < sz)(hl:ds.length=len*sz)(hd:RIs tbl I ds vs)(ho:∀v∈vs,v.oneCell'=true)
  (hi:∀ (i:Nat) v,vs[i]? =some v→I b (o+i)=some v):RI tbl I (.isl (jn sz len ds)) (.slice (some ⟨b,o,none⟩) len cap):=by
 obtain⟨h1,h2,h3⟩:=chunk_spec (sz:=sz) (n:=len) hl (hd.ones ho);have:=RI.isl (tbl:=tbl) (I:=I) (jn sz len ds) b o cap sz vs (by omega) hz h3 (by rw[h2,hd.len]) ho hi (fun i c v a b=> hd.at_ i c v (by rw[h2]at a; exact a) b);rw[h1]at this;exact this
def Borrow(ι:Iota)(h:Heap)(w:World)(J:Imm):Prop:=
 ∀key uid cs l,h.ents[key]? =some (uid,some cs)→ι key uid=some l→∀i,i < cs.length→J l.b (l.o+i)=w.cell? ⟨l.b,l.o+i,none⟩
theorem frz_ri{ι:Iota}{I J:Imm}{h:Heap}{w:World}(hs:St tbl ι I h w)(hJ:I.le J)(hB:Borrow ι h w J):∀ (f:Nat) (v:V) (c:Value) (d:V),
  RV tbl ι I v c→frz h f v=some d→RI tbl J d c:=by
 intro f;induction f with
 |zero=> intro v c d _ hf; simp[frz]at hf
 |succ f ih=>
  intro v c d hr hf;have hcells:∀ {xs:List V} {ds:List V} {vs:List Value},RVs tbl ι I xs vs→mapO (frz h f) xs=some ds→RIs tbl J ds vs:=fun hv hm=>
   mapO_P2 hm hv fun x y z hy hz=> ih x z y hz hy
  cases v with
  |ptr key uid off=>
   simp only[frz]at hf;split at hf
   ·rename_i cs hg
    split at hf
    ·rename_i ds hm
     cases hf;obtain⟨l,hl,rfl⟩:=hr.of_ptr;have hL:=hs.get hg hl;obtain⟨vs,h1,h2,h3⟩:=hL.list off;have h4:=hcells h1 hm;refine .iptr ds l.b (l.o+off) vs h4.len h2 (fun i v hv=>?_) h4.at_;have hi:off+i < cs.length:=by
      have:=gA hv;rw[h1.len,yN]at this; omega
     rw[vC,hB key uid cs l (zz hg) hl (off+i) hi,←vC];exact h3 i v hv
    ·cases hf
   ·cases hf
  |sl key uid off len sz=>
   simp only[frz]at hf;split at hf
   ·rename_i cs hg
    split at hf
    ·rename_i hc
     split at hf
     ·rename_i ds hm
      cases hf;cases hr with
      |imm h=> cases h
      |sl _ _ _ _ _ cap l hl he hcap hz=>
       have hL:=hs.get hg hl;obtain⟨vs,h1,h2,h3⟩:=hL.list off;have h4:=hcells (h1.take (len*sz)) hm;have hdl:ds.length=len*sz:=by rw[←h4.len,(h1.take (len*sz)).len]; simp; omega
       refine RI.mk_isl hcap hz hdl h4 (fun v hv=> h2 v (wW hv)) (fun i v hv=>?_);rw[gH]at hv;split at hv
       ·have hi:off+i < cs.length:=by
         have:=gA hv;rw[h1.len,yN]at this; omega
        rw[vC,hB key uid cs l (zz hg) hl (off+i) hi,←vC];exact h3 i v hv
       ·cases hv
      |sl0 _ _ _ _ a=>
       simp only[uE,List.take_zero,mapO,wB]at hm;subst hm;have:jn sz 0 []=[]:=by unfold jn; split <;> rfl
       rw[this];exact .isl0 a 0 (fun _=> rfl)
     ·cases hf
    ·cases hf
   ·cases hf
  |agg cs=>
   simp only[frz]at hf;split at hf
   ·rename_i ds hm
    cases hf;obtain⟨vs,rfl,h1,h2⟩:=hr.of_agg;have h3:=hcells h1 hm;exact .agg ds vs h3.len h2 h3.at_
   ·cases hf
  |tup cs=>
   simp only[frz]at hf;split at hf
   ·rename_i ds hm
    cases hf;obtain⟨vs,rfl,h1⟩:=hr.of_tup;have h3:=hcells h1 hm;exact .tup ds vs h3.len h3.at_
   ·cases hf
  |fn g fst cap=>
   simp only[frz]at hf;split at hf
   ·rename_i es hm1
    split at hf
    ·rename_i ds hm2
     cases hf;obtain⟨q,fs,cs,ht,rfl,h1,h2⟩:=hr.of_fn;have h3:=hcells h1 hm1;have h4:=hcells h2 hm2;exact .fn g q es ds fs cs ht h3.len h4.len h3.at_ h4.at_
    ·cases hf
   ·cases hf
  |nils=> simp only[frz,wB]at hf; subst hf; cases hr with|imm h=> cases h; exact .isl0 none 0 (fun _=> rfl)
  |int k n=> simp only[frz,wB]at hf; subst hf; cases hr with|imm h=> exact h.mono hJ
  |bool b=> simp only[frz,wB]at hf; subst hf; cases hr with|imm h=> exact h.mono hJ
  |str l=> simp only[frz,wB]at hf; subst hf; cases hr with|imm h=> exact h.mono hJ
  |nilp=> simp only[frz,wB]at hf; subst hf; cases hr with|imm h=> exact h.mono hJ
  |iptr cs=> simp only[frz,wB]at hf; subst hf; cases hr with|imm h=> exact h.mono hJ
  |isl xs=> simp only[frz,wB]at hf; subst hf; cases hr with|imm h=> exact h.mono hJ
  |islx=> simp only[frz,wB]at hf; subst hf; cases hr with|imm h=> exact h.mono hJ
  |nilf=> simp only[frz,wB]at hf; subst hf; cases hr with|imm h=> exact h.mono hJ
theorem jj{ι:Iota}{I:Imm}:∀ (f:Nat) (v:V) (c:Value),RV tbl ι I v c→qo f v=true→RI tbl I v c:=by
 intro f;induction f with
 |zero=> intro v c _ h; simp[qo]at h
 |succ f ih=>
  intro v c hr hf;have hcells:∀ {xs:List V} {vs:List Value},RVs tbl ι I xs vs→xs.all (qo f)=true→RIs tbl I xs vs:=fun hv ha=>
   ⟨hv.len,fun i x z p q=> ih x z (hv.at_ i x z p q) (wO.1 ha x (gE p))⟩
  cases hr with
  |imm h=> exact h
  |ptr=> simp[qo]at hf
  |sl=> simp[qo]at hf
  |sl0=> simp[qo]at hf
  |fn g q fst cap fs cs ht hf1 hc h1 h2=>
   simp only[qo,wL]at hf;have h3:=hcells ⟨hf1,h1⟩ hf.1;have h4:=hcells ⟨hc,h2⟩ hf.2;exact .fn g q fst cap fs cs ht h3.len h4.len h3.at_ h4.at_
  |agg cs vs hl ho hr=> simp only[qo]at hf; have h3:=hcells ⟨hl,hr⟩ hf; exact .agg cs vs h3.len ho h3.at_
  |tup cs vs hl hr=> simp only[qo]at hf; have h3:=hcells ⟨hl,hr⟩ hf; exact .tup cs vs h3.len h3.at_
end Rv
namespace Rv
open Go (IntKind BinOp UnOp Program Value Operand Oper Code TypeId Func World Addr Obj Act Calls execOp)
variable {tbl:Nat→Option Nat} {P:Program}
abbrev RVe(tbl:Nat→Option Nat)(ι:Iota)(I:Imm)(e:Env)(t:Array Value):Prop:=RVs tbl ι I e t.toList
theorem RV.one_of{ι:Iota}{I:Imm}{x:V}{c:Value}(h:RV tbl ι I x c)(hx:x.one=true):c.oneCell'=true:=
 h.one (fun vs e=> by subst e; simp[V.one]at hx) (fun vs e=> by subst e; simp[V.one]at hx)
theorem compV_ri(I:Imm):∀ (f:Nat) (v:Value) (d:V),xA tbl f v=some d→RI tbl I d v:=by
 intro f;induction f with
 |zero=> intro v d h; simp[xA]at h
 |succ f ih=>
  intro v d h;have hl:∀ {xs:Array Value} {ds:List V},mapO (xA tbl f) xs.toList=some ds→RIs tbl I ds xs.toList:=fun {xs ds} hm=> by
   obtain⟨h1,h2⟩:=zC hm;refine⟨h1.symm,fun i x z hx hz=>?_⟩;obtain⟨y,hy,hf⟩:=h2 i z hz;rw[hx]at hy; cases hy;exact ih z x hf
  cases v with
  |int k n=> simp only[xA,wB]at h; subst h; exact .int _ _
  |bool b=> simp only[xA,wB]at h; subst h; exact .bool _
  |string s=> simp only[xA,wB]at h; subst h; exact .str _ _ rfl
  |pointer a=> cases a with
   |none=> simp only[xA,wB]at h; subst h; exact .nilp
   |some a=> simp[xA]at h
  |slice a n m=>
   cases a with
   |some a=> simp[xA]at h
   |none=>
    cases n with
    |succ n=> simp[xA]at h
    |zero=> cases m with
     |succ m=> simp[xA]at h
     |zero=> simp only[xA,wB]at h; subst h; exact .nils
  |nilFunc=> simp only[xA,wB]at h; subst h; exact .nilf
  |agg cs=>
   simp only[xA]at h;split at h
   ·rename_i ds hm
    split at h
    ·rename_i ho
     cases h;have h3:=hl hm;have h4:=RI.agg (tbl:=tbl) (I:=I) ds cs.toList h3.len (fun v hv=> by
      obtain⟨i,hi⟩:=gR hv;have hlt:i < ds.length:=by rw[←h3.len]; exact(gA hi)
      have h5:=h3.at_ i ds[i] v (by simp[hlt]) hi;exact(RV.imm (ι:=fun _ _=> none) h5).one_of (wO.1 ho _ (wC hlt))) h3.at_
     exact h4
    ·cases h
   ·cases h
  |tuple cs=>
   simp only[xA]at h;split at h
   ·rename_i ds hm
    cases h;have h3:=hl hm;exact RI.tup (tbl:=tbl) (I:=I) ds cs.toList h3.len h3.at_
   ·cases h
  |_=> simp[xA]at h
theorem qp{ι:Iota}{I:Imm}{e:Env}{a:Act}(he:RVe tbl ι I e a.tmps){x:Operand}{y:X}(h:qO tbl x=some y):RV tbl ι I (y.ev e) (a.eval x):=by
 cases x with
 |tmp t=>
  simp only[qO,wB]at h;subst h;simp only[X.ev,Env.at,Act.eval];rw[gD,Array.getD_eq_getD_getElem?,←gJ];cases hx:e[t]? with
  |none=>
   have:a.tmps.toList[t]? =none:=by
    rw[List.getElem?_eq_none_iff]at hx ⊢;rw[he.len]; exact hx
   rw[this]; exact .undef
  |some v=>
   obtain⟨c,hc,hr⟩:=he.get hx;rw[hc]; exact hr
 |const v=>
  simp only[qO]at h;split at h
  ·rename_i d hd
   cases h;exact .imm (compV_ri _ _ _ _ hd)
  ·cases h
 |global g=> simp[qO]at h
 |func f=>
  simp only[qO]at h;split at h
  ·rename_i g hg
   cases h;exact .imm (RI.fn g f [] [] [] [] hg rfl rfl (fun i c v h=> by simp at h) (fun i c v h=> by simp at h))
  ·cases h
theorem compXs_rv{ι:Iota}{I:Imm}{e:Env}{a:Act}(he:RVe tbl ι I e a.tmps){xs:List Operand}{ys:List X}(h:mapO (qO tbl) xs=some ys):
  RVs tbl ι I (ys.map (X.ev e)) (xs.map a.eval):=by
 obtain⟨h1,h2⟩:=zC h;refine⟨by simp[h1],fun i x z hx hz=>?_⟩;rw[gG]at hx hz;cases hy:xs[i]? with
 |none=> rw[hy]at hz; cases hz
 |some o=>
  obtain⟨y,hy',hc⟩:=h2 i o hy;rw[hy]at hz; rw[hy']at hx;cases hx; cases hz;exact qp he hc
theorem jb{t:TypeId}{i:Go.TypeInfo}(h:P.info? t=some i)(w:World):(Go.typeInfo t).run P w= .ok i w:=by simp[Go.typeInfo,h]
theorem qE{t:TypeId}{i:Go.TypeInfo}(h:P.info? t=some i)(w:World):(Go.sizeOf t).run P w= .ok i.size w:=by simp[Go.sizeOf,jb h]
theorem zm{t:TypeId}{i:Go.TypeInfo}{z:Value}(h:P.info? t=some i)(hz:i.zero=some z)(w:World):(Go.zeroValue t).run P w= .ok z w:=by simp[Go.zeroValue,jb h,hz]
theorem run_isAgg{t:TypeId}{d:Go.TypeDesc}(h:P.underlying t=some d)(w:World):(Go.isAgg t).run P w= .ok (aggOf P t) w:=by
 unfold Go.isAgg aggOf;simp only[wY,wF h,wM,h];cases d <;> rfl
theorem partN_spec{t:TypeId}{n:Option Nat}(h:partN P t=some n):∃i d,P.info? t=some i∧P.underlying t=some d∧n=if aggOf P t then some i.size else none:=by
 unfold partN at h;split at h
 ·rename_i i hi
  split at h
  ·rename_i d hd
   cases h;exact⟨i,d,hi,hd,rfl⟩
  ·cases h
 ·cases h
theorem zt{t:TypeId}{cs:List V}(h:ju P tbl t=some cs):∃i z,P.info? t=some i∧i.zero=some z∧(∀I,RIs tbl I cs z.cells.toList)∧∀v∈z.cells.toList,v.oneCell'=true:=by
 unfold ju at h;split at h
 ·rename_i i hi
  split at h
  ·rename_i z hz
   split at h
   ·rename_i ds hm
    split at h
    ·rename_i ho
     cases h;obtain⟨h1,h2⟩:=zC hm;have h3:∀I,RIs tbl I cs z.cells.toList:=fun I=>⟨h1.symm,fun i x y hx hy=> by
      obtain⟨q,hq,hf⟩:=h2 i y hy;rw[hx]at hq; cases hq;exact compV_ri _ _ _ _ hf⟩
     refine⟨i,z,hi,hz,h3,fun v hv=>?_⟩;obtain⟨j,hj⟩:=gR hv;have hlt:j < cs.length:=by rw[h1]; exact(gA hj)
     have h5:=(h3 (fun _ _=> none)).at_ j cs[j] v (by simp[hlt]) hj;exact(RV.imm (ι:=fun _ _=> none) h5).one_of (wO.1 ho _ (wC hlt))
    ·cases h
   ·cases h
  ·cases h
 ·cases h
theorem RIs.rv{ι:Iota}{I:Imm}{xs:List V}{vs:List Value}(h:RIs tbl I xs vs):RVs tbl ι I xs vs:=h.mono fun _ _=> .imm
theorem run_part{ι:Iota}{I:Imm}{t:TypeId}{n:Option Nat}(h:partN P t=some n){cs:List V}{vs:List Value}(hv:RVs tbl ι I cs vs)(ho:∀v∈vs,v.oneCell'=true)(off:Nat){v:V}
  (hc:ze n (cs.drop off)=some v) (w:World):∃c,(Go.part t vs.toArray off).run P w= .ok c w∧RV tbl ι I v c:=by
 obtain⟨i,d,hi,hd,rfl⟩:=partN_spec h;unfold Go.part;simp only[wY,run_isAgg hd,wM];cases ha:aggOf P t with
 |true=>
  rw[ha]at hc;simp only[if_true,ze]at hc;split at hc
  ·rename_i hle
   cases hc;simp only[if_true,wY,qE hi,wM,vO];have h1:=(hv.drop off).take i.size;have e:(vs.toArray.extract off (off+i.size))=((vs.drop off).take i.size).toArray:=by
    simp[List.extract_toArray,List.extract_eq_take_drop]
   refine⟨_,rfl,?_⟩;rw[e];exact .agg _ _ h1.len (fun v hv=> ho v (vR (wW hv))) h1.at_
  ·cases hc
 |false=>
  rw[ha]at hc;simp only[ze]at hc;simp only[wP,if_false];cases hx:cs[off]? with
  |none=>
   rw[List.drop_eq_nil_of_le (by rw[List.getElem?_eq_none_iff]at hx; exact hx)]at hc;cases hc
  |some x=>
   have hlt:=gA hx;have e:cs.drop off=x::cs.drop (off+1):=by
    rw[yP hlt]
    congr 1
    exact(gM.1 hx).2
   rw[e]at hc;cases hc;obtain⟨c,hcv,hr⟩:=hv.get hx;refine⟨c,?_,hr⟩;simp[hcv]
theorem run_loadVar{ι:Iota}{I:Imm}{t:TypeId}{n:Option Nat}(h:partN P t=some n){cs:List V}{vs:List Value}(hv:RVs tbl ι I cs vs)(ho:∀v∈vs,v.oneCell'=true){b o:Nat}{w:World}
  (hw:∀ (j:Nat) v,vs[j]? =some v→w.cell? ⟨b,o+j,none⟩=some v) {v:V} (hc:ze n cs=some v):∃c,(Go.loadVar t ⟨b,o,none⟩).run P w= .ok c w∧RV tbl ι I v c:=by
 obtain⟨i,d,hi,hd,rfl⟩:=partN_spec h;unfold Go.loadVar;simp only[wY,run_isAgg hd,wM];cases ha:aggOf P t with
 |true=>
  rw[ha]at hc;simp only[if_true,ze]at hc;split at hc
  ·rename_i hle
   cases hc;simp only[if_true,wY,qE hi,wM];have h1:=hv.take i.size;have e:i.size=(vs.take i.size).length:=by rw[h1.len]; simp; omega
   have hr:=Go.run_loadCells_list (P:=P) w ⟨b,o,none⟩ (vs.take i.size) (fun j v hj=> by
    rw[zF];rw[gH]at hj;split at hj
    ·exact hw j v hj
    ·cases hj)
   rw[←e]at hr;rw[hr];exact⟨_,rfl,.agg _ _ h1.len (fun v hv=> ho v (wW hv)) h1.at_⟩
  ·cases hc
 |false=>
  rw[ha]at hc;simp only[ze]at hc;cases cs with
  |nil=> cases hc
  |cons x t'=>
   cases hc;obtain⟨c,t2,rfl,hr,_⟩:=hv.uncons;have hcell:=hw 0 c rfl;rw[yU]at hcell;exact⟨c,by simp[hcell],hr⟩
end Rv
namespace Rv
open Go (IntKind BinOp UnOp Program Value Operand Oper Code TypeId Func World Addr Obj Act Calls execOp)
set_option maxRecDepth 10000
variable {tbl:Nat→Option Nat} {P:Program}
theorem str_size{s:ByteArray}{l:List Nat}(h:s.data.toList.map UInt8.toNat=l):s.size=l.length:=by
 rw[←h,vX,wJ]; rfl
theorem u8_map_inj:∀ {a b:List UInt8},a.map UInt8.toNat=b.map UInt8.toNat→a=b
 | [],[],_=> rfl
 | [],_::_,h=> by simp at h
 |_::_,[],h=> by simp at h
 |x::a,y::b,h=> by
  simp only[vB,List.cons.injEq]at h;rw[UInt8.toNat_inj.1 h.1,u8_map_inj h.2]
theorem bytesV_cells{xs:List V}{l:List Nat}(h:bytesV xs=some l):∀x∈xs,x.cells=[x]:=by
 induction xs generalizing l with
 |nil=> intro x hx; cases hx
 |cons y ys ih=>
  unfold bytesV at h;split at h
  ·rename_i hh; cases hh
  ·rename_i n r hh
   cases hh;split at h
   ·split at h
    ·rename_i l' hl'
     intro x hx;rcases vA.1 hx with rfl|hx
     ·rfl
     ·exact ih hl' x hx
    ·cases h
   ·cases h
  ·cases h
theorem bytes_loop{I:Imm}{w:World}{f:Value→ByteArray→Go.Sem (ForInStep ByteArray)}(hf:∀n s,f (Value.int .u8 n) s=pure (.yield (s.push (UInt8.ofNat n.toNat)))):∀ (xs:List V) (l:List Nat) (vs:List Value) (s:ByteArray),bytesV xs=some l→RIs tbl I xs vs→
  ∃t:ByteArray,t.data.toList.map UInt8.toNat=s.data.toList.map UInt8.toNat++l∧(forIn vs s f:Go.Sem ByteArray).run P w= .ok t w:=by
 intro xs;induction xs with
 |nil=>
  intro l vs s hb hr;cases hb;have:vs=[]:=wU hr.len;subst this;exact⟨s,by simp,by simp[vO]⟩
 |cons y ys ih=>
  intro l vs s hb hr;obtain⟨v,vs',rfl,h1,h2⟩:=hr.uncons;unfold bytesV at hb;split at hb
  ·rename_i hh; cases hh
  ·rename_i n r hh
   cases hh;split at hb
   ·rename_i hn
    split at hb
    ·rename_i l' hl'
     cases hb;cases h1;obtain⟨t,t1,t2⟩:=ih l' vs' (s.push (UInt8.ofNat n.toNat)) hl' h2;have hu:(UInt8.ofNat n.toNat).toNat=n.toNat:=by
      rw[UInt8.toNat_ofNat']; omega
     refine⟨t,?_,?_⟩
     ·rw[t1]
      simp[ByteArray.push,hu]
     ·rw[List.forIn_cons,hf]
      simp only[wY,vO,wM];exact t2
    ·cases hb
   ·cases hb
  ·cases hb
theorem bytes_fin{I:Imm}{w:World}{f:Value→ByteArray→Go.Sem (ForInStep ByteArray)}(hf:∀n s,f (Value.int .u8 n) s=pure (.yield (s.push (UInt8.ofNat n.toNat)))){xs:List V}{l:List Nat}{vs:List Value}(hl:bytesV xs=some l)(hr:RIs tbl I xs vs):
  ∃t:ByteArray,t.data.toList.map UInt8.toNat=l∧((forIn vs.toArray ByteArray.empty f:Go.Sem ByteArray).run P w).andThen (fun a w'=> Go.Sem.run P (pure (Value.string a)) w')= .ok (Value.string t) w:=by
 obtain⟨t,t1,t2⟩:=bytes_loop (P:=P) (w:=w) hf xs l vs .empty hl hr;refine⟨t,by simpa using t1,?_⟩;rw[List.forIn_toArray,t2];rfl
theorem str_beq{s s':ByteArray}{l l':List Nat}(h:s.data.toList.map UInt8.toNat=l)(h':s'.data.toList.map UInt8.toNat=l'):(s.toList==s'.toList)=(l==l'):=by
 rw[←h,←h',uD,beq_iff_eq,beq_iff_eq];have e1:s.toList=s.data.toList:=Go.Lib.toList_data s;have e2:s'.toList=s'.data.toList:=Go.Lib.toList_data s';rw[e1,e2];exact⟨fun e=> by rw[e],u8_map_inj⟩
def QRes(P:Program)(tbl:Nat→Option Nat)(ι:Iota)(I:Imm)(h:Heap)(w:World)(a:Act)(go:Oper)(v:V)(h':Heap):Prop:=
 ∃c w' κ J,(execOp a.eval go).run P w= .ok (.value c) w'∧QPost tbl ι I h w κ J h' w'∧RV tbl κ J v c
theorem QRes.of{ι:Iota}{I:Imm}{h:Heap}{w:World}{a:Act}{go:Oper}{v:V}(hs:St tbl ι I h w){c:Value}(h1:(execOp a.eval go).run P w= .ok (.value c) w)(h2:RV tbl ι I v c):QRes P tbl ι I h w a go v h:=
 ⟨c,w,ι,I,h1,.refl hs,h2⟩
theorem qd{α β:Type}{a a':α}{b b':β}(h:some (a,b)=some (a',b')):a'=a∧b'=b:=by cases h; exact⟨rfl,rfl⟩
section
variable {ι:Iota} {I:Imm} {h h':Heap} {w:World} {a:Act} {e:Env} {v:V} {dst:Option Nat} {ty:TypeId} {pos:String} {af:Array Go.Edge} {gd:Option (Nat×Bool)} {call:Call}
variable (hs:St tbl ι I h w) (he:RVe tbl ι I e a.tmps)
include hs he
theorem q_move{x:Operand}{y:X}(hc:qO tbl x=some y)(hev:opEv call (.move y) e h=some (v,h')):QRes P tbl ι I h w a ⟨dst,.move x,ty,pos,af,gd⟩ v h':=by
 simp only[opEv]at hev;obtain⟨rfl,rfl⟩:=qd hev;exact .of hs (by simp[execOp]) (qp he hc)
theorem q_assign{x:Operand}{y:X}(hc:qO tbl x=some y)(hev:opEv call (.move y) e h=some (v,h')):QRes P tbl ι I h w a ⟨dst,.assign x,ty,pos,af,gd⟩ v h':=by
 simp only[opEv]at hev;obtain⟨rfl,rfl⟩:=qd hev;exact .of hs (by simp[execOp]) (qp he hc)
theorem q_pick{c x y:Operand}{c' x' y':X}(hc:qO tbl c=some c')(hx:qO tbl x=some x')(hy:qO tbl y=some y')(hev:opEv call (.pick c' x' y') e h=some (v,h')):
  QRes P tbl ι I h w a ⟨dst,.pick c x y,ty,pos,af,gd⟩ v h':=by
 have h1:=qp he hc;simp only[opEv]at hev;split at hev
 ·rename_i hb
  obtain⟨rfl,rfl⟩:=qd hev;rw[hb]at h1;have h2:=h1.of_bool;exact .of hs (by simp[execOp,h2,Go.asBool]) (qp he hx)
 ·rename_i hb
  obtain⟨rfl,rfl⟩:=qd hev;rw[hb]at h1;have h2:=h1.of_bool;exact .of hs (by simp[execOp,h2,Go.asBool]) (qp he hy)
 ·cases hev
theorem q_box(hfr:ι h.ents.length h.clk=none){x:Operand}{y:X}{el:TypeId}(hc:qO tbl x=some y)(hev:opEv call (.box y) e h=some (v,h')):QRes P tbl ι I h w a ⟨dst,.box el x,ty,pos,af,gd⟩ v h':=by
 have h1:=qp he hc;simp only[opEv]at hev;split at hev
 ·rename_i ht
  obtain⟨rfl,rfl⟩:=qd hev;obtain⟨h2,h3⟩:=h1.cells (fun vs e'=> by rw[e']at ht; cases ht);have hp:=xu hs hfr h2 h3 [] el w.drawn (a.eval x).cells (by simp);refine⟨.pointer (some ⟨w.heap.size,0,none⟩),_,_,_,?_,hp,?_⟩
  ·simp[execOp,Go.Instr.box,Go.newVar,Go.newRow]
  ·exact .ptr _ _ _ ⟨w.heap.size,0,(a.eval x).cells.size⟩ (by simp[Iota.set])
 ·cases hev
theorem q_alloc(hfr:ι h.ents.length h.clk=none){el:TypeId}{z:List V}(hc:ju P tbl el=some z)(hev:opEv call (.alloc z) e h=some (v,h')):QRes P tbl ι I h w a ⟨dst,.alloc el,ty,pos,af,gd⟩ v h':=by
 have _he0:=he;simp only[opEv]at hev;obtain⟨rfl,rfl⟩:=qd hev;obtain⟨i,z',hi,hz,h2,h3⟩:=zt hc;have hp:=xu hs hfr (h2 I).rv h3 [] el w.drawn z'.cells (by simp);refine⟨.pointer (some ⟨w.heap.size,0,none⟩),_,_,_,?_,hp,?_⟩
 ·simp[execOp,Go.Instr.alloc,zm hi hz,Go.newVar,Go.newRow]
 ·exact .ptr _ _ _ ⟨w.heap.size,0,z'.cells.size⟩ (by simp[Iota.set])
theorem q_load{t:TypeId}{x:Operand}{y:X}{n:Option Nat}{im:Ld}(hn:partN P t=some n)(hc:qO tbl x=some y)(hev:opEv call (.load im n y) e h=some (v,h')):
  QRes P tbl ι I h w a ⟨dst,.load t x,ty,pos,af,gd⟩ v h':=by
 have h1:=qp he hc;simp only[opEv]at hev;split at hev
 ·rename_i cs hx
  split at hev
  ·rename_i u hu
   obtain⟨rfl,rfl⟩:=qd hev;rw[hx]at h1;obtain⟨b,o,vs,hq,hr,ho,hi⟩:=h1.of_iptr;obtain⟨c,hc1,hc2⟩:=run_loadVar (P:=P) (ι:=ι) hn hr.rv ho (b:=b) (o:=o) (w:=w) (fun j v hv=> hs.imm _ _ _ (hi j v hv)) hu;exact .of hs (by simp[execOp,Go.Instr.loadAt,Go.Instr.sureAddr,hq,hc1]) hc2
  ·cases hev
 ·rename_i key uid off hx
  split at hev
  ·cases hev
  ·split at hev
   ·rename_i cs hg
    split at hev
    ·rename_i u hu
     obtain⟨rfl,rfl⟩:=qd hev;rw[hx]at h1;obtain⟨l,hl,hq⟩:=h1.of_ptr;obtain⟨vs,hv1,hv2,hv3⟩:=(hs.get hg hl).list off;obtain⟨c,hc1,hc2⟩:=run_loadVar (P:=P) hn hv1 hv2 (b:=l.b) (o:=l.o+off) (w:=w) hv3 hu;exact .of hs (by simp[execOp,Go.Instr.loadAt,Go.Instr.sureAddr,hq,hc1]) hc2
    ·cases hev
   ·cases hev
 ·cases hev
theorem q_nilCheck{x:Operand}{y:X}(hc:qO tbl x=some y)(hev:opEv call (.nilCheck y) e h=some (v,h')):QRes P tbl ι I h w a ⟨dst,.nilCheck x,ty,pos,af,gd⟩ v h':=by
 have h1:=qp he hc;simp only[opEv]at hev;split at hev
 ·rename_i k u f hx
  obtain⟨rfl,rfl⟩:=qd hev;rw[hx]at h1;obtain⟨l,hl,hq⟩:=h1.of_ptr;exact .of hs (c:=a.eval x) (by simp[execOp,hq]) h1
 ·rename_i cs hx
  obtain⟨rfl,rfl⟩:=qd hev;rw[hx]at h1;have h2:=h1;obtain⟨b,o,vs,hq,hr,ho,hi⟩:=h1.of_iptr;exact .of hs (c:=a.eval x) (by simp[execOp,hq]) h2
 ·rename_i g fs cs hx
  obtain⟨rfl,rfl⟩:=qd hev;rw[hx]at h1;have h2:=h1;obtain⟨f,fs',cs',ht,hq,h3,h4⟩:=h1.of_fn;exact .of hs (c:=a.eval x) (by simp[execOp,hq]) h2
 ·cases hev
theorem q_mkfn{f g:Nat}{fst cap:Array Operand}{fst' cap':List X}(ht:tbl f=some g)(h1:mapO (qO tbl) fst.toList=some fst')(h2:mapO (qO tbl) cap.toList=some cap')
  (hev:opEv call (.mkfn g fst' cap') e h=some (v,h')):QRes P tbl ι I h w a ⟨dst,.makeFunc (.func f) fst cap,ty,pos,af,gd⟩ v h':=by
 simp only[opEv]at hev;obtain⟨rfl,rfl⟩:=qd hev;have r1:=compXs_rv he h1;have r2:=compXs_rv he h2;refine .of hs (c:= .func (.func f) (fst.map a.eval) (cap.map a.eval)) (by simp[execOp,Go.Instr.makeFunc]) ?_;have:=RV.fn (tbl:=tbl) (ι:=ι) (I:=I) g f _ _ _ _ ht r1.len r2.len r1.at_ r2.at_;have e1:fst.map a.eval=(fst.toList.map a.eval).toArray:=by apply yS; simp
 have e2:cap.map a.eval=(cap.toList.map a.eval).toArray:=by apply yS; simp
 rw[e1,e2]; exact this
theorem q_extract{x:Operand}{y:X}{i:Nat}(hc:qO tbl x=some y)(hev:opEv call (.extract i y) e h=some (v,h')):QRes P tbl ι I h w a ⟨dst,.extract x i,ty,pos,af,gd⟩ v h':=by
 have h1:=qp he hc;simp only[opEv]at hev;split at hev
 ·rename_i vs hx
  split at hev
  ·rename_i u hu
   obtain⟨rfl,rfl⟩:=qd hev;rw[hx]at h1;obtain⟨cs,hq,h2⟩:=h1.of_tup;obtain⟨c,hc1,hc2⟩:=h2.get hu;exact .of hs (c:=c) (by simp[execOp,hq,Go.Instr.extract,hc1]) hc2
  ·cases hev
 ·cases hev
theorem q_un{op:UnOp}{t:TypeId}{x:Operand}{y:X}(hc:qO tbl x=some y)(hev:opEv call (.un op y) e h=some (v,h')):QRes P tbl ι I h w a ⟨dst,.unOp op t x,ty,pos,af,gd⟩ v h':=by
 have h1:=qp he hc;simp only[opEv]at hev;split at hev
 ·rename_i u hu
  obtain⟨rfl,rfl⟩:=qd hev;unfold unV at hu;split at hu
  ·rename_i b hx
   cases hu;rw[hx]at h1;exact .of hs (c:= .bool (!b)) (by simp[execOp,h1.of_bool,Go.Op.unary]) (.imm (.bool _))
  ·rename_i k n hx
   cases hu;rw[hx]at h1;exact .of hs (c:= .int k (k.wrap (0 - n))) (by simp[execOp,h1.of_int,Go.Op.unary,Go.Op.intArith]) (.imm (.int _ _))
  ·cases hu
 ·cases hev
theorem q_toInt{s d:TypeId}{k:IntKind}{sk:IntKind}{x:Operand}{y:X}(hsrc:P.underlying s=some (.int sk))(hd:P.underlying d=some (.int k))(hc:qO tbl x=some y)(hev:opEv call (.toInt k y) e h=some (v,h')):
  QRes P tbl ι I h w a ⟨dst,.convert s d x,ty,pos,af,gd⟩ v h':=by
 have h1:=qp he hc;simp only[opEv]at hev;split at hev
 ·rename_i k' n hx
  obtain⟨rfl,rfl⟩:=qd hev;rw[hx]at h1;exact .of hs (c:= .int k (k.wrap n)) (by simp[execOp,h1.of_int,Go.convert,wF hsrc,wF hd,Go.Conv.intToInt]) (.imm (.int _ _))
 ·cases hev
theorem q_toStr{s d el:TypeId}{x:Operand}{y:X}(hsrc:P.underlying s=some (.slice el))(hel:P.underlying el=some (.int .u8))(hd:P.underlying d=some .string)(hc:qO tbl x=some y)(hev:opEv call (.toStr y) e h=some (v,h')):
  QRes P tbl ι I h w a ⟨dst,.convert s d x,ty,pos,af,gd⟩ v h':=by
 have h1:=qp he hc;simp only[opEv]at hev;split at hev
 ·rename_i xs hx
  split at hev
  ·rename_i l hl
   obtain⟨rfl,rfl⟩:=qd hev;rw[hx]at h1;rcases h1.of_isl with⟨rfl,ad,cap,hq,ha⟩|⟨b,o,cap,sz,vs,hq,hc1,hz,hx1,hr,ho,hi⟩
   ·cases hl
    refine .of hs (c:= .string .empty) ?_ (.imm (.str _ _ (by rfl)));cases ad with
    |none=> simp[execOp,hq,Go.convert,wF hsrc,wF hd,wF hel,Go.Conv.bytesToString]
    |some ad=> simp[execOp,hq,Go.convert,wF hsrc,wF hd,wF hel,Go.Conv.bytesToString,Go.loadCells,Go.loadCellsFrom]
   ·have hf:flat xs=xs:=flat_ones (bytesV_cells hl)
    rw[hf]at hr;have hlc:=Go.run_loadCells_list (P:=P) w ⟨b,o,none⟩ vs (fun j v hj=> by
     rw[zF];exact hs.imm _ _ _ (hi j v hj))
    rw[hr.len]at hlc;have key:∃t:ByteArray,t.data.toList.map UInt8.toNat=l∧(Go.Conv.bytesToString (.slice (some ⟨b,o,none⟩) xs.length cap)).run P w= .ok (Value.string t) w:=by
     simp only[Go.Conv.bytesToString,wY,wM,hlc];exact bytes_fin (fun n s=> rfl) hl hr
    obtain⟨t,t1,t2⟩:=key;refine .of hs (c:= .string t) ?_ (.imm (.str _ _ t1));simp only[execOp,hq,Go.convert,wF hsrc,wF hd,wF hel,wY,wM,t2];rfl
  ·cases hev
 ·cases hev
theorem q_fieldAddr{t:TypeId}{x:Operand}{y:X}{j:Nat}{fs:Array Go.Field}{f:Go.Field}{i:Go.TypeInfo}(ht:P.underlying t=some (.struct fs))(hf:fs[j]? =some f)(hi:P.info? f.type=some i)(hz:0 < i.size)
  (hc:qO tbl x=some y) (hev:opEv call (.fieldAddr f.offset y) e h=some (v,h')):QRes P tbl ι I h w a ⟨dst,.fieldAddr t x j,ty,pos,af,gd⟩ v h':=by
 have h1:=qp he hc;have hne:i.size≠0:=by omega
 simp only[opEv]at hev;split at hev
 ·rename_i key uid o hx
  obtain⟨rfl,rfl⟩:=qd hev;rw[hx]at h1;obtain⟨l,hl,hq⟩:=h1.of_ptr;refine .of hs (c:= .pointer (some ⟨l.b,l.o+(o+f.offset),none⟩)) ?_ (.ptr _ _ _ l hl);simp[execOp,Go.Instr.fieldAt,Go.Instr.sureAddr,wF ht,hf,hq,Go.fieldPlace,qE hi,hne,zF,vC]
 ·rename_i cs hx
  obtain⟨rfl,rfl⟩:=qd hev;rw[hx]at h1;obtain⟨b,o,vs,hq,hr,ho,hm⟩:=h1.of_iptr;refine .of hs (c:= .pointer (some ⟨b,o+f.offset,none⟩)) ?_ (.imm ?_)
  ·simp[execOp,Go.Instr.fieldAt,Go.Instr.sureAddr,wF ht,hf,hq,Go.fieldPlace,qE hi,hne,zF]
  ·have h2:=hr.drop f.offset
   exact .iptr _ _ _ (vs.drop f.offset) h2.len (fun v hv=> ho v (vR hv)) (fun q v hv=> by
    rw[gN]at hv;rw[vC]; exact hm _ _ hv) h2.at_
 ·cases hev
theorem q_field{t:TypeId}{x:Operand}{y:X}{j:Nat}{fs:Array Go.Field}{f:Go.Field}{n:Option Nat}(ht:P.underlying t=some (.struct fs))(hf:fs[j]? =some f)(hn:partN P f.type=some n)
  (hc:qO tbl x=some y) (hev:opEv call (.field f.offset n y) e h=some (v,h')):QRes P tbl ι I h w a ⟨dst,.field t x j,ty,pos,af,gd⟩ v h':=by
 have h1:=qp he hc;simp only[opEv]at hev;split at hev
 ·rename_i cs hx
  split at hev
  ·rename_i u hu
   obtain⟨rfl,rfl⟩:=qd hev;rw[hx]at h1;obtain⟨vs,hq,hr,ho⟩:=h1.of_agg;obtain⟨c,hc1,hc2⟩:=run_part (P:=P) hn hr ho f.offset hu w;exact .of hs (c:=c) (by simp[execOp,Go.Instr.field,wF ht,hf,hq,Go.asAgg,hc1]) hc2
  ·cases hev
 ·cases hev
theorem jo{k:IntKind}{n:Int}(w:World):(Go.asIntOf (.int k n)).run P w= .ok (k,n) w:=by
 have _hs0:=hs;have _he0:=he;simp[Go.asIntOf]
theorem q_indexAddrS{t el:TypeId}{x ix:Operand}{y iy:X}{i:Go.TypeInfo}(ht:P.underlying t=some (.slice el))(hi:P.info? el=some i)(hz:0 < i.size)
  (hc:qO tbl x=some y) (hci:qO tbl ix=some iy) (hev:opEv call (.indexAddr none i.size y iy) e h=some (v,h')):QRes P tbl ι I h w a ⟨dst,.indexAddr t x ix,ty,pos,af,gd⟩ v h':=by
 have h1:=qp he hc;have h2:=qp he hci;simp only[opEv]at hev;split at hev
 ·rename_i k n hn
  rw[hn]at h2;have h3:=h2.of_int;split at hev
  ·rename_i h0
   split at hev
   ·rename_i key uid off len s _ hx
    split at hev
    ·rename_i hlt
     obtain⟨rfl,rfl⟩:=qd hev;obtain⟨hlt,rfl⟩:=hlt;rw[hx]at h1;rcases h1.of_sl with⟨rfl,_⟩|⟨cap,l,hl,hext,hcap,_,hq⟩
     ·simp at hlt; omega
     ·refine .of hs (c:= .pointer (some ⟨l.b,l.o+(off+n.toNat*i.size),none⟩)) ?_ (.ptr _ _ _ l hl)
      simp[execOp,Go.Instr.indexAt,h3,jo hs he,wF ht,hq,h0,hlt,qE hi,zF,vC]
    ·cases hev
   ·rename_i xs _ hx
    split at hev
    ·rename_i u hu
     split at hev
     ·rename_i hlen
      obtain⟨rfl,rfl⟩:=qd hev;rw[hx]at h1;rcases h1.of_isl with⟨rfl,_⟩|⟨b,o,cap,sz,vs,hq,hcap,hz',hxs,hr,ho,hm⟩
      ·simp at hu
      ·have hlt:=gA hu
       have hsz:sz=i.size:=by rw[←hxs u (gE hu),hlen]
       subst hsz;have hn':n < (xs.length:Int):=by omega
       have hfl:=flat_at (xs:=xs) (sz:=i.size) hxs hu;have h4:=(hr.drop (n.toNat*i.size)).take u.cells.length;rw[hfl]at h4;refine .of hs (c:= .pointer (some ⟨b,o+n.toNat*i.size,none⟩)) ?_ (.imm (.iptr _ _ _ _ h4.len (fun v hv=> ho v (vR (wW hv))) (fun q v hv=>?_) h4.at_))
       ·simp[execOp,Go.Instr.indexAt,h3,jo hs he,wF ht,hq,h0,hn',qE hi,zF]
       ·rw[gH]at hv
        split at hv
        ·rw[gN]at hv
         rw[vC]; exact hm _ _ hv
        ·cases hv
     ·cases hev
    ·cases hev
   ·rename_i hx1 hx2
    cases hx1
   ·rename_i hx1 hx2
    cases hx1
   ·cases hev
  ·cases hev
 ·cases hev
theorem q_indexAddrA{t el:TypeId}{len:Nat}{x ix:Operand}{y iy:X}{i:Go.TypeInfo}(ht:P.underlying t=some (.array len el))(hi:P.info? el=some i)(hz:0 < i.size)
  (hc:qO tbl x=some y) (hci:qO tbl ix=some iy) (hev:opEv call (.indexAddr (some len) i.size y iy) e h=some (v,h')):QRes P tbl ι I h w a ⟨dst,.indexAddr t x ix,ty,pos,af,gd⟩ v h':=by
 have h1:=qp he hc;have h2:=qp he hci;simp only[opEv]at hev;split at hev
 ·rename_i k n hn
  rw[hn]at h2;have h3:=h2.of_int;split at hev
  ·rename_i h0
   split at hev
   ·rename_i hx1 hx2; cases hx1
   ·rename_i hx1 hx2; cases hx1
   ·rename_i len' key uid o hx hq0
    cases hx;split at hev
    ·rename_i hlt
     obtain⟨rfl,rfl⟩:=qd hev;rw[hq0]at h1;obtain⟨l,hl,hq⟩:=h1.of_ptr;refine .of hs (c:= .pointer (some ⟨l.b,l.o+(o+n.toNat*i.size),none⟩)) ?_ (.ptr _ _ _ l hl);simp[execOp,Go.Instr.indexAt,h3,jo hs he,wF ht,hq,h0,hlt,qE hi,zF,vC,Go.Instr.sureAddr]
    ·cases hev
   ·rename_i len' cs hx hq0
    cases hx;split at hev
    ·rename_i hlt
     obtain⟨rfl,rfl⟩:=qd hev;rw[hq0]at h1;obtain⟨b,o,vs,hq,hr,ho,hm⟩:=h1.of_iptr;have h4:=hr.drop (n.toNat*i.size);refine .of hs (c:= .pointer (some ⟨b,o+n.toNat*i.size,none⟩)) ?_ (.imm (.iptr _ _ _ (vs.drop (n.toNat*i.size)) h4.len (fun v hv=> ho v (vR hv)) (fun q v hv=>?_) h4.at_))
     ·simp[execOp,Go.Instr.indexAt,h3,jo hs he,wF ht,hq,h0,hlt,qE hi,zF,Go.Instr.sureAddr]
     ·rw[gN]at hv
      rw[vC]; exact hm _ _ hv
    ·cases hev
   ·cases hev
  ·cases hev
 ·cases hev
theorem q_indexA{t el:TypeId}{len:Nat}{x ix:Operand}{y iy:X}{i:Go.TypeInfo}{n:Option Nat}(ht:P.underlying t=some (.array len el))(hi:P.info? el=some i)(hn:partN P el=some n)
  (hc:qO tbl x=some y) (hci:qO tbl ix=some iy) (hev:opEv call (.indexA len i.size n y iy) e h=some (v,h')):QRes P tbl ι I h w a ⟨dst,.index t x ix,ty,pos,af,gd⟩ v h':=by
 have h1:=qp he hc;have h2:=qp he hci;simp only[opEv]at hev;split at hev
 ·rename_i cs k j hx hj
  split at hev
  ·rename_i hlt
   split at hev
   ·rename_i u hu
    obtain⟨rfl,rfl⟩:=qd hev;rw[hx]at h1;rw[hj]at h2;obtain⟨vs,hq,hr,ho⟩:=h1.of_agg;obtain⟨c,hc1,hc2⟩:=run_part (P:=P) hn hr ho (j.toNat*i.size) hu w;exact .of hs (c:=c) (by simp[execOp,Go.Instr.index,h2.of_int,jo hs he,wF ht,hq,hlt.1,hlt.2,qE hi,hc1]) hc2
   ·cases hev
  ·cases hev
 ·cases hev
theorem lenV_slice{x:V}{n:Nat}(hn:lenV x=some n){c:Value}(h1:RV tbl ι I x c):∃q cap,c= .slice q n cap∧n≤cap:=by
 have _hs0:=hs;have _he0:=he;unfold lenV at hn;split at hn
 ·cases hn; exact⟨none,0,h1.of_nils,wE _⟩
 ·cases hn
  rcases h1.of_sl with⟨rfl,q,hq⟩|⟨cap,l,_,_,hc,_,hq⟩
  ·exact⟨q,0,hq,wE _⟩
  ·exact⟨_,cap,hq,hc⟩
 ·cases hn
  rcases h1.of_isl with⟨rfl,q,cap,hq,_⟩|⟨b,o,cap,sz,vs,hq,hc,_⟩
  ·exact⟨q,cap,hq,vD _⟩
  ·exact⟨_,cap,hq,hc⟩
 ·cases hn
theorem q_len{t el:TypeId}{x:Operand}{y:X}{ats:Array TypeId}(ha:ats[0]? =some t)(ht:P.underlying t=some (.slice el))
  (hc:qO tbl x=some y) (hev:opEv call (.len y) e h=some (v,h')):QRes P tbl ι I h w a ⟨dst,.call ⟨.builtin .len, #[x],ats⟩,ty,pos,af,gd⟩ v h':=by
 have h1:=qp he hc;simp only[opEv]at hev;split at hev
 ·rename_i n hn
  obtain⟨rfl,rfl⟩:=qd hev;obtain⟨q,cap,hq,_⟩:=lenV_slice hs he hn h1;exact .of hs (c:= .int .i64 n) (by simp[execOp,Go.resolve,Go.invoke,Go.builtin,Go.Builtin.len_,ha,wF ht,hq,Go.goInt]) (.imm (.int _ _))
 ·cases hev
theorem q_lenS{t:TypeId}{x:Operand}{y:X}{ats:Array TypeId}(ha:ats[0]? =some t)(ht:P.underlying t=some .string)
  (hc:qO tbl x=some y) (hev:opEv call (.lenS y) e h=some (v,h')):QRes P tbl ι I h w a ⟨dst,.call ⟨.builtin .len, #[x],ats⟩,ty,pos,af,gd⟩ v h':=by
 have h1:=qp he hc;simp only[opEv]at hev;split at hev
 ·rename_i l hx
  obtain⟨rfl,rfl⟩:=qd hev;rw[hx]at h1;obtain⟨s,hq,hl⟩:=h1.of_str;have:s.size=l.length:=str_size hl;exact .of hs (c:= .int .i64 l.length) (by simp[execOp,Go.resolve,Go.invoke,Go.builtin,Go.Builtin.len_,ha,wF ht,hq,Go.goInt,this]) (.imm (.int _ _))
 ·cases hev
theorem q_cap{t el:TypeId}{x:Operand}{y:X}{ats:Array TypeId}(ha:ats[0]? =some t)(ht:P.underlying t=some (.slice el))
  (hc:qO tbl x=some y) (hev:opEv call (.cap y) e h=some (v,h')):QRes P tbl ι I h w a ⟨dst,.call ⟨.builtin .cap, #[x],ats⟩,ty,pos,af,gd⟩ v h':=by
 have h1:=qp he hc;simp only[opEv]at hev;split at hev
 ·rename_i hx
  obtain⟨rfl,rfl⟩:=qd hev;rw[hx]at h1;exact .of hs (c:= .int .i64 0) (by simp[execOp,Go.resolve,Go.invoke,Go.builtin,Go.Builtin.cap_,ha,wF ht,h1.of_nils,Go.goInt]) (.imm (.int _ _))
 ·cases hev
theorem q_max2{x z:Operand}{y u:X}{ats:Array TypeId}(hc:qO tbl x=some y)(hd:qO tbl z=some u)(hev:opEv call (.max2 y u) e h=some (v,h')):QRes P tbl ι I h w a ⟨dst,.call ⟨.builtin .max, #[x,z],ats⟩,ty,pos,af,gd⟩ v h':=by
 have h1:=qp he hc;have h2:=qp he hd;simp only[opEv]at hev;split at hev
 ·rename_i k p k' q hx hy
  obtain⟨rfl,rfl⟩:=qd hev;rw[hx]at h1; rw[hy]at h2;exact .of hs (c:= .int k (if q > p then q else p)) (by simp[execOp,Go.resolve,Go.invoke,Go.builtin,Go.Builtin.max_,Go.Builtin.max2,h1.of_int,h2.of_int]) (.imm (.int _ _))
 ·cases hev
theorem q_min2{x z:Operand}{y u:X}{ats:Array TypeId}(hc:qO tbl x=some y)(hd:qO tbl z=some u)(hev:opEv call (.min2 y u) e h=some (v,h')):QRes P tbl ι I h w a ⟨dst,.call ⟨.builtin .min, #[x,z],ats⟩,ty,pos,af,gd⟩ v h':=by
 have h1:=qp he hc;have h2:=qp he hd;simp only[opEv]at hev;split at hev
 ·rename_i k p k' q hx hy
  obtain⟨rfl,rfl⟩:=qd hev;rw[hx]at h1; rw[hy]at h2;exact .of hs (c:= .int k (if q < p then q else p)) (by simp[execOp,Go.resolve,Go.invoke,Go.builtin,Go.Builtin.min_,Go.Builtin.min2,h1.of_int,h2.of_int]) (.imm (.int _ _))
 ·cases hev
theorem q_indexS{t:TypeId}{x ix:Operand}{y iy:X}(ht:P.underlying t=some .string)
  (hc:qO tbl x=some y) (hci:qO tbl ix=some iy) (hev:opEv call (.indexS y iy) e h=some (v,h')):QRes P tbl ι I h w a ⟨dst,.index t x ix,ty,pos,af,gd⟩ v h':=by
 have h1:=qp he hc;have h2:=qp he hci;simp only[opEv]at hev;split at hev
 ·rename_i l k j hx hj
  split at hev
  ·rename_i h0
   split at hev
   ·rename_i b hb
    obtain⟨rfl,rfl⟩:=qd hev;rw[hx]at h1; rw[hj]at h2;obtain⟨s,hq,hl⟩:=h1.of_str;rw[←hl,gG]at hb;have hb2:∃u,s[j.toNat]? =some u∧u.toNat=b:=by
     cases hz:s.data.toList[j.toNat]? with
     |none=> rw[hz]at hb; cases hb
     |some u=>
      rw[hz]at hb; cases hb;refine⟨u,?_,rfl⟩;obtain⟨hlt,hu⟩:=gM.1 hz;have hlt':j.toNat < s.size:=by rw[wJ]at hlt; exact hlt
      rw[getElem?_pos s j.toNat hlt']
      congr 1
    obtain⟨u,hu,rfl⟩:=hb2;exact .of hs (c:= .int .u8 u.toNat) (by simp[execOp,Go.Instr.index,h2.of_int,jo hs he,wF ht,hq,h0,hu]) (.imm (.int _ _))
   ·cases hev
  ·cases hev
 ·cases hev
theorem boundV_run{n d m:Nat}{x:Option V}{c:Option Value}(hb:jB n x d=some m)(hx:(x=none∧c=none)∨∃p q,x=some p∧c=some q∧RV tbl ι I p q):
  (x=none∧c=none∧m=d)∨∃i:Int,c=some (.int .i64 i)∧0≤i∧i≤n∧m=i.toNat:=by
 have _hs0:=hs;have _he0:=he;rcases hx with⟨rfl,rfl⟩|⟨p,q,rfl,rfl,hr⟩
 ·simp only[jB,wB]at hb; exact .inl ⟨rfl,rfl,hb.symm⟩
 ·simp only[jB]at hb
  split at hb
  ·rename_i i hi
   split at hb
   ·rename_i hle
    cases hb;unfold intV at hi;split at hi
    ·cases hi
     exact .inr ⟨i,by rw[hr.of_int],hle.1,hle.2,rfl⟩
    ·cases hi
   ·cases hb
  ·cases hb
theorem zK{k:IntKind}{i:Int}{y:Nat}(h0:0≤i)(h1:i≤y)(code:Go.BoundsCode)(w:World):(Go.Instr.sliceBound (.int k i) y code).run P w= .ok i.toNat w:=by
 have _hs0:=hs;have _he0:=he;simp[Go.Instr.sliceBound,Go.asIntOf,h0,h1]
theorem run_sliceBounds{isS:Bool}{len cap:Nat}{lo hi:Option V}{clo chi:Option Value}{b q:Nat}(hlc:len≤cap)(hh:jB len hi len=some b)(hl:jB b lo 0=some q)
  (r1:(hi=none∧chi=none)∨∃p c,hi=some p∧chi=some c∧RV tbl ι I p c) (r2:(lo=none∧clo=none)∨∃p c,lo=some p∧clo=some c∧RV tbl ι I p c) (w:World):
  (Go.Instr.sliceBounds isS len cap clo chi none).run P w= .ok (q,b,cap) w∧q≤b∧b≤len:=by
 rcases boundV_run hs he hh r1 with⟨rfl,rfl,rfl⟩|⟨i,rfl,i0,i1,rfl⟩
 ·rcases boundV_run hs he hl r2 with⟨rfl,rfl,rfl⟩|⟨j,rfl,j0,j1,rfl⟩
  ·exact⟨by simp[Go.Instr.sliceBounds],vD _,wE _⟩
  ·exact⟨by simp[Go.Instr.sliceBounds,zK hs he j0 j1],by omega,wE _⟩
 ·have hic:i≤(cap:Int):=by omega
  rcases boundV_run hs he hl r2 with⟨rfl,rfl,rfl⟩|⟨j,rfl,j0,j1,rfl⟩
  ·exact⟨by simp[Go.Instr.sliceBounds,zK hs he i0 hic],vD _,by omega⟩
  ·exact⟨by simp[Go.Instr.sliceBounds,zK hs he i0 hic,zK hs he j0 j1],by omega,by omega⟩
theorem compXo_rv{x:Option Operand}{y:Option X}(hc:(x=none∧y=none)∨∃p q,x=some p∧y=some q∧qO tbl p=some q):
  (y.map (X.ev e)=none∧x.map a.eval=none)∨∃p c,y.map (X.ev e)=some p∧x.map a.eval=some c∧RV tbl ι I p c:=by
 have _hs0:=hs;rcases hc with⟨rfl,rfl⟩|⟨p,q,rfl,rfl,hc⟩
 ·exact .inl ⟨rfl,rfl⟩
 ·exact .inr ⟨_,_,rfl,rfl,qp he hc⟩
theorem q_sliceS{t:TypeId}{x:Operand}{y:X}{lo hi:Option Operand}{lo' hi':Option X}(ht:P.underlying t=some .string)(hc:qO tbl x=some y)
  (hl:(lo=none∧lo'=none)∨∃p q,lo=some p∧lo'=some q∧qO tbl p=some q) (hh:(hi=none∧hi'=none)∨∃p q,hi=some p∧hi'=some q∧qO tbl p=some q)
  (hev:opEv call (.sliceS y lo' hi') e h=some (v,h')):QRes P tbl ι I h w a ⟨dst,.slice t x lo hi none,ty,pos,af,gd⟩ v h':=by
 have h1:=qp he hc;simp only[opEv]at hev;split at hev
 ·rename_i u hu
  obtain⟨rfl,rfl⟩:=qd hev;unfold sliceSV at hu;split at hu
  ·rename_i l hx
   rw[hx]at h1;obtain⟨s,hq,hsl⟩:=h1.of_str;have hsz:s.size=l.length:=str_size hsl;split at hu
   ·cases hu
   ·rename_i b hb
    split at hu
    ·cases hu
    ·rename_i q hqq
     cases hu;obtain⟨hr,h2,h3⟩:=run_sliceBounds (P:=P) (isS:=false) hs he (wE l.length) hb hqq (compXo_rv hs he hh) (compXo_rv hs he hl) w;refine .of hs (c:= .string (s.extract q b)) ?_ (.imm (.str _ _ ?_))
     ·simp[execOp,Go.Instr.sliceAt,Go.Instr.slice,wF ht,hq,hsz,hr]
     ·rw[←hsl,←List.map_take,←List.map_drop,Go.Lib.extract_data,List.drop_take]
  ·cases hu
 ·cases hev
end
end Rv
namespace Rv
open Go (IntKind BinOp UnOp Program Value Operand Oper Code TypeId Func World Addr Obj Act Calls execOp Lit)
set_option maxRecDepth 10000
variable {tbl:Nat→Option Nat} {P:Program}
inductive Leaf:V→Lit→Prop
 |bool (b:Bool):Leaf (.bool b) (.bool b)
 |int (k:IntKind) (n:Int):Leaf (.int k n) (.int k n)
 |str (l:List Nat) (s:List UInt8) (h:s.map UInt8.toNat=l):Leaf (.str l) (.string s)
theorem leaf_eq{x y:V}{a b:Lit}(h:Leaf x a)(k:Leaf y b):leafEq x y=true↔a=b:=by
 cases h <;> cases k <;> simp[leafEq];rename_i l s h l' s' h';subst h; subst h';exact⟨u8_map_inj,fun e=> by rw[e]⟩
theorem leaves_eq:∀ {xs ys:List V} {as bs:List Lit},P2 Leaf xs as→P2 Leaf ys bs→(xe xs ys=true↔as=bs)
 | [],[],as,bs,h,k=> by
  have h1:as=[]:=by have:=h.len; simpa using this
  have h2:bs=[]:=by have:=k.len; simpa using this
  simp[xe,h1,h2]
 | [],y::ys,as,bs,h,k=> by
  have h1:as=[]:=by have:=h.len; simpa using this
  obtain⟨b,t,rfl,_⟩:=k.uncons;simp[xe,h1]
 |x::xs,[],as,bs,h,k=> by
  have h1:bs=[]:=by have:=k.len; simpa using this
  obtain⟨b,t,rfl,_⟩:=h.uncons;simp[xe,h1]
 |x::xs,y::ys,as,bs,h,k=> by
  obtain⟨a,t,rfl,h1,h2⟩:=h.uncons;obtain⟨b,u,rfl,k1,k2⟩:=k.uncons;simp only[xe,wL,leaf_eq h1 k1,leaves_eq h2 k2,List.cons.injEq]
theorem flatten_P2{α β:Type}{R:α→β→Prop}:∀ {xs:List (List α)} {ys:List (List β)},P2 (P2 R) xs ys→P2 R xs.flatten ys.flatten
 | [],ys,h=> by
  have h1:ys=[]:=by have:=h.len; simpa using this
  subst h1; exact .nil
 |x::xs,ys,h=> by
  obtain⟨y,t,rfl,h1,h2⟩:=h.uncons;simp only[yV];exact h1.append (flatten_P2 h2)
theorem mapFlat_lits{α γ:Type}{f:α→Option (List V)}{g:γ→Option (List Lit)}:∀ (l:List α) (l':List γ) (ls:List V),l'.length=l.length→(∀ (i:Nat) x y zs,l[i]? =some x→l'[i]? =some y→f x=some zs→∃lits,g y=some lits∧P2 Leaf zs lits)→
  mapFlat f l=some ls→∃lits:List (List Lit),l'.mapM g=some lits∧P2 Leaf ls lits.flatten:=by
 intro l l' ls hl hr hm;unfold mapFlat at hm;split at hm
 ·rename_i ys hys
  cases hm
  suffices∃lits:List (List Lit),l'.mapM g=some lits∧P2 (P2 Leaf) ys lits by
   obtain⟨lits,h1,h2⟩:=this;exact⟨lits,h1,flatten_P2 h2⟩
  induction l generalizing l' ys with
  |nil=>
   have:l'=[]:=by simpa using hl
   subst this;simp only[mapO,wB]at hys;subst hys;exact⟨[],rfl,.nil⟩
  |cons x l ih=>
   cases l' with
   |nil=> simp at hl
   |cons y l'=>
    simp only[mapO]at hys;split at hys
    ·rename_i z hz
     split at hys
     ·rename_i zs hzs
      cases hys;obtain⟨lit,h1,h2⟩:=hr 0 x y z rfl rfl hz;obtain⟨lits,h3,h4⟩:=ih l' (by simpa using hl) (fun i a b zs ha hb=> hr (i+1) a b zs (by simpa using ha) (by simpa using hb)) zs hzs;exact⟨lit::lits,by simp[List.mapM_cons,h1,h3],.cons h2 h4⟩
     ·cases hys
    ·cases hys
 ·cases hm
theorem one_of{ι:Iota}{I:Imm}{x:V}{vs:List Value}(h:RVs tbl ι I [x] vs):∃c,vs=[c]∧RV tbl ι I x c:=by
 obtain⟨c,t',rfl,h1,h2⟩:=h.uncons;have:t'=[]:=by have:=h2.len; simpa using this
 subst this;exact⟨c,rfl,h1⟩
theorem layV_lits{ι:Iota}{I:Imm}:∀ (d:Nat) (t:TypeId) (L:Lay) (cs:List V) (vs:List Value) (ls:List V),layT P d t=some L→RVs tbl ι I cs vs→layV d L cs=some ls→∃lits,P.keyLits d t vs=some lits∧P2 Leaf ls lits:=by
 intro d;induction d with
 |zero=> intro t L cs vs ls h; simp[layT]at h
 |succ d ih=>
  intro t L cs vs ls hL hr hv;unfold layT at hL;unfold Program.keyLits;split at hL
  ·rename_i hu
   cases hL;simp only[hu];cases cs with
   |nil=> simp[layV]at hv
   |cons x xs=> cases xs with
    |cons y ys=> simp[layV]at hv
    |nil=>
     obtain⟨c,rfl,h1⟩:=one_of hr;cases x <;> simp only[layV]at hv <;> first|(cases hv; done)|skip;rename_i b;cases hv;have:=h1.of_bool;subst this;exact⟨_,rfl,.cons (.bool b) .nil⟩
  ·rename_i q hu
   cases hL;simp only[hu];cases cs with
   |nil=> simp[layV]at hv
   |cons x xs=> cases xs with
    |cons y ys=> simp[layV]at hv
    |nil=>
     obtain⟨c,rfl,h1⟩:=one_of hr;cases x <;> simp only[layV]at hv <;> first|(cases hv; done)|skip;rename_i q' n;split at hv
     ·rename_i hc
      cases hv;have:=h1.of_int;subst this;simp only[if_pos hc];exact⟨_,rfl,.cons (.int q n) .nil⟩
     ·cases hv
  ·rename_i hu
   cases hL;simp only[hu];cases cs with
   |nil=> simp[layV]at hv
   |cons x xs=> cases xs with
    |cons y ys=> simp[layV]at hv
    |nil=>
     obtain⟨c,rfl,h1⟩:=one_of hr;cases x <;> simp only[layV]at hv <;> first|(cases hv; done)|skip;rename_i l;split at hv
     ·rename_i hc
      cases hv;obtain⟨s,rfl,hs⟩:=h1.of_str;have hsz:s.size≤Go.maxLen:=by rw[str_size hs]; exact hc
      simp only[if_pos hsz];exact⟨_,rfl,.cons (.str l _ hs) .nil⟩
     ·cases hv
  ·rename_i n e hu
   split at hL
   ·rename_i l hl
    cases hL;simp only[hu];simp only[layV]at hv;split at hv
    ·rename_i hlen
     rw[if_pos (by rw[hr.len]; exact hlen)];obtain⟨lits,h1,h2⟩:=mapFlat_lits (g:=fun i=> P.keyLits d e ((vs.drop (i*P.cellsOf e)).take (P.cellsOf e))) (List.range n) (List.range n) ls rfl (fun i x y zs hx hy hf=> by
      rw[hx]at hy; cases hy;exact ih e l _ _ zs hl ((hr.drop _).take _) hf) hv
     exact⟨lits.flatten,by rw[h1]; rfl,h2⟩
    ·cases hv
   ·cases hL
  ·rename_i fs hu
   split at hL
   ·rename_i hname
    split at hL
    ·rename_i l hl
     cases hL;simp only[hu];simp only[layV]at hv;split at hv
     ·rename_i hlen
      rw[if_pos ⟨by rw[hr.len]; exact hlen,hname⟩];obtain⟨hl1,hl2⟩:=zC hl;obtain⟨lits,h1,h2⟩:=mapFlat_lits (g:=fun(f:Go.Field)=> P.keyLits d f.type ((vs.drop f.offset).take (P.cellsOf f.type))) l fs.toList ls hl1.symm (fun i x y zs hx hy hf=> by
       obtain⟨z,hz,hfz⟩:=hl2 i y hy;rw[hx]at hz; cases hz;split at hfz
       ·rename_i lf hlf
        cases hfz;exact ih y.type lf _ _ zs hlf ((hr.drop _).take _) hf
       ·cases hfz) hv
      exact⟨lits.flatten,by rw[h1]; rfl,h2⟩
     ·cases hv
    ·cases hL
   ·cases hL
  ·cases hL
theorem layV_len{P:Program}{d:Nat}{t:TypeId}{L:Lay}{cs ls:List V}(ha:aggOf P t=true)(hL:layT P d t=some L)(hv:layV d L cs=some ls):cs.length=P.cellsOf t:=by
 cases d with
 |zero=> simp[layT]at hL
 |succ d=>
  unfold layT at hL;unfold aggOf at ha;split at hL
  ·rename_i hu; simp[hu]at ha
  ·rename_i hu; simp[hu]at ha
  ·rename_i hu; simp[hu]at ha
  ·split at hL
   ·cases hL
    simp only[layV]at hv;split at hv
    ·assumption
    ·cases hv
   ·cases hL
  ·split at hL
   ·split at hL
    ·cases hL
     simp only[layV]at hv;split at hv
     ·assumption
     ·cases hv
    ·cases hL
   ·cases hL
  ·cases hL
theorem formed_agg{t:TypeId}{vs:List Value}(ha:aggOf P t=true)(hl:vs.length=P.cellsOf t):(Value.agg vs.toArray).formed P t=true:=by
 unfold aggOf at ha;unfold Value.formed;split at ha
 ·rename_i fs hu; simp[hu,hl]
 ·rename_i n e hu; simp[hu,hl]
 ·cases ha
theorem eqSV_run{ι:Iota}{I:Imm}{t:TypeId}{L:Lay}{x y v:V}{a b:Value}{ne:Bool}(hL:eqLay P t=some L)(hx:RV tbl ι I x a)(hy:RV tbl ι I y b)(hv:eqSV ne LD L x y=some v)(w:World):
  ∃ (xs ys:List Value) (r:Bool),a= .agg xs.toArray∧b= .agg ys.toArray∧(Go.Op.equalIn 10000 t a b).run P w= .ok r w∧v= .bool (if r=true then !ne else ne)∧P.eqGuardType P.depth t=false:=by
 unfold eqLay at hL;split at hL
 ·rename_i hc
  simp only[wL,vV]at hc;obtain⟨⟨hagg,hk⟩,hg⟩:=hc;unfold eqSV at hv;split at hv
  ·rename_i p q
   split at hv
   ·rename_i lp lq h1 h2
    obtain⟨xs,rfl,hxs,_⟩:=hx.of_agg;obtain⟨ys,rfl,hys,_⟩:=hy.of_agg;obtain⟨la,k1,k2⟩:=layV_lits LD t L p xs lp hL hxs h1;obtain⟨lb,k3,k4⟩:=layV_lits LD t L q ys lq hL hys h2;obtain⟨r,hr,hiff⟩:=Go.run_equalIn_deep (P:=P) 9988 LD t hk w LD LD (.agg xs.toArray) (.agg ys.toArray) la lb (formed_agg hagg (by rw[hxs.len]; exact layV_len hagg hL h1)) (formed_agg hagg (by rw[hys.len]; exact layV_len hagg hL h2))
     (by simpa[Value.cells]using k1) (by simpa[Value.cells]using k3)
    refine⟨xs,ys,r,rfl,rfl,hr,?_,hg⟩;cases hv;have h5:=leaves_eq k2 k4;have:xe lp lq=r:=by rw[uD,h5,hiff]
    rw[this]
   ·cases hv
  ·cases hv
 ·cases hL
theorem q_eqS{ι:Iota}{I:Imm}{h h':Heap}{w:World}{a:Act}{e:Env}{v:V}{dst:Option Nat}{ty:TypeId}{pos:String}{af:Array Go.Edge}{gd:Option (Nat×Bool)}{call:Call}(hs:St tbl ι I h w)(he:RVe tbl ι I e a.tmps)
  {t ty':TypeId} {L:Lay} {op:BinOp} {ne:Bool} (hop:(op= .eql∧ne=false)∨(op= .neq∧ne=true)) {x z:Operand} {y u:X} (hL:eqLay P t=some L) (hc:qO tbl x=some y) (hd:qO tbl z=some u) (hev:opEv call (.eqS ne LD L y u) e h=some (v,h')):
  QRes P tbl ι I h w a ⟨dst,.binOp op t x z ty',ty,pos,af,gd⟩ v h':=by
 have h1:=qp he hc;have h2:=qp he hd;simp only[opEv]at hev;split at hev
 ·rename_i r hr
  obtain⟨rfl,rfl⟩:=qd hev;obtain⟨xs,ys,q,e1,e2,hrun,rfl,hg⟩:=eqSV_run hL h1 h2 hr w;rcases hop with⟨rfl,rfl⟩|⟨rfl,rfl⟩
  ·refine .of hs (c:= .bool q) ?_ (by cases q <;> exact .imm (.bool _))
   rw[e1,e2]at hrun;simp[execOp,e1,e2,Go.eqGuard,hg,Go.run_eql_struct,hrun]
  ·refine .of hs (c:= .bool (!q)) ?_ (by cases q <;> exact .imm (.bool _))
   rw[e1,e2]at hrun;simp[execOp,e1,e2,Go.eqGuard,hg,Go.run_neq_struct,hrun]
 ·cases hev
end Rv
namespace Rv
open Go (IntKind BinOp UnOp Program Value Operand Oper Code TypeId Func World Addr Obj Act Calls execOp)
variable {tbl:Nat→Option Nat} {P:Program}
theorem flat_drop{sz:Nat}:∀ {xs:List V} (n:Nat),(∀x∈xs,x.cells.length=sz)→n≤xs.length→flat (xs.drop n)=(flat xs).drop (n*sz)
 |xs,0,_,_=> by simp
 | [],n+1,_,h=> by simp at h
 |x::xs,n+1,hx,h=> by
  have ih:=flat_drop (xs:=xs) n (fun y hy=> hx y (wI _ hy)) (by simpa using h);have hl:=hx x (wG ..);unfold flat at*;rw[List.drop_succ_cons,ih,vT,show(n+1)*sz=x.cells.length+n*sz from by rw[hl,yT]; omega,←List.drop_drop,List.drop_left]
theorem flat_take{sz:Nat}:∀ {xs:List V} (n:Nat),(∀x∈xs,x.cells.length=sz)→n≤xs.length→flat (xs.take n)=(flat xs).take (n*sz)
 |xs,0,_,_=> by simp[flat]
 | [],n+1,_,h=> by simp at h
 |x::xs,n+1,hx,h=> by
  have ih:=flat_take (xs:=xs) n (fun y hy=> hx y (wI _ hy)) (by simpa using h);have hl:=hx x (wG ..);unfold flat at*;rw[List.take_succ_cons,vT,ih,vT,show(n+1)*sz=x.cells.length+n*sz from by rw[hl,yT]; omega,List.take_length_add_append]
theorem flat_length{sz:Nat}:∀ {xs:List V},(∀x∈xs,x.cells.length=sz)→(flat xs).length=xs.length*sz
 | [],_=> by simp[flat]
 |x::xs,hx=> by
  have ih:=flat_length (xs:=xs) (fun y hy=> hx y (wI _ hy));have hl:=hx x (wG ..);unfold flat at*;rw[vT,wR,ih,hl,vF,yT]; omega
section
variable {ι:Iota} {I:Imm} {h h':Heap} {w:World} {a:Act} {e:Env} {v:V} {dst:Option Nat} {ty:TypeId} {pos:String} {af:Array Go.Edge} {gd:Option (Nat×Bool)} {call:Call}
variable (hs:St tbl ι I h w) (he:RVe tbl ι I e a.tmps)
include hs he
theorem q_slice{t el:TypeId}{i:Go.TypeInfo}{x:Operand}{y:X}{lo hi:Option Operand}{lo' hi':Option X}(ht:P.underlying t=some (.slice el))(hi0:P.info? el=some i)(hz:0 < i.size)(hc:qO tbl x=some y)
  (hl:(lo=none∧lo'=none)∨∃p q,lo=some p∧lo'=some q∧qO tbl p=some q) (hh:(hi=none∧hi'=none)∨∃p q,hi=some p∧hi'=some q∧qO tbl p=some q)
  (hev:opEv call (.slice i.size y lo' hi') e h=some (v,h')):QRes P tbl ι I h w a ⟨dst,.slice t x lo hi none,ty,pos,af,gd⟩ v h':=by
 have h1:=qp he hc;simp only[opEv]at hev;split at hev
 ·rename_i u hu
  obtain⟨rfl,rfl⟩:=qd hev;unfold sliceV at hu;split at hu
  ·cases hu
  ·rename_i n hn
   obtain⟨base,cap,hq,hnc⟩:=lenV_slice hs he hn h1;split at hu
   ·cases hu
   ·rename_i b hb
    split at hu
    ·cases hu
    ·rename_i q hqq
     obtain⟨hr,h2,h3⟩:=run_sliceBounds (P:=P) (isS:=true) hs he hnc hb hqq (compXo_rv hs he hh) (compXo_rv hs he hl) w;have run:∀b0,a.eval x= .slice b0 n cap→(execOp a.eval ⟨dst,.slice t x lo hi none,ty,pos,af,gd⟩).run P w=
       .ok (.value (.slice (if cap=q then b0 else b0.map (·.add (q*i.size))) (b - q) (cap - q))) w:=fun b0 hq=> by
      simp[execOp,Go.Instr.sliceAt,Go.Instr.slice,wF ht,hq,hr,qE hi0]
     split at hu
     ·rename_i hx
      cases hu;rw[hx]at h1 hn;simp only[lenV,wB]at hn;have hq2:=h1.of_nils;rw[hq2]at hq;cases hq;refine .of hs (run _ hq2) ?_;have e1:b - q=0:=by omega
      rw[e1];simp;exact .imm .nils
     ·rename_i xs hx
      split at hu
      ·rename_i hall
       cases hu;rw[hx]at h1 hn;simp only[lenV,wB]at hn;subst hn;rcases h1.of_isl with⟨rfl,base',cap',hq2,hcn⟩|⟨bb,o,cap',sz,vs,hq2,hcap,hz',hxs,hrs,ho,hm⟩
       ·refine .of hs (run _ (by rw[hq2]at hq ⊢; cases hq; rfl)) ?_
        have e1:b - q=0:=by simp at h3; omega
        rw[e1];rw[hq2]at hq;cases hq;simp only[List.take_nil,List.drop_nil];have e0:q=0:=by simp at h3; omega
        subst e0;split <;> exact .imm (.isl0 _ _ (fun ha=> by have:=hcn (by first|exact ha|simpa using ha); omega))
       ·rw[hq2]at hq
        cases hq;refine .of hs (run _ hq2) ?_;by_cases hnil:b - q=0
        ·have:((xs.take b).drop q)=[]:=by apply List.drop_eq_nil_of_le; simp; omega
         rw[this,hnil];simp only[vI];split <;> exact .imm (.isl0 _ _ (fun ha=> nomatch ha))
        ·have hne:cap≠q:=by omega
         rw[if_neg hne];have hsz:sz=i.size:=by
          cases xs with
          |nil=> simp at h3; omega
          |cons x0 xs=>
           rw[←hxs x0 (wG ..)];simp at hall;exact hall.1
         subst hsz;have hlen:((xs.take b).drop q).length=b - q:=by simp; omega
         have hx2:∀x∈xs.take b,x.cells.length=i.size:=fun x hx=> hxs x (wW hx);have hf:flat ((xs.take b).drop q)=((flat xs).take (b*i.size)).drop (q*i.size):=by
          rw[flat_drop q hx2 (by simp; omega),flat_take b hxs h3]
         have h4:=(hrs.take (b*i.size)).drop (q*i.size);rw[←hf]at h4;simp only[vI,zF];rw[←hlen];refine .imm (.isl _ _ _ _ i.size _ (by omega) hz (fun x hx=> hx2 x (vR hx)) h4.len (fun v hv=> ho v (wW (vR hv))) (fun j v hv=>?_) h4.at_);rw[gN,gH]at hv;split at hv
         ·rw[vC]; exact hm _ _ hv
         ·cases hv
      ·cases hu
     ·rename_i key uid off len s hx
      split at hu
      ·rename_i hsz
       cases hu;rw[hx]at h1 hn;simp only[lenV,wB]at hn;subst hn;rcases h1.of_sl with⟨rfl,base',hq2⟩|⟨cap',l,hl',hext,hcap,hz',hq2⟩
       ·rw[hq2]at hq
        cases hq;refine .of hs (run _ hq2) ?_;have e1:b - q=0:=by omega
        rw[e1];have e2:q=0:=by omega
        subst e2;simp;exact .sl0 ..
       ·rw[hq2]at hq
        cases hq;refine .of hs (run _ hq2) ?_;by_cases hne:cap=q
        ·rw[if_pos hne]
         have e1:b - q=0:=by omega
         have e2:cap - q=0:=by omega
         rw[e1,e2];exact .sl0 ..
        ·rw[if_neg hne]
         rcases hsz with hsz|hsz
         ·subst hsz
          simp only[vI,zF];have:=RV.sl (tbl:=tbl) (ι:=ι) (I:=I) key uid (off+q*i.size) (b - q) i.size (cap - q) l hl' (by
           have:q*i.size+(cap - q)*i.size=cap*i.size:=by rw[←Nat.add_mul]; congr 1; omega
           omega) (by omega) hz'
          rw[vC]; exact this
         ·subst hsz
          have e1:b=0:=by omega
          have e2:q=0:=by omega
          subst e1; subst e2;simp only[vI,zF,uE,yU,uF,Nat.sub_zero];exact .sl _ _ _ _ _ _ l hl' hext (by omega) hz'
      ·cases hu
     ·cases hu
 ·cases hev
theorem eqGuard_int{op:BinOp}{t:TypeId}{x y:Operand}{k k':IntKind}{p q:Int}:(Go.eqGuard op t x y (.int k p) (.int k' q)).run P w= .ok () w:=by
 have _hs0:=hs;have _he0:=he;unfold Go.eqGuard;cases op <;> simp
theorem eqGuard_str{op:BinOp}{t:TypeId}{x y:Operand}{p q:ByteArray}:(Go.eqGuard op t x y (.string p) (.string q)).run P w= .ok () w:=by
 have _hs0:=hs;have _he0:=he;unfold Go.eqGuard;cases op <;> simp
theorem eqGuard_bool{op:BinOp}{t:TypeId}{x y:Operand}{p q:Bool}:(Go.eqGuard op t x y (.bool p) (.bool q)).run P w= .ok () w:=by
 have _hs0:=hs;have _he0:=he;unfold Go.eqGuard;cases op <;> simp
theorem zB{op:BinOp}{t:TypeId}{x y:Operand}{p q:Option Addr}{n m n' m':Nat}:(Go.eqGuard op t x y (.slice p n m) (.slice q n' m')).run P w= .ok () w:=by
 have _hs0:=hs;have _he0:=he;unfold Go.eqGuard;cases op <;> simp
theorem binI_run{op:BinOp}{t:TypeId}{k:IntKind}{p q:Int}{v:V}(hb:binI op k p q=some v):∃c,(Go.binOp op t (.int k p) (.int k q)).run P w= .ok c w∧RV tbl ι I v c:=by
 have _hs0:=hs;have _he0:=he;cases op <;> simp only[binI]at hb
 all_goals first
  |(cases hb; refine⟨_,?_,.imm (.int _ _)⟩;(simp[Go.binOp,Go.Op.intArith]; done))
  |(cases hb; refine⟨_,?_,.imm (.bool _)⟩;(simp[Go.binOp,Go.Op.intCmp]; done))
  |(cases hb; refine⟨_,?_,.imm (.int _ _)⟩;(simp only[Go.binOp,Go.Op.intBits,ne_eq,not_true_eq_false,if_false,vO]; done))
  |(split at hb <;> first|(cases hb; done)|(rename_i hne; cases hb; refine⟨_,?_,.imm (.int _ _)⟩;(simp[Go.binOp,Go.Op.intDiv,hne]; done)))
  |(cases hb; done)
theorem equal_bool{t:TypeId}(ht:P.underlying t=some .bool)(p q:Bool):(Go.Op.equal t (.bool p) (.bool q)).run P w= .ok (p==q) w:=by
 have _hs0:=hs;have _he0:=he;have:∀d,(Go.Op.equalIn (d+1) t (.bool p) (.bool q)).run P w= .ok (p==q) w:=fun d=> by
  simp only[Go.Op.equalIn,wY,wF ht,wM,vO]
 exact this 9999
theorem zX{t el:TypeId}(ht:P.underlying t=some (.slice el))(x:Option Addr)(n m:Nat):(Go.Op.equal t (.slice x n m) (.slice none 0 0)).run P w= .ok x.isNone w:=by
 have _hs0:=hs;have _he0:=he;have:∀d,(Go.Op.equalIn (d+1) t (.slice x n m) (.slice none 0 0)).run P w= .ok x.isNone w:=fun d=> by
  cases x <;> simp only[Go.Op.equalIn,wY,wF ht,wM,vO] <;> rfl
 exact this 9999
theorem q_bin{t ty':TypeId}{kind:Nat}{op:BinOp}{x z:Operand}{y u:X}(hk:binKind P t=some kind)(hc:qO tbl x=some y)(hd:qO tbl z=some u)(hev:opEv call (.bin kind op y u) e h=some (v,h')):
  QRes P tbl ι I h w a ⟨dst,.binOp op t x z ty',ty,pos,af,gd⟩ v h':=by
 have h1:=qp he hc;have h2:=qp he hd;simp only[opEv]at hev;split at hev
 ·rename_i r hr
  obtain⟨rfl,rfl⟩:=qd hev;unfold binV at hr;split at hr
  ·-- numbers and strings
   split at hr
   ·rename_i k p k' q hx hy
    split at hr
    ·cases hr
    ·rename_i hneg
     cases hr;rw[hx]at h1; rw[hy]at h2;exact .of hs (c:= .int k (k.wrap (p*2^min q.toNat k.bits))) (by simp[execOp,h1.of_int,h2.of_int,eqGuard_int hs he,Go.binOp,Go.Op.shift,hneg]) (.imm (.int _ _))
   ·rename_i k p k' q hx hy
    split at hr
    ·cases hr
    ·rename_i hneg
     cases hr;rw[hx]at h1; rw[hy]at h2;exact .of hs (c:= .int k (p.fdiv (2^min q.toNat k.bits))) (by simp[execOp,h1.of_int,h2.of_int,eqGuard_int hs he,Go.binOp,Go.Op.shift,hneg]) (.imm (.int _ _))
   ·rename_i k p k' q hn1 hn2 hx hy
    split at hr
    ·rename_i hkk
     subst hkk;rw[hx]at h1; rw[hy]at h2;obtain⟨c,hc1,hc2⟩:=binI_run (P:=P) (t:=t) hs he hr;exact .of hs (c:=c) (by simp[execOp,h1.of_int,h2.of_int,eqGuard_int hs he,hc1]) hc2
    ·cases hr
   ·rename_i p q hx hy
    split at hr
    ·rename_i hle
     cases hr;rw[hx]at h1; rw[hy]at h2;obtain⟨s,hq,hsl⟩:=h1.of_str;obtain⟨s',hq',hsl'⟩:=h2.of_str;have h3:=str_size hsl;have h4:=str_size hsl';have h5:¬(9223372036854775807 < (s.size:Int)+(s'.size:Int)):=by rw[h3,h4]; omega
     exact .of hs (c:= .string (s++s')) (by simp[execOp,hq,hq',eqGuard_str hs he,Go.binOp,Go.Op.stringOp,h5]) (.imm (.str _ _ (by rw[←hsl,←hsl',←uB]; simp)))
    ·cases hr
   ·rename_i p q hx hy
    cases hr;rw[hx]at h1; rw[hy]at h2;obtain⟨s,hq,hsl⟩:=h1.of_str;obtain⟨s',hq',hsl'⟩:=h2.of_str;refine .of hs (c:= .bool (s.toList==s'.toList)) (by simp[execOp,hq,hq',eqGuard_str hs he,Go.binOp,Go.Op.stringOp]) ?_;rw[str_beq hsl hsl'];exact .imm (.bool _)
   ·rename_i p q hx hy
    cases hr;rw[hx]at h1; rw[hy]at h2;obtain⟨s,hq,hsl⟩:=h1.of_str;obtain⟨s',hq',hsl'⟩:=h2.of_str;refine .of hs (c:= .bool (!(s.toList==s'.toList))) (by simp[execOp,hq,hq',eqGuard_str hs he,Go.binOp,Go.Op.stringOp]) ?_;rw[str_beq hsl hsl'];exact .imm (.bool _)
   ·cases hr
  ·have hb:P.underlying t=some .bool:=by
    unfold binKind at hk; split at hk <;> first|assumption|(cases hk)
   split at hr
   ·rename_i p q hx hy
    cases hr;rw[hx]at h1; rw[hy]at h2;exact .of hs (c:= .bool (p==q)) (by simp[execOp,h1.of_bool,h2.of_bool,eqGuard_bool hs he,Go.binOp,equal_bool hs he hb]) (.imm (.bool _))
   ·rename_i p q hx hy
    cases hr;rw[hx]at h1; rw[hy]at h2;exact .of hs (c:= .bool (!(p==q))) (by simp[execOp,h1.of_bool,h2.of_bool,eqGuard_bool hs he,Go.binOp,equal_bool hs he hb]) (.imm (.bool _))
   ·cases hr
  ·have hb:∃el,P.underlying t=some (.slice el):=by
    unfold binKind at hk; split at hk <;> first|(exact⟨_,by assumption⟩)|(cases hk)
   obtain⟨el,hb⟩:=hb;split at hr
   ·rename_i hx hy
    cases hr;rw[hx]at h1; rw[hy]at h2;exact .of hs (c:= .bool true) (by simp[execOp,h1.of_nils,h2.of_nils,zB hs he,Go.binOp,zX hs he hb]) (.imm (.bool _))
   ·rename_i hx hy
    cases hr;rw[hx]at h1; rw[hy]at h2;exact .of hs (c:= .bool false) (by simp[execOp,h1.of_nils,h2.of_nils,zB hs he,Go.binOp,zX hs he hb]) (.imm (.bool _))
   ·rename_i p hx hy
    cases hr;rw[hx]at h1; rw[hy]at h2;rcases h1.of_isl with⟨q0,_⟩|⟨b,o,cap,sz,vs,hq,_⟩
    ·cases q0
    ·exact .of hs (c:= .bool false) (by simp[execOp,hq,h2.of_nils,zB hs he,Go.binOp,zX hs he hb]) (.imm (.bool _))
   ·rename_i p hx hy
    cases hr;rw[hx]at h1; rw[hy]at h2;rcases h1.of_isl with⟨q0,_⟩|⟨b,o,cap,sz,vs,hq,_⟩
    ·cases q0
    ·exact .of hs (c:= .bool true) (by simp[execOp,hq,h2.of_nils,zB hs he,Go.binOp,zX hs he hb]) (.imm (.bool _))
   ·rename_i k u o' n s' hx hy
    cases hr;rw[hx]at h1; rw[hy]at h2;rcases h1.of_sl with⟨q0,_⟩|⟨cap,l,_,_,_,_,hq⟩
    ·cases q0
    ·exact .of hs (c:= .bool false) (by simp[execOp,hq,h2.of_nils,zB hs he,Go.binOp,zX hs he hb]) (.imm (.bool _))
   ·rename_i k u o' n s' hx hy
    cases hr;rw[hx]at h1; rw[hy]at h2;rcases h1.of_sl with⟨q0,_⟩|⟨cap,l,_,_,_,_,hq⟩
    ·cases q0
    ·exact .of hs (c:= .bool true) (by simp[execOp,hq,h2.of_nils,zB hs he,Go.binOp,zX hs he hb]) (.imm (.bool _))
   ·rename_i hx hy
    cases hr;rw[hx]at h1; rw[hy]at h2;obtain⟨a',cap',hq⟩:=h1.of_islx;exact .of hs (c:= .bool false) (by simp[execOp,hq,h2.of_nils,zB hs he,Go.binOp,zX hs he hb]) (.imm (.bool _))
   ·cases hr
  ·rename_i n0 n1 n2
   exfalso;unfold binKind at hk; split at hk <;> cases hk <;> simp_all
 ·cases hev
end
end Rv
namespace Rv
open Go (IntKind BinOp UnOp Program Value Operand Oper Code TypeId Func World Addr Obj Act Calls execOp)
variable {tbl:Nat→Option Nat} {P:Program}
def zd(w:World)(b:Nat)(o:Obj):World:={w with heap:=w.heap.setIfInBounds b o}
theorem setCell_block{w:World}{b:Nat}{c:Array Value}{elem:TypeId}{fr:Nat×Nat}(h:w.heap[b]? =some (.cells c elem fr))(o:Nat)(v:Value):
  w.setCell ⟨b,o,none⟩ v=zd w b (.cells (c.setIfInBounds o v) elem fr):=by
 unfold World.setCell zd
 congr 1
 apply gS;intro i;rw[Array.getElem?_modify,gT];by_cases hi:b=i
 ·subst hi
  have hlt:=(gP.1 h).1;have hg:=(gP.1 h).2;simp[hlt,hg]
 ·simp[hi]
theorem setBlock_setBlock(w:World)(b:Nat)(o o':Obj):zd (zd w b o) b o'=zd w b o':=by
 unfold zd
 congr 1
 apply gS;intro i;simp only[gT];by_cases hi:b=i <;> simp[hi]
theorem ja{w:World}{b:Nat}{o:Obj}(h:b < w.heap.size):(zd w b o).heap[b]? =some o:=by
 unfold zd;simp[h]
theorem jq{w:World}{b k:Nat}{o:Obj}(h:b≠k):(zd w b o).heap[k]? =w.heap[k]?:=by
 unfold zd;simp[h]
theorem setBlock_size{w:World}{b:Nat}{o:Obj}:(zd w b o).heap.size=w.heap.size:=by simp[zd]
def over(c:Array Value)(o:Nat)(vs:List Value):Array Value:=(c.toList.take o++vs++c.toList.drop (o+vs.length)).toArray
theorem over_size{c:Array Value}{o:Nat}{vs:List Value}(h:o+vs.length≤c.size):(over c o vs).size=c.size:=by
 simp[over]; omega
theorem jr{c:Array Value}{o:Nat}{vs:List Value}(h:o+vs.length≤c.size)(i:Nat):(over c o vs)[i]? =if i < o then c[i]? else if i < o+vs.length then vs[i - o]? else c[i]?:=by
 unfold over;rw[List.getElem?_toArray,vE,gO,yG,wJ,yZ (by omega)];split
 ·rename_i hi; rw[gH,if_pos hi,gJ]
 ·rename_i hi
  rw[gO];split
  ·rename_i h2; rw[if_pos (by omega)]
  ·rename_i h2
   rw[if_neg (by omega),gN,gJ]
   congr 1
   omega
theorem zw(P:Program){b o:Nat}{elem:TypeId}{fr:Nat×Nat}:∀ (vs:List Value) (i:Nat) (c:Array Value) (w:World),w.heap[b]? =some (.cells c elem fr)→o+i+vs.length≤c.size→
  (∀j,j < vs.length→¬(fr.1≤o+i+j∧o+i+j < fr.2))→(∀v∈vs,v.oneCell'=true)→(Go.storeCells ⟨b,o,none⟩ vs i).run P w= .ok () (zd w b (.cells (over c (o+i) vs) elem fr))
 | [],i,c,w,h,_,_,_=> by
  have:over c (o+i) []=c:=by simp[over]
  rw[this];have e:zd w b (.cells c elem fr)=w:=by
   unfold zd;have:w.heap.setIfInBounds b (.cells c elem fr)=w.heap:=by
    apply gS;intro j;rw[gT];by_cases hj:b=j
    ·subst hj; have h1:=(gP.1 h).1; have h2:=(gP.1 h).2; simp[h1,h2]
    ·simp[hj]
   rw[this]
  rw[e]; rfl
 |v::vs,i,c,w,h,hl,hf,ho=> by
  have hlt:=(gP.1 h).1;have hi:o+i < c.size:=by simp at hl; omega
  have hcell:w.cell? ⟨b,o+i,none⟩=some c[o+i]:=by simp[World.cell?,h,hi]
  have hfz:w.frozen? ⟨b,o+i,none⟩=false:=by
   have:=hf 0 (by simp);simp only[World.frozen?,h];rw[Bool.eq_false_iff];intro hh;rw[wL,decide_eq_true_eq,decide_eq_true_eq]at hh;exact this (by simpa using hh)
  have ih:=zw P (b:=b) (o:=o) (elem:=elem) (fr:=fr) vs (i+1) (c.setIfInBounds (o+i) v) (zd w b (.cells (c.setIfInBounds (o+i) v) elem fr)) (ja hlt)
   (by simp at hl ⊢; omega) (fun j hj=> by have:=hf (j+1) (by simp; omega); rw[show o+(i+1)+j=o+i+(j+1) from by omega]; exact this) (fun u hu=> ho u (wI _ hu))
  rw[setBlock_setBlock]at ih;simp only[Go.storeCells,wY,zF];rw[Go.run_store P w _ v _ (ho v (wG ..)),hcell];simp only[hfz,wP,if_false,wM];rw[setCell_block h,ih]
  congr 3
  apply gS;intro j;rw[jr (by simp at hl ⊢; omega),jr hl];simp only[gT,vF];by_cases h1:j < o+i
  ·simp[h1,show j < o+(i+1) from by omega,show¬(o+i=j) from by omega]
  ·by_cases h2:j=o+i
   ·subst h2
    simp[hi,show o+i < o+(i+1) from by omega]
   ·have h3:¬j < o+(i+1):=by omega
    simp only[h1,h3,if_false];by_cases h4:j < o+(i+1)+vs.length
    ·rw[if_pos h4,if_pos (by omega),show j - (o+i)=(j - (o+(i+1)))+1 from by omega,List.getElem?_cons_succ]
    ·rw[if_neg h4,if_neg (by omega),if_neg (by omega)]
theorem post_row{ι κ:Iota}{I:Imm}{h h':Heap}{w:World}(hs:St tbl ι I h w){key uid uid':Nat}{cs cs':List V}{l l':Loc}(hent:h.ents[key]? =some (uid,some cs))(hl:ι key uid=some l)
  (he':h'.ents=h.ents.set key (uid',some cs')) (hclk:h.clk≤h'.clk) (hκ:ι.le κ) (hl':κ key uid'=some l') (hi:∀k u,(u < h.clk∨h'.clk≤u)→κ k u=ι k u)
  (hother:∀k u m,k≠key→κ k u=some m→ι k u=some m) (hb:l'.b=l.b) (h1:l.o≤l'.o) (h2:l'.o+l'.ext≤l.o+l.ext)
  {c c':Array Value} {elem:TypeId} {fr:Nat×Nat} (hc:w.heap[l.b]? =some (.cells c elem fr)) (hsz:c'.size=c.size) (hout:∀i,(i < l.o∨l.o+l.ext≤i)→c'[i]? =c[i]?)
  (hlen:cs'.length≤l'.ext) (hcells:∀ (i:Nat) x,cs'[i]? =some x→∃v,c'[l'.o+i]? =some v∧RV tbl κ I x v∧v.oneCell'=true):
  Post tbl ι I h w κ I h' (zd w l.b (.cells c' elem fr)):=by
 have hL:=hs.ent key uid cs l hent hl;have hkl:=gA hent;have hblt:=hL.size;have hcase:∀k u d m,h'.ents[k]? =some (u,some d)→κ k u=some m→(k=key∧u=uid'∧d=cs'∧m=l')∨(k≠key∧h.ents[k]? =some (u,some d)∧ι k u=some m):=by
  intro k u d m hk hm;rw[he',gK]at hk;split at hk
  ·rename_i e
   subst e;obtain⟨e1,e2⟩:=Prod.mk.inj (wA hk);obtain rfl:=wA e2;subst e1;rw[hl']at hm;cases hm;exact .inl ⟨rfl,rfl,rfl,rfl⟩
  ·rename_i e
   exact .inr ⟨fun e'=> e e'.symm,hk,hother _ _ _ (fun e'=> e e'.symm) hm⟩
 have hown:∀b i,zb κ h' b i→zb ι h b i:=by
  rintro b i ⟨k,u,d,m,hk,hm,m1,m2,m3⟩;rcases hcase k u d m hk hm with⟨rfl,rfl,rfl,rfl⟩|⟨_,hk,hm⟩
  ·exact⟨k,uid,cs,l,hent,hl,by rw[←m1,hb],by omega,by omega⟩
  ·exact⟨k,u,d,m,hk,hm,m1,m2,m3⟩
 obtain⟨hext,c0,elem0,fr0,hc0,hbd,hunf,_⟩:=hL;rw[hc]at hc0;cases hc0;refine⟨hi,hclk,Imm.le_refl _,⟨fun k u d m hk hm=>?_,fun k u d m k' u' d' m' hk hm hk' hm' hne=>?_,fun b o v hv=>?_,fun b o v hv hO=> hs.immsep b o v hv (hown _ _ hO)⟩,
  ⟨rfl,rfl,rfl,by rw[setBlock_size]; exact wE _,fun b hlt hno=>?_,fun b hlt cc el f hcc=>?_⟩,fun b i hO=> .inl (hown b i hO),fun b i v hv=> .inl hv⟩
 ·rcases hcase k u d m hk hm with⟨rfl,rfl,rfl,rfl⟩|⟨hne,hk,hm⟩
  ·refine⟨hlen,c',elem,fr,by rw[hb]; exact ja hblt,by omega,fun i hi' hh=>?_,hcells⟩
   exact hunf (m.o - l.o+i) (by omega) (by rw[show l.o+(m.o - l.o+i)=m.o+i from by omega]; exact hh)
  ·have hM:=hs.ent k u d m hk hm
   by_cases hmb:m.b=l.b
   ·obtain⟨he1,c1,e1,f1,hc1,hb1,hu1,hx1⟩:=hM
    rw[hmb,hc]at hc1;cases hc1;have hsep:=hs.sep k u d m key uid cs l hk hm hent hl hne;refine⟨he1,c',elem,fr,by rw[hmb]; exact ja hblt,by omega,hu1,fun i x hx=>?_⟩;obtain⟨v,a,r,o⟩:=hx1 i x hx;have hil:=gA hx;have hno:m.o+i < l.o∨l.o+l.ext≤m.o+i:=by
     apply vY;intro hh;exact hsep l.b (m.o+i) hmb (by omega) (by omega) rfl (by omega) (by omega)
    exact⟨v,by rw[hout _ hno]; exact a,r.mono hκ (Imm.le_refl _),o⟩
   ·exact Lies.mono (w:=w) hκ (Imm.le_refl _) (jq (fun e=> hmb e.symm)) hM
 ·rcases hcase k u d m hk hm with⟨rfl,rfl,rfl,rfl⟩|⟨hne1,hk1,hm1⟩<;> rcases hcase k' u' d' m' hk' hm' with⟨rfl,rfl,rfl,rfl⟩|⟨hne2,hk2,hm2⟩
  ·exact absurd rfl hne
  ·have:=hs.sep _ _ _ _ _ _ _ _ hent hl hk2 hm2 hne
   intro p i p1 p2 p3 p4 p5 p6;exact this p i (by rw[←hb]; exact p1) (by omega) (by omega) p4 p5 p6
  ·have:=hs.sep _ _ _ _ _ _ _ _ hk1 hm1 hent hl hne
   intro p i p1 p2 p3 p4 p5 p6;exact this p i p1 p2 p3 (by rw[←hb]; exact p4) (by omega) (by omega)
  ·exact hs.sep _ _ _ _ _ _ _ _ hk1 hm1 hk2 hm2 hne
 ·have h0:=hs.imm b o v hv
  by_cases hbb:b=l.b
  ·subst hbb
   have hno:¬(l.o≤o∧o < l.o+l.ext):=fun hh=> hs.immsep _ _ _ hv ⟨key,uid,cs,l,hent,hl,rfl,hh.1,hh.2⟩;simp only[World.cell?,hc]at h0;simp only[World.cell?,ja hblt];simp only[Option.isSome_none,wP,if_false]at h0 ⊢;rw[hout o (by omega)]; exact h0
  ·simp only[World.cell?]at h0 ⊢
   rw[jq (fun e=> hbb e.symm)];exact h0
 ·by_cases hbb:b=l.b
  ·subst hbb
   by_cases hz:l.ext=0
   ·have:c'=c:=by
     apply gS;intro i;exact hout i (by omega)
    rw[ja hblt,this,hc]
   ·exact absurd ⟨key,uid,cs,l,hent,hl,rfl,wE _,by omega⟩ (hno l.o)
  ·rw[jq (fun e=> hbb e.symm)]
 ·by_cases hbb:b=l.b
  ·subst hbb
   rw[hc]at hcc;cases hcc;exact⟨c',ja hblt,hsz,fun i hno=> hout i (by
    by_cases hh:l.o≤i∧i < l.o+l.ext
    ·exact absurd ⟨key,uid,cs,l,hent,hl,rfl,hh.1,hh.2⟩ hno
    ·omega)⟩
  ·exact⟨cc,by rw[jq (fun e=> hbb e.symm)]; exact hcc,rfl,fun _ _=> rfl⟩
theorem post_renew{ι:Iota}{I:Imm}{h:Heap}{w:World}(hs:St tbl ι I h w){key uid:Nat}{cs:List V}(hent:h.ents[key]? =some (uid,some cs))(hfr:ι key h.clk=none){cs':List V}{vs:List Value}(hv:RVs tbl ι I cs' vs)(ho:∀v∈vs,v.oneCell'=true)
  (more:List Value) (elem:TypeId) (d:Nat) (arr:Array Value) (ha:arr.toList=vs++more):
  Post tbl ι I h w (ι.set key h.clk ⟨w.heap.size,0,arr.size⟩) I (h.renew key cs') {w with heap:=w.heap.push (.cells arr elem),drawn:=d}:=by
 have hle:=Iota.set_le (l:=⟨w.heap.size,0,arr.size⟩) hfr;have hlen:vs.length≤arr.size:=by rw[←wJ,ha]; simp
 have hkl:=gA hent;have hcase:∀k u d' m,(h.renew key cs').ents[k]? =some (u,some d')→(ι.set key h.clk ⟨w.heap.size,0,arr.size⟩) k u=some m→
   (k=key∧u=h.clk∧d'=cs'∧m=⟨w.heap.size,0,arr.size⟩)∨(k≠key∧h.ents[k]? =some (u,some d')∧ι k u=some m):=by
  intro k u d' m hk hm;unfold Heap.renew at hk;simp only at hk;rw[gK]at hk;split at hk
  ·rename_i e
   subst e;obtain⟨e1,e2⟩:=Prod.mk.inj (wA hk);obtain rfl:=wA e2;subst e1;unfold Iota.set at hm;rw[if_pos ⟨rfl,rfl⟩]at hm;cases hm;exact .inl ⟨rfl,rfl,rfl,rfl⟩
  ·rename_i e
   unfold Iota.set at hm;rw[if_neg (fun hh=> e hh.1.symm)]at hm;exact .inr ⟨fun e'=> e e'.symm,hk,hm⟩
 have hown:∀b i,zb (ι.set key h.clk ⟨w.heap.size,0,arr.size⟩) (h.renew key cs') b i→zb ι h b i∨w.heap.size≤b:=by
  rintro b i ⟨k,u,d',m,hk,hm,m1,m2,m3⟩;rcases hcase k u d' m hk hm with⟨rfl,rfl,rfl,rfl⟩|⟨_,hk,hm⟩
  ·right; rw[←m1]; exact wE _
  ·exact .inl ⟨k,u,d',m,hk,hm,m1,m2,m3⟩
 have hbl:=below_push w (.cells arr elem) d;refine⟨fun k u hk=>?_,by simp[Heap.renew],Imm.le_refl _,⟨fun k u d' m hk hm=>?_,fun k u d1 m k' u' d2 m' hk hm hk' hm' hne=>?_,fun b o v hb=>?_,fun b o v hb hO=>?_⟩,
  ⟨rfl,rfl,rfl,hbl.size,fun b hlt _=> hbl.block b hlt,fun b hlt cc el f hcc=>⟨cc,by rw[hbl.block b hlt]; exact hcc,rfl,fun _ _=> rfl⟩⟩,hown,fun b i v hv=> .inl hv⟩
 ·unfold Iota.set
  rw[if_neg];rintro⟨rfl,rfl⟩;simp[Heap.renew]at hk;omega
 ·rcases hcase k u d' m hk hm with⟨rfl,rfl,rfl,rfl⟩|⟨hne,hk,hm⟩
  ·refine⟨by have:=hv.len; simp only; omega,arr,elem,(0,0),by simp,by simp,fun i _=> by simp,fun i x hx=>?_⟩
   obtain⟨v,hv1,hv2⟩:=hv.get hx;refine⟨v,?_,hv2.mono hle (Imm.le_refl _),ho v (gE hv1)⟩;have hi:=gA hv1;rw[wV,←gJ,ha,gC hi];exact hv1
  ·have hb:=(hs.ent _ _ _ _ hk hm)
   exact Lies.mono (w:=w) hle (Imm.le_refl _) (je w _ hb.size) hb
 ·rcases hcase _ _ _ _ hk hm with⟨rfl,rfl,rfl,rfl⟩|⟨hn1,hk1,hm1⟩<;> rcases hcase _ _ _ _ hk' hm' with⟨rfl,rfl,rfl,rfl⟩|⟨hn2,hk2,hm2⟩
  ·exact absurd rfl hne
  ·have:=(hs.ent _ _ _ _ hk2 hm2).size; intro b i b1 _ _ b2 _ _; simp only at b1; omega
  ·have:=(hs.ent _ _ _ _ hk1 hm1).size; intro b i b1 _ _ b2 _ _; simp only at b2; omega
  ·exact hs.sep _ _ _ _ _ _ _ _ hk1 hm1 hk2 hm2 hne
 ·have:=hs.imm b o v hb
  have hlt:=World.block_lt_of_cell? w _ this;simp only[World.cell?]at this ⊢;simp only at hlt;rw[je w _ hlt];exact this
 ·rcases hown b o hO with hO|hO
  ·exact hs.immsep b o v hb hO
  ·have hlt:=World.block_lt_of_cell? w _ (hs.imm b o v hb)
   simp only at hlt;omega
end Rv
namespace Rv
open Go (IntKind BinOp UnOp Program Value Operand Oper Code TypeId Func World Addr Obj Act Calls execOp)
variable {tbl:Nat→Option Nat} {P:Program}
theorem over_cons{c:Array Value}{o:Nat}{v:Value}{vs:List Value}(h:o+1+vs.length≤c.size):over (c.setIfInBounds o v) (o+1) vs=over c o (v::vs):=by
 apply gS;intro j;rw[jr (by simp; omega),jr (by simp; omega)];simp only[gT,vF];by_cases h1:j < o
 ·simp[h1,show j < o+1 from by omega,show¬(o=j) from by omega]
 ·by_cases h2:j=o
  ·subst h2
   simp[show j < c.size from by omega]
  ·have h3:¬j < o+1:=by omega
   simp only[h1,h3,if_false];by_cases h4:j < o+1+vs.length
   ·rw[if_pos h4,if_pos (by omega),show j - o=(j - (o+1))+1 from by omega,List.getElem?_cons_succ]
   ·rw[if_neg h4,if_neg (by omega),if_neg (by omega)]
theorem fold_over(off:Nat):∀ (ds:List Value) (k:Nat) (cs:Array Value),off+k+ds.length≤cs.size→(ds.zipIdx k).foldl (fun cs (x:Value×Nat)=> cs.setIfInBounds (off+x.2) x.1) cs=over cs (off+k) ds
 | [],k,cs,_=> by simp[over]
 |d::ds,k,cs,h=> by
  rw[List.zipIdx_cons,List.foldl_cons];simp only;rw[fold_over off ds (k+1) _ (by simp at h ⊢; omega),show off+(k+1)=off+k+1 from by omega,over_cons (by simp at h; omega)]
theorem over_rvs{ι:Iota}{I:Imm}{cs ds:List V}{arr:Array Value}{vs:List Value}{off:Nat}(h:RVs tbl ι I cs arr.toList)(hd:RVs tbl ι I ds vs)(hl:off+ds.length≤cs.length):
  RVs tbl ι I (cs.take off++ds++cs.drop (off+ds.length)) (over arr off vs).toList:=by
 unfold over;simp only[List.toList_toArray];rw[hd.len];exact((h.take off).append hd).append (h.drop _)
theorem over_mem{arr:Array Value}{vs:List Value}{off:Nat}(h1:∀v∈arr.toList,v.oneCell'=true)(h2:∀v∈vs,v.oneCell'=true):∀v∈(over arr off vs).toList,v.oneCell'=true:=by
 intro v hv;unfold over at hv;simp only[List.toList_toArray,wN]at hv;rcases hv with(hv|hv)|hv
 ·exact h1 v (wW hv)
 ·exact h2 v hv
 ·exact h1 v (vR hv)
theorem tupless_ne{x:V}(h:x.tupless=true):∀vs,x≠ .tup vs:=fun vs e=> by rw[e]at h; cases h
theorem fill_run{ι:Iota}{I:Imm}{e:Env}{a:Act}(he:RVe tbl ι I e a.tmps)(place:Nat→Option (Nat×Nat)):∀ (ps:List (Nat×Operand)) (l:List (Nat×Nat×X)) (cs cs':List V) (arr:Array Value),
  mapO (fun(p:Nat×Operand)=> match place p.1,qO tbl p.2 with|some (a,b),some x=> some (a,b,x)|_,_=> none) ps=some l→
  RVs tbl ι I cs arr.toList→(∀v∈arr.toList,v.oneCell'=true)→jX e l cs=some cs'→
  ∃arr',Go.Instr.fill place arr (ps.map fun p=>(p.1,a.eval p.2))=some arr'∧RVs tbl ι I cs' arr'.toList∧(∀v∈arr'.toList,v.oneCell'=true)
 | [],l,cs,cs',arr,hm,hr,ho,hf=> by
  simp only[mapO,wB]at hm;subst hm;simp only[jX,wB]at hf;subst hf;exact⟨arr,rfl,hr,ho⟩
 |p::ps,l,cs,cs',arr,hm,hr,ho,hf=> by
  simp only[mapO]at hm;split at hm
  ·rename_i y hy
   split at hm
   ·rename_i l' hl'
    cases hm;split at hy
    ·rename_i off size x hp hx
     cases hy;simp only[jX]at hf;split at hf
     ·rename_i hcond
      obtain⟨h1,h2,h3⟩:=hcond;have hrx:=qp he hx;obtain⟨hc1,hc2⟩:=hrx.cells (tupless_ne h3);have hsz:(a.eval p.2).cells.size=size:=by rw[←wJ,hc1.len,h1]
      have hlen:cs.length=arr.size:=by rw[←wJ,hr.len]
      obtain⟨arr',ha1,ha2,ha3⟩:=fill_run he place ps l' _ cs' (over arr off (a.eval p.2).cells.toList) hl'
       (by have:=over_rvs (off:=off) hr hc1 (by omega); rw[h1]at this; exact this) (over_mem ho hc2) hf
      refine⟨arr',?_,ha2,ha3⟩;have hfold:((a.eval p.2).cells.zipIdx.foldl (fun cs (x:Value×Nat)=> cs.setIfInBounds (off+x.2) x.1) arr)=over arr off (a.eval p.2).cells.toList:=by
       have:=fold_over off (a.eval p.2).cells.toList 0 arr (by rw[wJ]; omega);rw[yU]at this;rw[←this,←Array.foldl_toList,Array.toList_zipIdx]
      simp only[vB,Go.Instr.fill,hp];rw[if_neg (by simp[hsz]; omega)];rw[←ha1,←hfold]
     ·cases hf
    ·cases hy
   ·cases hm
  ·cases hm
theorem map_add_range(f:Nat→Value)(a b:Nat):(List.range (a+b)).map f=(List.range a).map f++(List.range b).map fun i=> f (a+i):=by
 induction b with
 |zero=> simp
 |succ b ih=> rw[←vC,List.range_succ,uB,ih,List.range_succ,uB]; simp
theorem range_self(z:Array Value):(List.range z.size).map (fun i=> z[i]!)=z.toList:=by
 apply List.ext_getElem?;intro i;rw[gG];rcases wS i z.size with h|h
 ·rw[List.getElem?_range h]; simp[h]
 ·rw[gF (by simpa using h),gF (by simpa using h)]; rfl
theorem jp(z:Array Value)(hz:0 < z.size):∀n:Nat,(List.range (n*z.size)).map (fun i=> z[i% z.size]!)=(List.replicate n z.toList).flatten
 |0=> by simp
 |n+1=> by
  rw[yT,map_add_range,jp z hz n,List.replicate_succ'];rw[List.flatten_append]
  congr 1
  simp only[yV,List.flatten_nil,uC];rw[←range_self z];apply yQ;intro i hi;rw[wX]at hi;rw[Nat.mul_comm,Nat.mul_add_mod,Nat.mod_eq_of_lt hi]
theorem zL{ι:Iota}{I:Imm}{z:List V}{vs:List Value}(h:RVs tbl ι I z vs):∀n:Nat,RVs tbl ι I (List.replicate n z).flatten (List.replicate n vs).flatten
 |0=> by simp; exact .nil
 |n+1=> by simp only[List.replicate_succ,yV]; exact h.append (zL h n)
theorem zR{vs:List Value}(h:∀v∈vs,v.oneCell'=true)(n:Nat):∀v∈(List.replicate n vs).flatten,v.oneCell'=true:=by
 intro v hv;rw[yX]at hv;obtain⟨l,hl,hv⟩:=hv;rw[List.eq_of_mem_replicate hl]at hv;exact h v hv
theorem xf{e:Env}:∀ {l:List (Nat×Nat×X)} {cs cs':List V},jX e l cs=some cs'→cs'.length=cs.length
 | [],cs,cs',h=> by simp only[jX,wB]at h; rw[h]
 |(off,size,x)::l,cs,cs',h=> by
  simp only[jX]at h;split at h
  ·rename_i hc
   have:=xf h;rw[this];simp[hc.1];omega
  ·cases h
theorem intV_rv{ι:Iota}{I:Imm}{x:V}{n:Int}{c:Value}(hn:intV x=some n)(h:RV tbl ι I x c):c= .int .i64 n:=by
 unfold intV at hn;split at hn
 ·cases hn; exact h.of_int
 ·cases hn
def WRes(P:Program)(tbl:Nat→Option Nat)(ι:Iota)(I:Imm)(h:Heap)(w:World)(a:Act)(go:Oper)(v:V)(h':Heap):Prop:=
 ∃c w' κ J,((execOp a.eval go).run P w= .ok (.value c) w'∨((execOp a.eval go).run P w= .ok .skip w'∧c=Go.undef))∧Post tbl ι I h w κ J h' w'∧RV tbl κ J v c
section
variable {ι:Iota} {I:Imm} {h h':Heap} {w:World} {a:Act} {e:Env} {v:V} {dst:Option Nat} {ty:TypeId} {pos:String} {af:Array Go.Edge} {gd:Option (Nat×Bool)} {call:Call}
variable (hs:St tbl ι I h w) (he:RVe tbl ι I e a.tmps)
include hs he
theorem map_pair(ps:Array (Nat×Operand)):(ps.map fun(i,x)=>(i,a.eval x)).toList=ps.toList.map fun p=>(p.1,a.eval p.2):=by
 have _hs0:=hs;have _he0:=he;simp
theorem q_buildA{t el:TypeId}{n:Nat}{i:Go.TypeInfo}{ps:Array (Nat×Operand)}{z:List V}{l:List (Nat×Nat×X)}(hz:ju P tbl t=some z)(ht:P.underlying t=some (.array n el))(hi:P.info? el=some i)
  (hm:mapO (fun(p:Nat×Operand)=> match(some (p.1*i.size,i.size):Option (Nat×Nat)),qO tbl p.2 with|some (a,b),some x=> some (a,b,x)|_,_=> none) ps.toList=some l)
  (hev:opEv call (.build z l) e h=some (v,h')):QRes P tbl ι I h w a ⟨dst,.build t ps,ty,pos,af,gd⟩ v h':=by
 obtain⟨j,zv,hj,hzv,h2,h3⟩:=zt hz;simp only[opEv]at hev;split at hev
 ·rename_i cs hcs
  obtain⟨rfl,rfl⟩:=qd hev;obtain⟨arr,h4,h5,h6⟩:=fill_run he (fun q=> some (q*i.size,i.size)) ps.toList l z cs zv.cells hm (h2 I).rv h3 hcs;refine .of hs (c:= .agg arr) ?_ ?_
  ·have hb:(Go.Instr.build t (ps.map fun(i,x)=>(i,a.eval x))).run P w= .ok (.agg arr) w:=by
    apply Go.run_build;unfold Program.built;rw[map_pair hs he];simp[hj,hzv,ht,Program.cellsOf,hi,h4]
   simp[execOp]at hb ⊢;simp[hb]
  ·have:=RV.agg (tbl:=tbl) (ι:=ι) (I:=I) cs arr.toList h5.len h6 h5.at_
   simpa using this
 ·cases hev
theorem places_mapM{fs:List Go.Field}(hall:∀f∈fs,(P.info? f.type).isSome=true):fs.mapM (fun f=>(P.info? f.type).map fun i=>(f.offset,i.size))=some (fs.map fun f=>(f.offset,P.cellsOf f.type)):=by
 have _hs0:=hs;have _he0:=he;induction fs with
 |nil=> rfl
 |cons f fs ih=>
  obtain⟨i,hi⟩:=Option.isSome_iff_exists.1 (hall f (wG ..));rw[List.mapM_cons,ih (fun g hg=> hall g (wI _ hg))];simp[hi,Program.cellsOf]
theorem q_buildS{t:TypeId}{fs:Array Go.Field}{ps:Array (Nat×Operand)}{z:List V}{l:List (Nat×Nat×X)}(hz:ju P tbl t=some z)(ht:P.underlying t=some (.struct fs))
  (hall:(fs.all fun f=>(P.info? f.type).isSome)=true)
  (hm:mapO (fun(p:Nat×Operand)=> match(match fs[p.1]? with|some f=>(match P.info? f.type with|some q=> some (f.offset,q.size)|none=> none)|none=> none:Option (Nat×Nat)),qO tbl p.2 with|some (a,b),some x=> some (a,b,x)|_,_=> none) ps.toList=some l)
  (hev:opEv call (.build z l) e h=some (v,h')):QRes P tbl ι I h w a ⟨dst,.build t ps,ty,pos,af,gd⟩ v h':=by
 obtain⟨j,zv,hj,hzv,h2,h3⟩:=zt hz;have hall':∀f∈fs.toList,(P.info? f.type).isSome=true:=fun f hf=> by
  rw[Array.all_eq_true_iff_forall_mem]at hall;exact hall f (by simpa using hf)
 simp only[opEv]at hev;split at hev
 ·rename_i cs hcs
  obtain⟨rfl,rfl⟩:=qd hev;obtain⟨arr,h4,h5,h6⟩:=fill_run he (fun q=> match fs[q]? with|some f=>(match P.info? f.type with|some q=> some (f.offset,q.size)|none=> none)|none=> none) ps.toList l z cs zv.cells hm (h2 I).rv h3 hcs;refine .of hs (c:= .agg arr) ?_ ?_
  ·have hb:(Go.Instr.build t (ps.map fun(i,x)=>(i,a.eval x))).run P w= .ok (.agg arr) w:=by
    apply Go.run_build;unfold Program.built;rw[map_pair hs he];simp only[hj,hzv,ht,places_mapM hs he hall'];rw[←h4]
    congr 1
    funext q;simp only[List.getElem?_toArray,gG,gJ];cases hq:fs[q]? with
    |none=> rfl
    |some f=>
     obtain⟨i,hi⟩:=Option.isSome_iff_exists.1 (hall' f (by simpa using Array.mem_of_getElem? hq));simp[hi,Program.cellsOf]
   simp[execOp]at hb ⊢;simp[hb]
  ·have:=RV.agg (tbl:=tbl) (ι:=ι) (I:=I) cs arr.toList h5.len h6 h5.at_
   simpa using this
 ·cases hev
theorem q_buildSlice(hfr:ι h.ents.length h.clk=none){t el:TypeId}{i:Go.TypeInfo}{n:Nat}{ps:Array (Nat×Operand)}{z:List V}{l:List (Nat×Nat×X)}(ht:P.underlying t=some (.slice el))(hi:P.info? el=some i)(hz:ju P tbl el=some z)
  (hzl:z.length=i.size) (h0:0 < i.size) (hle:n*i.size≤2^20)
  (hm:mapO (fun(p:Nat×Operand)=> match(some (p.1*i.size,i.size):Option (Nat×Nat)),qO tbl p.2 with|some (a,b),some x=> some (a,b,x)|_,_=> none) ps.toList=some l)
  (hev:opEv call (.buildSlice i.size n ((List.replicate n z).flatten) l) e h=some (v,h')):QRes P tbl ι I h w a ⟨dst,.buildSlice t n ps,ty,pos,af,gd⟩ v h':=by
 obtain⟨j,zv,hj,hzv,h2,h3⟩:=zt hz;rw[hi]at hj;cases hj;have hzs:zv.cells.size=i.size:=by rw[←wJ,(h2 I).len,hzl]
 simp only[opEv]at hev;split at hev
 ·rename_i cs hcs
  obtain⟨rfl,rfl⟩:=qd hev;have hbase:((Array.range (n*i.size)).map fun q=> zv.cells[q% zv.cells.size]!).toList=(List.replicate n zv.cells.toList).flatten:=by
   have:=jp zv.cells (by omega) n;rw[←this,hzs]; simp
  obtain⟨arr,h4,h5,h6⟩:=fill_run (I:=I) he (fun q=> some (q*i.size,i.size)) ps.toList l _ cs ((Array.range (n*i.size)).map fun q=> zv.cells[q% zv.cells.size]!) hm
   (by rw[hbase]; exact zL (h2 I).rv n) (by rw[hbase]; exact zR h3 n) hcs
  have hp:=xu hs hfr h5 h6 [] el w.drawn arr (by simp);refine⟨.slice (some ⟨w.heap.size,0,none⟩) n n,_,_,_,?_,hp,?_⟩
  ·have hn:¬(16777216 < n*i.size):=by omega
   rw[←map_pair hs he]at h4;by_cases hne:n*i.size=0
   ·have e1:((Array.range (n*i.size)).map fun q=> zv.cells[q% zv.cells.size]!)= #[]:=by rw[hne]; apply yS; simp
    rw[e1]at h4;simp only[execOp,Go.Instr.buildSlice,wY,wF ht,wM,qE hi];rw[if_neg (by omega),if_pos hne];have e2:((Array.range (n*i.size)).map fun q=>(#[]:Array Value)[q%(#[]:Array Value).size]!)= #[]:=by rw[hne]; apply yS; simp
    simp only[wY,vO,wM,e2,h4,Go.newRow];rfl
   ·simp only[execOp,Go.Instr.buildSlice,wY,wF ht,wM,qE hi]
    rw[if_neg (by omega),if_neg hne];simp only[wY,vO,wM,zm hi hzv,h4,Go.newRow];rfl
  ·have hal:arr.size=n*i.size:=by
    have:arr.toList.length=cs.length:=h5.len;have h7:=xf hcs;rw[←wJ,this,h7];simp[hzl]
   have:=RV.sl (tbl:=tbl) (ι:=ι.set h.ents.length h.clk ⟨w.heap.size,0,arr.size⟩) (I:=I) h.ents.length h.clk 0 n i.size n ⟨w.heap.size,0,arr.size⟩ (by simp[Iota.set]) (by simp[hal]) (wE _) h0;simpa using this
 ·cases hev
theorem q_makeSlice(hfr:ι h.ents.length h.clk=none){t el:TypeId}{i:Go.TypeInfo}{x z:Operand}{y u:X}{zs:List V}(ht:P.underlying t=some (.slice el))(hi:P.info? el=some i)(hz:ju P tbl el=some zs)
  (hzl:zs.length=i.size) (h0:0 < i.size) (hc:qO tbl x=some y) (hd:qO tbl z=some u) (hev:opEv call (.makeSlice i.size i.bytes zs y u) e h=some (v,h')):QRes P tbl ι I h w a ⟨dst,.makeSlice t x z,ty,pos,af,gd⟩ v h':=by
 have h1:=qp he hc;have h2:=qp he hd;obtain⟨j,zv,hj,hzv,h3,h4⟩:=zt hz;rw[hi]at hj;cases hj;have hzs:zv.cells.size=i.size:=by rw[←wJ,(h3 I).len,hzl]
 simp only[opEv]at hev;split at hev
 ·rename_i n m hn hm
  split at hev
  ·rename_i hcond
   obtain⟨rfl,n0,nb,n40,_⟩:=hcond;obtain⟨rfl,rfl⟩:=qd hev;have e1:a.eval x= .int .i64 n:=intV_rv hn h1;have e2:a.eval z= .int .i64 n:=intV_rv hm h2;have hb:(i.bytes:Int)*n≤281474976710656:=by
    rw[Int.mul_comm]; omega
   have hr:=Go.run_make (P:=P) w t el i zv ht hi hzv .i64 .i64 n n n0 (yE _) hb (by omega);have hbase:(Go.madeCells zv.cells (n.toNat*i.size)).toList=(List.replicate n.toNat zv.cells.toList).flatten:=by
    have:=jp zv.cells (by omega) n.toNat;rw[←this,hzs]; simp[Go.madeCells,hzs]
   have hp:=xu hs hfr (zL (h3 I).rv n.toNat) (zR h4 n.toNat) [] el w.drawn (Go.madeCells zv.cells (n.toNat*i.size)) (by rw[hbase]; simp);refine⟨.slice (some ⟨w.heap.size,0,none⟩) n.toNat n.toNat,_,_,_,?_,hp,?_⟩
   ·simp[execOp,e1,e2,hr]
   ·have:=RV.sl (tbl:=tbl) (ι:=ι.set h.ents.length h.clk ⟨w.heap.size,0,(Go.madeCells zv.cells (n.toNat*i.size)).size⟩) (I:=I) h.ents.length h.clk 0 n.toNat i.size n.toNat ⟨w.heap.size,0,(Go.madeCells zv.cells (n.toNat*i.size)).size⟩ (by simp[Iota.set]) (by simp[Go.size_madeCells]) (wE _) h0
    simpa using this
  ·cases hev
 ·cases hev
theorem w_store{t:TypeId}{i:Go.TypeInfo}{x z:Operand}{y u:X}(hi:P.info? t=some i)(hc:qO tbl x=some y)(hd:qO tbl z=some u)(hev:opEv call (.store i.size y u) e h=some (v,h')):
  WRes P tbl ι I h w a ⟨dst,.store t x z,ty,pos,af,gd⟩ v h':=by
 have h1:=qp he hc;have h2:=qp he hd;simp only[opEv]at hev;split at hev
 ·rename_i key uid off hx
  split at hev
  ·rename_i cs hg
   split at hev
   ·rename_i hcond
    obtain⟨c1,c2,c3⟩:=hcond;obtain⟨rfl,rfl⟩:=qd hev;rw[hx]at h1;obtain⟨l,hl,hq⟩:=h1.of_ptr;obtain⟨r1,r2⟩:=h2.cells (tupless_ne c3);have hL:=hs.get hg hl;obtain⟨hext,c,elem,fr,g1,g2,g3,g4⟩:=hL;have hlen:(a.eval z).cells.size=i.size:=by rw[←wJ,r1.len,c1]
    have hrun:=zw P (b:=l.b) (o:=l.o+off) (elem:=elem) (fr:=fr) (a.eval z).cells.toList 0 c w g1 (by rw[wJ]; omega)
     (fun j hj=> by rw[wJ]at hj; have:=g3 (off+j) (by omega); rw[show l.o+off+0+j=l.o+(off+j) from by omega]; exact this) r2
    rw[yU]at hrun;refine⟨Go.undef,zd w l.b (.cells (over c (l.o+off) (a.eval z).cells.toList) elem fr),ι,I,.inr ⟨?_,rfl⟩,?_,.undef⟩
    ·simp[execOp,Go.Instr.storeAt,Go.Instr.sureAddr,hq,Go.storeVar,qE hi,hlen]
     rw[hrun]; rfl
    ·refine post_row (c:=c) (c':=over c (l.o+off) (a.eval z).cells.toList) (h':=h.put key uid (cs.take off++(X.ev e u).cells++cs.drop (off+i.size))) hs (zz hg) hl (uid':=uid) (cs':=cs.take off++(X.ev e u).cells++cs.drop (off+i.size)) (l':=l) rfl (wE _) (Iota.le_refl _) hl (fun _ _ _=> rfl) (fun _ _ _ _ h=> h) rfl (wE _) (wE _) g1
      (over_size (by rw[wJ]; omega)) (fun j hj=>?_) (by simp; omega) (fun j x hx'=>?_)
     ·rw[jr (by rw[wJ]; omega),wJ]
      rcases hj with hj|hj
      ·rw[if_pos (by omega)]
      ·rw[if_neg (by omega),if_neg (by omega)]
     ·rw[jr (by rw[wJ]; omega),wJ,hlen]
      rw[vE,gO]at hx';simp only[yG]at hx';rw[yZ (by omega)]at hx';split at hx'
      ·rename_i hj
       rw[gH,if_pos hj]at hx';rw[if_pos (by omega)];exact g4 j x hx'
      ·rename_i hj
       rw[gO]at hx';split at hx'
       ·rename_i hj2
        rw[c1]at hj2;obtain⟨cv,hcv,hr⟩:=r1.get hx';rw[if_neg (by omega),if_pos (by omega),show l.o+j - (l.o+off)=j - off from by omega];exact⟨cv,hcv,hr,r2 cv (gE hcv)⟩
       ·rename_i hj2
        rw[c1]at hj2 hx';rw[gN]at hx';rw[if_neg (by omega),if_neg (by omega)];have:=g4 (off+i.size+(j - off - i.size)) x hx';rw[show l.o+(off+i.size+(j - off - i.size))=l.o+j from by omega]at this;exact this
   ·cases hev
  ·cases hev
 ·cases hev
end
end Rv
namespace Rv
open Go (IntKind BinOp UnOp Program Value Operand Oper Code TypeId Func World Addr Obj Act Calls execOp)
variable {tbl:Nat→Option Nat} {P:Program}
structure Src (P:Program) (tbl:Nat→Option Nat) (ι:Iota) (I:Imm) (w:World) (sz n:Nat) (ds:List V) (c:Value) (vs:List Value):Prop where
 lenOf:∀W:World,(Go.Builtin.lenOf c).run P W= .ok n W
 first:∀W:World,W.heap=w.heap→∀m,m≤n→(Go.Builtin.firstCells sz m c).run P W= .ok (vs.take (m*sz)).toArray W
 rvs:RVs tbl ι I ds vs
 ones:∀v∈vs,v.oneCell'=true
 len:ds.length=n*sz
theorem cell_heap{w W:World}(h:W.heap=w.heap)(a:Addr):W.cell? a=w.cell? a:=by unfold World.cell?; rw[h]
theorem jU{W:World}{b o sz m len cap:Nat}{vs:List Value}(hl:m*sz≤vs.length)(h:∀ (j:Nat) v,vs[j]? =some v→W.cell? ⟨b,o+j,none⟩=some v):
  (Go.Builtin.firstCells sz m (.slice (some ⟨b,o,none⟩) len cap)).run P W= .ok (vs.take (m*sz)).toArray W:=by
 have e:(vs.take (m*sz)).length=m*sz:=by simp; omega
 have hr:=Go.run_loadCells_list (P:=P) W ⟨b,o,none⟩ (vs.take (m*sz)) (fun j v hj=> by
  rw[zF];rw[gH]at hj;split at hj
  ·exact h j v hj
  ·cases hj)
 rw[e]at hr;simp only[Go.Builtin.firstCells];exact hr
theorem zq{W:World}{sz:Nat}{a:Option Addr}{len cap:Nat}:(Go.Builtin.firstCells sz 0 (.slice a len cap)).run P W= .ok #[] W:=by
 cases a with
 |none=> simp[Go.Builtin.firstCells]
 |some a=>
  simp only[Go.Builtin.firstCells,uE];rfl
section
variable {ι:Iota} {I:Imm} {h h':Heap} {w:World} {a:Act} {e:Env} {v:V} {dst:Option Nat} {ty:TypeId} {pos:String} {af:Array Go.Edge} {gd:Option (Nat×Bool)} {call:Call}
variable (hs:St tbl ι I h w)
include hs
theorem srcV_spec{sz n:Nat}{y:V}{c:Value}{ds:List V}(hy:RV tbl ι I y c)(hv:srcV h sz y=some (n,ds)):∃vs,Src P tbl ι I w sz n ds c vs:=by
 unfold srcV at hv;split at hv
 ·cases hv
  have:=hy.of_nils;subst this;refine⟨[],fun W=> by simp[Go.Builtin.lenOf],fun W hW m hm=>?_,.nil,fun v hv=> by simp at hv,by simp⟩;obtain rfl:m=0:=by omega
  rw[zq]; simp
 ·cases hv
  obtain⟨a',cap',rfl⟩:=hy.of_islx;refine⟨[],fun W=> by simp[Go.Builtin.lenOf],fun W hW m hm=>?_,.nil,fun v hv=> by simp at hv,by simp⟩;obtain rfl:m=0:=by omega
  rw[zq]; simp
 ·rename_i xs
  split at hv
  ·rename_i hl
   cases hv;rcases hy.of_isl with⟨rfl,q,cap,rfl,hcn⟩|⟨b,o,cap,s,vs,rfl,hcap,hz,hxs,hr,ho,hm⟩
   ·refine⟨[],fun W=> by simp[Go.Builtin.lenOf],fun W hW m hm=>?_,.nil,fun v hv=> by simp at hv,by simp[flat]⟩
    obtain rfl:m=0:=by simpa using hm
    rw[zq]; simp
   ·refine⟨vs,fun W=> by simp[Go.Builtin.lenOf],fun W hW m hm'=>?_,hr.rv,ho,hl⟩
    exact jU (by rw[hr.len,hl]; exact yB _ hm') (fun j v hj=> by rw[cell_heap hW]; exact hs.imm _ _ _ (hm j v hj))
  ·cases hv
 ·rename_i key uid off len s
  split at hv
  ·rename_i cs hg
   split at hv
   ·rename_i hc
    cases hv;rcases hy.of_sl with⟨rfl,q,rfl⟩|⟨cap,l,hl,hext,hcap,hz,rfl⟩
    ·refine⟨[],fun W=> by simp[Go.Builtin.lenOf],fun W hW m hm=>?_,by simp; exact .nil,fun v hv=> by simp at hv,by simp⟩
     obtain rfl:m=0:=by omega
     rw[zq]; simp
    ·obtain⟨vs,v1,v2,v3⟩:=(hs.get hg hl).list off
     have hdl:((cs.drop off).take (n*sz)).length=n*sz:=by simp; omega
     have h1:=v1.take (n*sz);refine⟨vs.take (n*sz),fun W=> by simp[Go.Builtin.lenOf],fun W hW m hm=>?_,h1,fun v hv=> v2 v (wW hv),hdl⟩;have hmn:=yB sz hm;refine jU (by rw[h1.len,hdl]; exact hmn) (fun j v hj=>?_);rw[cell_heap hW];rw[gH]at hj;split at hj
     ·exact v3 j v hj
     ·cases hj
   ·cases hv
  ·cases hv
 ·rename_i l
  split at hv
  ·rename_i h1
   subst h1;cases hv;obtain⟨s,rfl,hsl⟩:=hy.of_str;have hsz:=str_size hsl;refine⟨s.data.toList.map fun b=> .int .u8 b.toNat,fun W=> by simp[Go.Builtin.lenOf,hsz],fun W hW m hm=>?_,?_,fun v hv=>?_,by simp⟩
   ·simp only[Go.Builtin.firstCells,vO,yD]
    congr 1
    apply yS;rw[Array.toList_map,Go.Lib.extract_data];simp
   ·rw[←hsl,List.map_map]
    refine⟨by simp,fun i x z hx hz=>?_⟩;rw[gG]at hx hz;cases hq:s.data.toList[i]? with
    |none=> rw[hq]at hx; cases hx
    |some b=> rw[hq]at hx hz; cases hx; cases hz; exact .imm (.int _ _)
   ·rw[wQ]at hv
    obtain⟨b,_,rfl⟩:=hv;rfl
  ·cases hv
 ·cases hv
end
theorem zeroCells_eq(z:Value)(n:Nat)(hz:0 < z.cells.size):(Go.Builtin.zeroCells z.cells n).toList=(List.replicate n z.cells.toList).flatten:=by
 rw[←jp z.cells hz n];simp[Go.Builtin.zeroCells]
theorem jz(n:Nat)(l:List Value):(List.replicate n l).flatten.length=n*l.length:=by simp
structure App (P:Program) (w:World) (t u el ty:TypeId) (i:Go.TypeInfo) (c:Value) (n:Nat) (vs:List Value):Prop where
 put:∀ (base:Option Addr) (sLen sCap:Nat),sLen+n≤sCap→
  (Go.Builtin.append_ #[t,u] ty #[.slice base sLen sCap,c]).run P w=
   (((match base with|some a=> Go.storeCells (a.add (sLen*i.size)) vs|none=> pure ()):Go.Sem Unit).run P w).andThen fun _ w'=> .ok (.slice base (sLen+n) sCap) w'
 grow:∀ (base:Option Addr) (sLen sCap:Nat) (old:List Value),¬(sLen+n≤sCap)→sLen+n≤2^40→(sLen+n)*i.bytes≤2^40→old.length=sLen*i.size→
  (Go.Builtin.firstCells i.size sLen (.slice base sLen sCap)).run P w.drew= .ok old.toArray w.drew→
  ∃ (arr:Array Value) (cap:Nat) (more:List Value),(Go.Builtin.append_ #[t,u] ty #[.slice base sLen sCap,c]).run P w=
    .ok (.slice (some ⟨w.heap.size,0,none⟩) (sLen+n) cap) (w.drew.alloc (.cells arr el))∧arr.toList=(old++vs)++more∧sLen+n≤cap∧arr.size=cap*i.size
theorem le_grownCap(w:World)(need old:Nat)(el:TypeId):need≤Go.grownCap w need old el:=by
 simp[Go.grownCap,Go.Question.cut]
theorem grow_arr{z:Value}{i:Go.TypeInfo}(hzs:z.cells.size=i.size)(h0:0 < i.size){need cap:Nat}{old vs:List Value}(h1:(old++vs).length=need*i.size)(hc:need≤cap):
  ∃more,(old.toArray++(vs.toArray++Go.Builtin.zeroCells z.cells (cap - need))).toList=(old++vs)++more∧(old.toArray++(vs.toArray++Go.Builtin.zeroCells z.cells (cap - need))).size=cap*i.size:=by
 refine⟨(Go.Builtin.zeroCells z.cells (cap - need)).toList,by simp,?_⟩;have h2:(Go.Builtin.zeroCells z.cells (cap - need)).size=(cap - need)*i.size:=by
  rw[←wJ,zeroCells_eq z _ (by omega),jz,wJ,hzs]
 simp only[Array.size_append,h2,List.size_toArray];rw[wR]at h1;have:(cap - need)*i.size+need*i.size=cap*i.size:=by rw[←Nat.add_mul]; congr 1; omega
 omega
theorem app_src{ι:Iota}{I:Imm}{w:World}{t u el ty:TypeId}{i:Go.TypeInfo}{z c:Value}{n:Nat}{ds:List V}{vs:List Value}(ht:P.underlying t=some (.slice el))(hu:(∃e',P.underlying u=some (.slice e'))∨P.underlying u=some .string)(hi:P.info? el=some i)
  (hz:i.zero=some z) (hzs:z.cells.size=i.size) (h0:0 < i.size) (hsrc:Src P tbl ι I w i.size n ds c vs):App P w t u el ty i c n vs:=by
 have hvl:vs.length=n*i.size:=by rw[hsrc.rvs.len,hsrc.len]
 have hf:∀W:World,W.heap=w.heap→(Go.Builtin.firstCells i.size n c).run P W= .ok vs.toArray W:=fun W hW=> by
  rw[hsrc.first W hW n (wE _),wT (by omega)]
 refine⟨fun base sLen sCap hle=>?_,fun base sLen sCap old hle h40 hb hol hold=>?_⟩
 ·cases base with
  |none=>
   rcases hu with⟨e',hu⟩|hu <;> simp[Go.Builtin.append_,wF ht,wF hu,qE hi,hsrc.lenOf,hle,hf w rfl]
  |some q=>
   rcases hu with⟨e',hu⟩|hu <;> simp[Go.Builtin.append_,wF ht,wF hu,qE hi,hsrc.lenOf,hle,hf w rfl]
 ·have h63:¬(9223372036854775807 < ((sLen:Int)+(n:Int))):=by omega
  have hg:=Go.growslice_fits (need:=sLen+n) (old:=sCap) (bytes:=i.bytes) (by omega) (by omega);have h48:¬(281474976710656 < Go.Builtin.nextslicecap (sLen+n) sCap*i.bytes):=by omega
  have hfd:=hf w.drew rfl;have hcap:=le_grownCap w (sLen+n) sCap el;obtain⟨more,hm1,hm2⟩:=grow_arr (old:=old) (vs:=vs) hzs h0 (by rw[wR,hol,hvl,Nat.add_mul]) hcap;refine⟨_,Go.grownCap w (sLen+n) sCap el,more,?_,hm1,hcap,hm2⟩;rcases hu with⟨e',hu⟩|hu <;> simp[Go.Builtin.append_,wF ht,wF hu,qE hi,jb hi,zm hi hz,hsrc.lenOf,hle,h63,h48,Go.Question.forced,hfd,hold,Go.newRow,Go.grownCap]
theorem app_zero{w:World}{t u el ty:TypeId}{i:Go.TypeInfo}{z:Value}{k uk:IntKind}{m:Int}(ht:P.underlying t=some (.slice el))(hu:P.underlying u=some (.int uk))(hi:P.info? el=some i)
  (hz:i.zero=some z) (hzs:z.cells.size=i.size) (h0:0 < i.size) (m0:0≤m) (m40:m≤2^40) (mb:m*i.bytes≤2^40):App P w t u el ty i (.int k m) m.toNat (List.replicate m.toNat z.cells.toList).flatten:=by
 have wm:IntKind.i64.wrap m=m:=by rw[Go.IntKind.wrap_i64]; omega
 have hne:¬m < 0:=by omega
 have hb:¬(281474976710656 < m*(i.bytes:Int)):=by omega
 have hcells:=zeroCells_eq z m.toNat (by omega);have happ:∀W:World,(if m.toNat*i.size=0 then Go.Result.ok (#[]:Array Value) W else Go.Result.ok (Go.Builtin.zeroCells z.cells m.toNat) W)= .ok (Go.Builtin.zeroCells z.cells m.toNat) W:=fun W=> by
  split
  ·rename_i hm
   have hmz:m.toNat=0:=by rcases Nat.mul_eq_zero.1 hm with h|h <;> omega
   rw[hmz]
   congr 1
   apply yS;simp[Go.Builtin.zeroCells]
  ·rfl
 have hcl:((List.replicate m.toNat z.cells.toList).flatten).toArray=Go.Builtin.zeroCells z.cells m.toNat:=by
  apply yS; rw[hcells]
 refine⟨fun base sLen sCap hle=>?_,fun base sLen sCap old hle h40 hb' hol hold=>?_⟩
 ·cases base with
  |none=> simp[Go.Builtin.append_,wF ht,wF hu,qE hi,jb hi,zm hi hz,hle,Go.asInt,Go.asIntOf,wm,hne,hb,happ,hcells]
  |some q=>
   simp[Go.Builtin.append_,wF ht,wF hu,qE hi,jb hi,zm hi hz,hle,Go.asInt,Go.asIntOf,wm,hne,hb,happ,hcells];intro hm;have hmz:m.toNat=0:=by rcases Nat.mul_eq_zero.1 hm with h|h <;> omega
   rw[hmz];simp
 ·have h63:¬(9223372036854775807 < ((sLen:Int)+max m 0)):=by omega
  have hg:=Go.growslice_fits (need:=sLen+m.toNat) (old:=sCap) (bytes:=i.bytes) (by omega) (by omega);have h48:¬(281474976710656 < Go.Builtin.nextslicecap (sLen+m.toNat) sCap*i.bytes):=by omega
  have hcap:=le_grownCap w (sLen+m.toNat) sCap el;obtain⟨more,hm1,hm2⟩:=grow_arr (old:=old) (vs:=(List.replicate m.toNat z.cells.toList).flatten) hzs h0 (by rw[wR,hol,jz,wJ,hzs,Nat.add_mul]) hcap;refine⟨_,Go.grownCap w (sLen+m.toNat) sCap el,more,?_,hm1,hcap,hm2⟩;simp[Go.Builtin.append_,wF ht,wF hu,qE hi,jb hi,zm hi hz,hle,Go.asInt,Go.asIntOf,wm,hne,hb,h63,h48,Go.Question.forced,hold,Go.newRow,Go.grownCap,happ,hcl];intro hm;have hmz:m.toNat=0:=by rcases Nat.mul_eq_zero.1 hm with h|h <;> omega
  rw[hmz];have:Go.Builtin.zeroCells z.cells 0= #[]:=by apply yS; simp[Go.Builtin.zeroCells]
  rw[this];simp
section
variable {ι:Iota} {I:Imm} {h h':Heap} {w:World} {a:Act} {e:Env} {v:V} {dst:Option Nat} {ty:TypeId} {pos:String} {af:Array Go.Edge} {gd:Option (Nat×Bool)} {call:Call}
variable (hs:St tbl ι I h w)
include hs
theorem appendV_run(hfr:zM ι h){t u el:TypeId}{i:Go.TypeInfo}{x:V}{c d:Value}{n:Nat}{ds:List V}{vs:List Value}(h0:0 < i.size)(happ:App P w t u el ty i d n vs)(hx:RV tbl ι I x c)
  (hd:RVs tbl ι I ds vs) (ho:∀v∈vs,v.oneCell'=true) (hl:ds.length=n*i.size) (hev:za i.size i.bytes x n ds h=some (v,h')):
  ∃c' w' κ,(Go.Builtin.append_ #[t,u] ty #[c,d]).run P w= .ok c' w'∧Post tbl ι I h w κ I h' w'∧RV tbl κ I v c':=by
 have hvl:vs.length=n*i.size:=by rw[hd.len,hl]
 unfold za at hev;split at hev
 ·rename_i hn
  subst hn;have hvs:vs=[]:=by rw[uE]at hvl; exact wU hvl
  subst hvs;have run0:∀base sLen sCap,sLen≤sCap→(Go.Builtin.append_ #[t,u] ty #[.slice base sLen sCap,d]).run P w= .ok (.slice base sLen sCap) w:=fun base sLen sCap hle=> by
   rw[happ.put base sLen sCap (by simpa using hle)];cases base <;> rfl
  split at hev
  ·obtain⟨rfl,rfl⟩:=qd hev
   have:=hx.of_nils;subst this;exact⟨_,w,ι,run0 _ _ _ (wE _),(QPost.refl hs).post hs (fun _ _ h1 h2=> by omega),hx⟩
  ·obtain⟨rfl,rfl⟩:=qd hev
   rcases hx.of_sl with⟨rfl,q,rfl⟩|⟨cap,l,hl',hext,hcap,hz,rfl⟩
   ·exact⟨_,w,ι,run0 _ _ _ (wE _),(QPost.refl hs).post hs (fun _ _ h1 h2=> by omega),hx⟩
   ·exact⟨_,w,ι,run0 _ _ _ hcap,(QPost.refl hs).post hs (fun _ _ h1 h2=> by omega),hx⟩
  ·cases hev
 ·rename_i hn
  split at hev
  ·split at hev
   ·rename_i hcond
    obtain⟨rfl,rfl⟩:=qd hev;have:=hx.of_nils;subst this;obtain⟨arr,cap,more,h1,h2,h3,h4⟩:=happ.grow none 0 0 [] (by omega) (by omega) (by rw[wV]; exact hcond.1) (by simp) (by rw[zq]);have hfr0:ι h.ents.length h.clk=none:=hfr _ _ (wE _);have hp:=xu hs hfr0 hd ho more el (w.drawn+1) arr (by simpa using h2);refine⟨_,_,_,h1,hp.post hs (fun k q a1 a2=> hfr _ _ a1),?_⟩;have:=RV.sl (tbl:=tbl) (ι:=ι.set h.ents.length h.clk ⟨w.heap.size,0,arr.size⟩) (I:=I) h.ents.length h.clk 0 n i.size cap ⟨w.heap.size,0,arr.size⟩ (by simp[Iota.set]) (by simp[h4]) (by omega) h0;simpa using this
   ·cases hev
  ·rename_i key uid off len s
   split at hev
   ·rename_i cs hg
    split at hev
    ·rename_i hcond
     obtain⟨c1,c2,c3,c4⟩:=hcond;obtain⟨rfl,rfl⟩:=qd hev;have hkf:ι key h.clk=none:=hfr _ _ (wE _);rcases hx.of_sl with⟨rfl,q,rfl⟩|⟨cap,l,hl',hext,hcap,hz,rfl⟩
     ·obtain⟨arr,cap,more,h1,h2,h3,h4⟩:=happ.grow q 0 0 [] (by omega) c4 c3 (by simp) (by rw[zq])
      have hp:=post_renew (cs':=ds) hs (zz hg) hkf hd ho more el (w.drawn+1) arr (by simpa using h2);refine⟨_,_,ι.set key h.clk ⟨w.heap.size,0,arr.size⟩,h1,?_,?_⟩
      ·simp only[uE,List.take_zero,yI]; exact hp
      ·have:=RV.sl (tbl:=tbl) (ι:=ι.set key h.clk ⟨w.heap.size,0,arr.size⟩) (I:=I) key h.clk 0 (0+n) i.size cap ⟨w.heap.size,0,arr.size⟩ (by simp[Iota.set]) (by simp[h4]) (by omega) h0
       simpa using this
     ·have hL:=hs.get hg hl'
      have hL2:=hL;subst c2;obtain⟨hlx,arr,elem,fr,g1,g2,g3,g4⟩:=hL;by_cases hle:len+n≤cap
      ·-- there is room
       have hbd:off+(len+n)*i.size≤l.ext:=vM (Nat.add_le_add_left (yB _ hle) _) hext;rw[Nat.add_mul]at hbd;have hrun:=zw P (b:=l.b) (o:=l.o+off+len*i.size) (elem:=elem) (fr:=fr) vs 0 arr w g1 (by omega)
        (fun j hj=> by have:=g3 (off+len*i.size+j) (by omega); rw[show l.o+off+len*i.size+0+j=l.o+(off+len*i.size+j) from by omega]; exact this) ho
       rw[yU]at hrun;have hκ:ι.le (ι.set key h.clk ⟨l.b,l.o+off,l.ext - off⟩):=Iota.set_le hkf;refine⟨.slice (some ⟨l.b,l.o+off,none⟩) (len+n) cap,zd w l.b (.cells (over arr (l.o+off+len*i.size) vs) elem fr),ι.set key h.clk ⟨l.b,l.o+off,l.ext - off⟩,?_,?_,?_⟩
       ·rw[happ.put _ _ _ hle]
        simp only[zF];rw[hrun]; rfl
       ·refine post_row (c:=arr) (c':=over arr (l.o+off+len*i.size) vs) (h':=h.renew key ((cs.drop off).take (len*i.size)++ds)) hs (zz hg) hl' (uid':=h.clk) (cs':=(cs.drop off).take (len*i.size)++ds) (l':=⟨l.b,l.o+off,l.ext - off⟩) rfl (yY _) hκ (by simp[Iota.set])
         (fun k q hk=>?_) (fun k q m hne hm=>?_) rfl (by simp) (by simp; omega) g1 (over_size (by omega)) (fun j hj=>?_) (by simp; omega) (fun j x hx'=>?_)
        ·unfold Iota.set
         rw[if_neg];rintro⟨rfl,rfl⟩;simp[Heap.renew]at hk;omega
        ·unfold Iota.set at hm
         rw[if_neg (fun hh=> hne hh.1)]at hm;exact hm
        ·rw[jr (by omega)]
         rcases hj with hj|hj
         ·rw[if_pos (by omega)]
         ·rw[if_neg (by omega),if_neg (by omega)]
        ·have htl:((cs.drop off).take (len*i.size)).length=len*i.size:=by simp; omega
         simp only;rw[jr (by omega)];rw[gO,htl]at hx';split at hx'
         ·rename_i hj
          rw[gH,if_pos hj,gN]at hx';rw[if_pos (by omega)];obtain⟨u1,u2,u3,u4⟩:=g4 _ x hx';exact⟨u1,by rw[vC]; exact u2,u3.mono hκ (Imm.le_refl _),u4⟩
         ·rename_i hj
          obtain⟨cv,hcv,hr⟩:=hd.get hx';have hlt:=gA hcv;rw[if_neg (by omega),if_pos (by omega),show l.o+off+j - (l.o+off+len*i.size)=j - len*i.size from by omega];exact⟨cv,hcv,hr.mono hκ (Imm.le_refl _),ho cv (gE hcv)⟩
       ·have:=RV.sl (tbl:=tbl) (ι:=ι.set key h.clk ⟨l.b,l.o+off,l.ext - off⟩) (I:=I) key h.clk 0 (len+n) i.size cap ⟨l.b,l.o+off,l.ext - off⟩ (by simp[Iota.set]) (by simp; omega) hle h0
        simpa using this
      ·-- a new row
       obtain⟨old,v1,v2,v3⟩:=hL2.list off;have hv:=v1.take (len*i.size);have hol:(old.take (len*i.size)).length=len*i.size:=by rw[hv.len]; simp; omega
       obtain⟨arr',cap',more,h1,h2,h3,h4⟩:=happ.grow (some ⟨l.b,l.o+off,none⟩) len cap (old.take (len*i.size)) hle c4 c3 hol
        (by rw[jU (W:=w.drew) (by rw[v1.len]; simp; omega) (fun j v hj=> v3 j v hj)])
       have hp:=post_renew (cs':=(cs.drop off).take (len*i.size)++ds) hs (zz hg) hkf (hv.append hd) (fun v hv'=> by
        rcases wN.1 hv' with hv'|hv'
        ·exact v2 v (wW hv')
        ·exact ho v hv') more el (w.drawn+1) arr' h2
       refine⟨_,_,ι.set key h.clk ⟨w.heap.size,0,arr'.size⟩,h1,hp,?_⟩;have:=RV.sl (tbl:=tbl) (ι:=ι.set key h.clk ⟨w.heap.size,0,arr'.size⟩) (I:=I) key h.clk 0 (len+n) i.size cap' ⟨w.heap.size,0,arr'.size⟩ (by simp[Iota.set]) (by simp[h4]) (by omega) h0;simpa using this
    ·cases hev
   ·cases hev
  ·cases hev
theorem w_append(hfr:zM ι h)(he:RVe tbl ι I e a.tmps){t u el:TypeId}{i:Go.TypeInfo}{x z:Operand}{y q:X}{zs:List V}(ht:P.underlying t=some (.slice el))(hu:(∃e',P.underlying u=some (.slice e'))∨P.underlying u=some .string)(hi:P.info? el=some i)(hz:ju P tbl el=some zs)
  (h0:0 < i.size) (hzl:zs.length=i.size) (hc:qO tbl x=some y) (hd:qO tbl z=some q) (hev:opEv call (.append i.size i.bytes y q) e h=some (v,h')):
  WRes P tbl ι I h w a ⟨dst,.call ⟨.builtin .append, #[x,z], #[t,u]⟩,ty,pos,af,gd⟩ v h':=by
 have h1:=qp he hc;have h2:=qp he hd;obtain⟨j,zv,hj,hzv,h3,h4⟩:=zt hz;rw[hi]at hj;cases hj;have hzs:zv.cells.size=i.size:=by rw[←wJ,(h3 I).len,hzl]
 simp only[opEv]at hev;split at hev
 ·rename_i n ds hsv
  obtain⟨vs,hsrc⟩:=srcV_spec (P:=P) hs h2 hsv;obtain⟨c',w',κ,r1,r2,r3⟩:=appendV_run (P:=P) (t:=t) (u:=u) (el:=el) (ty:=ty) hs hfr h0 (app_src ht hu hi hzv hzs h0 hsrc) h1 hsrc.rvs hsrc.ones hsrc.len hev;exact⟨c',w',κ,I,.inl (by simp[execOp,Go.resolve,Go.invoke,Go.builtin,r1]),r2,r3⟩
 ·cases hev
theorem w_appendZ(hfr:zM ι h)(he:RVe tbl ι I e a.tmps){t u el:TypeId}{uk:IntKind}{i:Go.TypeInfo}{x z:Operand}{y q:X}{zs:List V}(ht:P.underlying t=some (.slice el))(hu:P.underlying u=some (.int uk))(hi:P.info? el=some i)(hz:ju P tbl el=some zs)
  (h0:0 < i.size) (hzl:zs.length=i.size) (hc:qO tbl x=some y) (hd:qO tbl z=some q) (hev:opEv call (.appendZ i.size i.bytes zs y q) e h=some (v,h')):
  WRes P tbl ι I h w a ⟨dst,.call ⟨.builtin .append, #[x,z], #[t,u]⟩,ty,pos,af,gd⟩ v h':=by
 have h1:=qp he hc;have h2:=qp he hd;obtain⟨j,zv,hj,hzv,h3,h4⟩:=zt hz;rw[hi]at hj;cases hj;have hzs:zv.cells.size=i.size:=by rw[←wJ,(h3 I).len,hzl]
 simp only[opEv]at hev;split at hev
 ·rename_i n hn
  split at hev
  ·rename_i hcond
   obtain⟨n0,n40,nb,_⟩:=hcond;have e1:=intV_rv hn h2;obtain⟨c',w',κ,r1,r2,r3⟩:=appendV_run (P:=P) (t:=t) (u:=u) (el:=el) (ty:=ty) (d:= .int .i64 n) hs hfr h0 (app_zero (k:= .i64) (m:=n) ht hu hi hzv hzs h0 n0 n40 nb) h1 (zL (h3 I).rv n.toNat) (zR h4 n.toNat) (by simp[hzl]) hev;exact⟨c',w',κ,I,.inl (by simp[execOp,Go.resolve,Go.invoke,Go.builtin,e1,r1]),r2,r3⟩
  ·cases hev
 ·cases hev
theorem w_copy(he:RVe tbl ι I e a.tmps){t el:TypeId}{i:Go.TypeInfo}{x z:Operand}{y q:X}{ats:Array TypeId}(ha:ats[0]? =some t)(ht:P.underlying t=some (.slice el))(hi:P.info? el=some i)
  (h0:0 < i.size) (hc:qO tbl x=some y) (hd:qO tbl z=some q) (hev:opEv call (.copy i.size y q) e h=some (v,h')):
  WRes P tbl ι I h w a ⟨dst,.call ⟨.builtin .copy, #[x,z],ats⟩,ty,pos,af,gd⟩ v h':=by
 have h1:=qp he hc;have h2:=qp he hd;simp only[opEv]at hev;split at hev
 ·rename_i n ds m hsv hlv
  obtain⟨vs,hsrc⟩:=srcV_spec (P:=P) hs h2 hsv;obtain⟨base,cap,hq,hcap⟩:=lenV_slice hs he hlv h1;have hfirst:=hsrc.first w rfl (min n m) (Nat.min_le_left _ _);split at hev
  ·rename_i hj
   obtain⟨rfl,rfl⟩:=qd hev;have hj':Nat.min n m=0:=hj;rw[hj,uE,List.take_zero]at hfirst;refine⟨.int .i64 0,w,ι,I,.inl ?_,(QPost.refl hs).post hs (fun _ _ h1 h2=> by omega),.imm (.int _ _)⟩;cases base <;> simp[execOp,Go.resolve,Go.invoke,Go.builtin,Go.Builtin.copy_,ha,wF ht,qE hi,hq,hsrc.lenOf,hj',hfirst,Go.goInt] <;> rfl
  ·rename_i hj
   split at hev
   ·rename_i key uid off len s hx
    split at hev
    ·rename_i cs hg
     split at hev
     ·rename_i hcond
      obtain⟨rfl,hcond⟩:=hcond;obtain⟨rfl,rfl⟩:=qd hev;rw[hx]at h1 hlv;simp only[lenV,wB]at hlv;subst hlv;rcases h1.of_sl with⟨rfl,q',hq'⟩|⟨cap',l,hl',hext,hcap',hz,hq'⟩
      ·exact absurd (Nat.min_zero n) hj
      ·have hL:=hs.get hg hl'
       obtain⟨hlx,arr,elem,fr,g1,g2,g3,g4⟩:=hL;have hml:min n len≤len:=Nat.min_le_right _ _;have hmn:min n len≤n:=Nat.min_le_left _ _;have hvl:(vs.take (min n len*i.size)).length=min n len*i.size:=by
        rw[yG,hsrc.rvs.len,hsrc.len];exact yZ (yB _ hmn)
       have hdl:(ds.take (min n len*i.size)).length=min n len*i.size:=by
        rw[yG,hsrc.len];exact yZ (yB _ hmn)
       have hrun:=zw P (b:=l.b) (o:=l.o+off) (elem:=elem) (fr:=fr) (vs.take (min n len*i.size)) 0 arr w g1 (by omega)
        (fun j hj=> by have:=g3 (off+j) (by omega); rw[show l.o+off+0+j=l.o+(off+j) from by omega]; exact this) (fun v hv=> hsrc.ones v (wW hv))
       rw[yU]at hrun;have hrv:=hsrc.rvs.take (min n len*i.size);refine⟨.int .i64 (min n len:Nat),zd w l.b (.cells (over arr (l.o+off) (vs.take (min n len*i.size))) elem fr),ι,I,.inl ?_,?_,.imm (.int _ _)⟩
       ·have e2:Nat.min n len=min n len:=rfl
        simp only[execOp,Go.resolve,Go.invoke,Go.builtin,Go.Builtin.copy_,wY,vO,wM,List.map_toArray,vB,List.map_nil];simp[ha,wF ht,qE hi,hq',hsrc.lenOf,e2,hfirst,Go.goInt,hrun]
       ·refine post_row (c:=arr) (c':=over arr (l.o+off) (vs.take (min n len*i.size))) (h':=h.put key uid (cs.take off++ds.take (min n len*i.size)++cs.drop (off+min n len*i.size))) hs (zz hg) hl' (uid':=uid) (l':=l) rfl (wE _) (Iota.le_refl _) hl' (fun _ _ _=> rfl) (fun _ _ _ _ h=> h) rfl (wE _) (wE _) g1
         (over_size (by omega)) (fun j hj=>?_) (by simp; omega) (fun j x hx'=>?_)
        ·rw[jr (by omega),hvl]
         rcases hj with hj|hj
         ·rw[if_pos (by omega)]
         ·rw[if_neg (by omega),if_neg (by omega)]
        ·rw[jr (by omega),hvl]
         rw[vE,gO]at hx';simp only[yG]at hx';rw[yZ (by omega)]at hx';split at hx'
         ·rename_i hj
          rw[gH,if_pos hj]at hx';rw[if_pos (by omega)];exact g4 j x hx'
         ·rename_i hj
          rw[gO,hdl]at hx';split at hx'
          ·rename_i hj2
           obtain⟨cv,hcv,hr⟩:=hrv.get hx';rw[if_neg (by omega),if_pos (by omega),show l.o+j - (l.o+off)=j - off from by omega];exact⟨cv,hcv,hr,hsrc.ones cv (wW (gE hcv))⟩
          ·rename_i hj2
           rw[gN]at hx';rw[if_neg (by omega),if_neg (by omega)];have:=g4 (off+min n len*i.size+(j - off - min n len*i.size)) x hx';rw[show l.o+(off+min n len*i.size+(j - off - min n len*i.size))=l.o+j from by omega]at this;exact this
     ·cases hev
    ·cases hev
   ·cases hev
 ·cases hev
end
end Rv
namespace Rv
open Go (IntKind BinOp UnOp Program Value Operand Oper Code TypeId Func World Addr Obj Act Calls execOp)
variable {tbl:Nat→Option Nat} {P:Program}
abbrev FL:=Bool×Loc
def FL.has(x:FL)(b i:Nat):Prop:=x.2.b=b∧x.2.o≤i∧i < x.2.o+x.2.ext
inductive Own (tbl:Nat→Option Nat) (w:World) (I:Imm):List Nat→V→Value→List FL→Prop
 |leaf (v:V) (c:Value) (h:RI tbl I v c):Own tbl w I [] v c []
 |int (ss:List Nat) (k:IntKind) (n:Int):Own tbl w I ss (.int k n) (.int k n) []
 |bool (ss:List Nat) (b:Bool):Own tbl w I ss (.bool b) (.bool b) []
 |str (ss:List Nat) (l:List Nat) (s:ByteArray) (h:s.data.toList.map UInt8.toNat=l):Own tbl w I ss (.str l) (.string s) []
 |nil (ss:List Nat) (a:Option Addr):Own tbl w I ss (.isl []) (.slice a 0 0) []
 |nils (ss:List Nat):Own tbl w I ss .nils (.slice none 0 0) []
 |kept (q:Nat) (qs:List Nat) (v:V) (c:Value) (h:RI tbl I v c):Own tbl w I (q::qs) (.iptr [v]) c []
 |sl (ss:List Nat) (xs:List V) (b o cap s:Nat) (vs:List Value) (Ls:List (List FL)) (hs:∀q qs,ss=q::qs→s=q) (hc:xs.length≤cap) (hz:0 < s) (hx:∀x∈xs,x.cells.length=s)
   (hl:vs.length=(flat xs).length) (hL:Ls.length=(flat xs).length) (ho:∀v∈vs,v.oneCell'=true) (hi:∀ (i:Nat) v,vs[i]? =some v→w.cell? ⟨b,o+i,none⟩=some v)
   (hr:∀ (i:Nat) c v L,(flat xs)[i]? =some c→vs[i]? =some v→Ls[i]? =some L→Own tbl w I ss.tail c v L):
   Own tbl w I ss (.isl xs) (.slice (some ⟨b,o,none⟩) xs.length cap) ((ss.isEmpty,⟨b,o,cap*s⟩)::Ls.flatten)
 |ptr (cs:List V) (b o ext:Nat) (vs:List Value) (Ls:List (List FL)) (he:cs.length≤ext) (hl:vs.length=cs.length) (hL:Ls.length=cs.length) (ho:∀v∈vs,v.oneCell'=true)
   (hi:∀ (i:Nat) v,vs[i]? =some v→w.cell? ⟨b,o+i,none⟩=some v) (hr:∀ (i:Nat) c v L,cs[i]? =some c→vs[i]? =some v→Ls[i]? =some L→Own tbl w I [] c v L):
   Own tbl w I [] (.iptr cs) (.pointer (some ⟨b,o,none⟩)) ((true,⟨b,o,ext⟩)::Ls.flatten)
 |agg (ss:List Nat) (cs:List V) (vs:List Value) (Ls:List (List FL)) (hl:vs.length=cs.length) (hL:Ls.length=cs.length) (ho:∀v∈vs,v.oneCell'=true)
   (hr:∀ (i:Nat) c v L,cs[i]? =some c→vs[i]? =some v→Ls[i]? =some L→Own tbl w I ss c v L):Own tbl w I ss (.agg cs) (.agg vs.toArray) Ls.flatten
 |tup (ss:List Nat) (cs:List V) (vs:List Value) (Ls:List (List FL)) (hl:vs.length=cs.length) (hL:Ls.length=cs.length)
   (hr:∀ (i:Nat) c v L,cs[i]? =some c→vs[i]? =some v→Ls[i]? =some L→Own tbl w I ss c v L):Own tbl w I ss (.tup cs) (.tuple vs.toArray) Ls.flatten
structure HSub (h h₀:Heap):Prop where
 live:∀ (k u:Nat) (cs:List V),h.ents[k]? =some (u,some cs)→h₀.ents[k]? =some (u,some cs)
 clk:h.clk=h₀.clk
theorem HSub.refl(h:Heap):HSub h h:=⟨fun _ _ _ h=> h,rfl⟩
theorem HSub.trans{a b c:Heap}(h:HSub a b)(k:HSub b c):HSub a c:=⟨fun x y z e=> k.live x y z (h.live x y z e),h.clk.trans k.clk⟩
theorem HSub.owned{h h₀:Heap}(s:HSub h h₀){ι:Iota}{b i:Nat}(o:zb ι h b i):zb ι h₀ b i:=by
 obtain⟨k,u,cs,l,h1,h2⟩:=o;exact⟨k,u,cs,l,s.live _ _ _ h1,h2⟩
theorem St.sub{ι:Iota}{I:Imm}{h h₀:Heap}{w:World}(hs:St tbl ι I h₀ w)(s:HSub h h₀):St tbl ι I h w:=
 ⟨fun k u cs l a b=> hs.ent k u cs l (s.live _ _ _ a) b,fun k u cs l k' u' cs' l' a b c d=> hs.sep k u cs l k' u' cs' l' (s.live _ _ _ a) b (s.live _ _ _ c) d,hs.imm,fun b o v hv ho=> hs.immsep b o v hv (s.owned ho)⟩
theorem xF(h:Heap)(key:Nat):HSub (h.kill key) h:=by
 refine⟨fun k u cs e=>?_,rfl⟩;unfold Heap.kill at e;simp only at e;rw[gK]at e;split at e
 ·split at e
  ·cases e
  ·cases e
 ·exact e
theorem xy{ι:Iota}{I:Imm}{h:Heap}{w:World}(hs:St tbl ι I h w){key uid:Nat}{cs:List V}{l:Loc}(hent:h.ents[key]? =some (uid,some cs))(hl:ι key uid=some l){b i:Nat}(ho:zb ι (h.kill key) b i):
  ¬(l.b=b∧l.o≤i∧i < l.o+l.ext):=by
 obtain⟨k,u,cs',m,h1,h2,h3,h4,h5⟩:=ho;have hk:k≠key:=by
  intro e;subst e;unfold Heap.kill at h1;simp only at h1;rw[gK]at h1;split at h1
  ·split at h1
   ·cases h1
   ·cases h1
  ·rename_i hne; exact hne rfl
 have:=hs.sep k u cs' m key uid cs l ((xF h key).live _ _ _ h1) h2 hent hl hk;exact fun hh=> this b i h3 h4 h5 hh.1 hh.2.1 hh.2.2
def GoodLoc(w:World)(l:Loc):Prop:=∃c elem fr,w.heap[l.b]? =some (Obj.cells c elem fr)∧l.o+l.ext≤c.size∧∀i,i < l.ext→¬(fr.1≤l.o+i∧l.o+i < fr.2)
def Disj(x y:FL):Prop:=∀b i,x.has b i→y.has b i→False
structure TookL (ι:Iota) (h h':Heap) (w:World) (L:List FL):Prop where
 sub:HSub h' h
 good:∀x∈L,GoodLoc w x.2
 inn:∀x∈L,∀b i,x.has b i→zb ι h b i∧¬zb ι h' b i
 pair:L.Pairwise Disj
theorem TookL.nil(ι:Iota)(h:Heap)(w:World):TookL ι h h w []:=⟨.refl h,fun x hx=> by simp at hx,fun x hx=> by simp at hx,.nil⟩
theorem TookL.append{ι:Iota}{h h1 h2:Heap}{w:World}{L M:List FL}(a:TookL ι h h1 w L)(b:TookL ι h1 h2 w M):TookL ι h h2 w (L++M):=by
 refine⟨b.sub.trans a.sub,fun x hx=>?_,fun x hx p i hp=>?_,?_⟩
 ·rcases wN.1 hx with hx|hx
  ·exact a.good x hx
  ·exact b.good x hx
 ·rcases wN.1 hx with hx|hx
  ·have:=a.inn x hx p i hp
   exact⟨this.1,fun ho=> this.2 (b.sub.owned ho)⟩
  ·have:=b.inn x hx p i hp
   exact⟨a.sub.owned this.1,this.2⟩
 ·rw[List.pairwise_append]
  exact⟨a.pair,b.pair,fun x hx y hy p i h1 h2=>(a.inn x hx p i h1).2 (b.inn y hy p i h2).1⟩
theorem mapS_take{ι:Iota}{I:Imm}{w:World}{ss:List Nat}{f:V→Heap→Option (V×Heap)}(hf:∀v c h T h',St tbl ι I h w→RV tbl ι I v c→f v h=some (T,h')→∃L,Own tbl w I ss T c L∧TookL ι h h' w L):
  ∀ (xs:List V) (vs:List Value) (h:Heap) (ys:List V) (h':Heap),St tbl ι I h w→RVs tbl ι I xs vs→mapS f xs h=some (ys,h')→
  ∃Ls:List (List FL),Ls.length=ys.length∧ys.length=xs.length∧(∀ (i:Nat) c v L,ys[i]? =some c→vs[i]? =some v→Ls[i]? =some L→Own tbl w I ss c v L)∧TookL ι h h' w Ls.flatten
 | [],vs,h,ys,h',hs,hv,hm=> by
  simp only[mapS,wB,wH]at hm;obtain⟨rfl,rfl⟩:=hm;exact⟨[],rfl,rfl,fun i c v L a=> by simp at a,.nil ι h w⟩
 |x::xs,vs,h,ys,h',hs,hv,hm=> by
  simp only[mapS]at hm;split at hm
  ·rename_i y h1 hy
   split at hm
   ·rename_i ys' h2 hys
    simp only[wB,wH]at hm;obtain⟨rfl,rfl⟩:=hm;obtain⟨v0,vs',rfl,hr0,hrs⟩:=hv.uncons;obtain⟨L,hL1,hL2⟩:=hf x v0 h y h1 hs hr0 hy;obtain⟨Ls,a1,a2,a3,a4⟩:=mapS_take hf xs vs' h1 ys' h2 (hs.sub hL2.sub) hrs hys;refine⟨L::Ls,by simp[a1],by simp[a2],fun i c v M p q r=>?_,by rw[yV]; exact hL2.append a4⟩;cases i with
    |zero=> simp at p q r; subst p; subst q; subst r; exact hL1
    |succ i=> simp at p q r; exact a3 i c v M p q r
   ·cases hm
  ·cases hm
theorem mem_one{ι:Iota}{w:World}{I:Imm}{ss:List Nat}{x:V}{c:Value}{L:List FL}(h:Own tbl w I ss x c L)(ho:c.oneCell'=true):x.cells=[x]:=by
 cases h with
 |leaf v c h=> exact h.one ho
 |agg=> simp[Value.oneCell']at ho
 |tup=> simp[Value.oneCell']at ho
 |_=> rfl
theorem take_sl(f:Nat)(ss:List Nat)(key uid off len sz:Nat)(h:Heap):take (f+1) ss (.sl key uid off len sz) h=(match h.get key uid with
  |some cs=>
   if off+len*sz≤cs.length∧0 < sz∧hdOk ss sz=true then
    match mapS (take f ss.tail) ((cs.drop off).take (len*sz)) (h.kill key)with
    |some (ds,h2)=> some (.isl (jn sz len ds),h2)
    |none=> none
   else none
  |none=> none):=by cases ss <;> rfl
theorem take_own{ι:Iota}{I:Imm}{w:World}:∀ (f:Nat) (ss:List Nat) (v:V) (c:Value) (h:Heap) (T:V) (h':Heap),St tbl ι I h w→RV tbl ι I v c→take f ss v h=some (T,h')→∃L,Own tbl w I ss T c L∧TookL ι h h' w L:=by
 intro f;induction f with
 |zero=> intro ss v c h T h' _ _ ht; simp[take]at ht
 |succ f ih=>
  intro ss v c h T h' hs hr ht;cases v with
  |sl key uid off len sz=>
   rw[take_sl]at ht;split at ht
   ·rename_i cs hg
    split at ht
    ·rename_i hc
     obtain⟨c1,c2,c3⟩:=hc;split at ht
     ·rename_i ds h2 hm
      simp only[wB,wH]at ht;obtain⟨rfl,rfl⟩:=ht;rcases hr.of_sl with⟨rfl,a,rfl⟩|⟨cap,l,hl,hext,hcap,hz,rfl⟩
      ·simp only[uE,List.take_zero,mapS,wB,wH]at hm
       obtain⟨rfl,rfl⟩:=hm;have:jn sz 0 []=[]:=by unfold jn; split <;> rfl
       rw[this];exact⟨[],.nil ss a,⟨xF h key,fun x hx=> by simp at hx,fun x hx=> by simp at hx,.nil⟩⟩
      ·have hL:=hs.get hg hl
       obtain⟨vs,v1,v2,v3⟩:=hL.list off;have hk:=xF h key;obtain⟨Ls,a1,a2,a3,a4⟩:=mapS_take (ss:=ss.tail) (fun v c h T h'=> ih ss.tail v c h T h') _ _ _ _ _ (hs.sub hk) (v1.take (len*sz)) hm;have hdl:ds.length=len*sz:=by rw[a2]; simp; omega
       have hvl:(vs.take (len*sz)).length=len*sz:=by rw[(v1.take (len*sz)).len]; simp; omega
       have hones:∀x∈ds,x.cells=[x]:=by
        intro x hx;obtain⟨i,hi⟩:=gR hx;have hlt:=gA hi;have q1:(vs.take (len*sz))[i]? =some (vs.take (len*sz))[i]:=by rw[gB (by omega)]
        have q2:Ls[i]? =some Ls[i]:=by rw[gB (by omega)]
        exact mem_one (ι:=ι) (a3 i x _ _ hi q1 q2) (v2 _ (wW (gE q1)))
       obtain⟨k1,k2,k3⟩:=chunk_spec (sz:=sz) (n:=len) hdl hones;have hown:=Own.sl (tbl:=tbl) (w:=w) (I:=I) ss (jn sz len ds) l.b (l.o+off) cap sz (vs.take (len*sz)) Ls (fun q qs e=> by subst e; simpa[hdOk]using c3) (by omega) hz k3 (by rw[k2,hvl,hdl]) (by rw[k2,a1])
        (fun v hv=> v2 v (wW hv)) (fun i v hv=> by
         rw[gH]at hv;split at hv
         ·exact v3 i v hv
         ·cases hv) (fun i c v L p q r=> a3 i c v L (by rw[k2]at p; exact p) q r)
       rw[k1]at hown;refine⟨_,hown,⟨a4.sub.trans hk,fun x hx=>?_,fun x hx b i hb=>?_,?_⟩⟩
       ·rcases vA.1 hx with rfl|hx
        ·obtain⟨hlx,c',elem,fr,g1,g2,g3,g4⟩:=hL
         refine⟨c',elem,fr,g1,by simp only; omega,fun i hi=>?_⟩;have:=g3 (off+i) (by simp only at hi; omega);rw[←vC]at this;exact this
        ·exact a4.good x hx
       ·rcases vA.1 hx with rfl|hx
        ·obtain⟨b1,b2,b3⟩:=hb
         simp only at b1 b2 b3;have hin:l.b=b∧l.o≤i∧i < l.o+l.ext:=⟨b1,by omega,by omega⟩;exact⟨⟨key,uid,cs,l,zz hg,hl,hin⟩,fun ho=> xy hs (zz hg) hl (a4.sub.owned ho) hin⟩
        ·have:=a4.inn x hx b i hb
         exact⟨hk.owned this.1,this.2⟩
       ·refine vG.2 ⟨fun y hy b i h1 h2=>?_,a4.pair⟩
        obtain⟨b1,b2,b3⟩:=h1;simp only at b1 b2 b3;exact xy hs (zz hg) hl (a4.inn y hy b i h2).1 ⟨b1,by omega,by omega⟩
     ·cases ht
    ·cases ht
   ·cases ht
  |agg cs=>
   simp only[take]at ht;split at ht
   ·rename_i ds h2 hm
    simp only[wB,wH]at ht;obtain⟨rfl,rfl⟩:=ht;obtain⟨vs,rfl,v1,v2⟩:=hr.of_agg;obtain⟨Ls,a1,a2,a3,a4⟩:=mapS_take (ss:=ss) (fun v c h T h'=> ih ss v c h T h') _ _ _ _ _ hs v1 hm;exact⟨_,.agg ss ds vs Ls (by rw[v1.len,a2]) a1 v2 a3,a4⟩
   ·cases ht
  |tup cs=>
   simp only[take]at ht;split at ht
   ·rename_i ds h2 hm
    simp only[wB,wH]at ht;obtain⟨rfl,rfl⟩:=ht;obtain⟨vs,rfl,v1⟩:=hr.of_tup;obtain⟨Ls,a1,a2,a3,a4⟩:=mapS_take (ss:=ss) (fun v c h T h'=> ih ss v c h T h') _ _ _ _ _ hs v1 hm;exact⟨_,.tup ss ds vs Ls (by rw[v1.len,a2]) a1 a3,a4⟩
   ·cases ht
  |nils=>
   simp only[take,wB,wH]at ht;obtain⟨rfl,rfl⟩:=ht;have:=hr.of_nils;subst this;exact⟨[],.nil ss none,.nil ι h w⟩
  |int k n=>
   simp only[take,wB,wH]at ht;obtain⟨rfl,rfl⟩:=ht;have:=hr.of_int;subst this;exact⟨[],.int ss k n,.nil ι h w⟩
  |bool b=>
   simp only[take,wB,wH]at ht;obtain⟨rfl,rfl⟩:=ht;have:=hr.of_bool;subst this;exact⟨[],.bool ss b,.nil ι h w⟩
  |str l=>
   simp only[take,wB,wH]at ht;obtain⟨rfl,rfl⟩:=ht;obtain⟨s,rfl,hs'⟩:=hr.of_str;exact⟨[],.str ss l s hs',.nil ι h w⟩
  |ptr key uid off=>
   cases ss with
   |cons s ss=> simp[take]at ht
   |nil=>
    simp only[take]at ht;split at ht
    ·rename_i cs hg
     split at ht
     ·rename_i ds h2 hm
      simp only[wB,wH]at ht;obtain⟨rfl,rfl⟩:=ht;obtain⟨l,hl,rfl⟩:=hr.of_ptr;have hL:=hs.get hg hl;obtain⟨vs,v1,v2,v3⟩:=hL.list off;have hk:=xF h key;obtain⟨Ls,a1,a2,a3,a4⟩:=mapS_take (ss:=[]) (fun v c h T h'=> ih [] v c h T h') _ _ _ _ _ (hs.sub hk) v1 hm;obtain⟨hlx,c',elem,fr,g1,g2,g3,g4⟩:=hL;by_cases hoff:off≤cs.length
      ·have hdl:ds.length=cs.length - off:=by rw[a2]; simp
       refine⟨_,.ptr ds l.b (l.o+off) (l.ext - off) vs Ls (by omega) (by rw[v1.len,a2]) a1 v2 v3 a3,⟨a4.sub.trans hk,fun x hx=>?_,fun x hx b i hb=>?_,?_⟩⟩
       ·rcases vA.1 hx with rfl|hx
        ·refine⟨c',elem,fr,g1,by simp only; omega,fun i hi=>?_⟩
         have:=g3 (off+i) (by simp only at hi; omega);rw[←vC]at this;exact this
        ·exact a4.good x hx
       ·rcases vA.1 hx with rfl|hx
        ·obtain⟨b1,b2,b3⟩:=hb
         simp only at b1 b2 b3;have hin:l.b=b∧l.o≤i∧i < l.o+l.ext:=⟨b1,by omega,by omega⟩;exact⟨⟨key,uid,cs,l,zz hg,hl,hin⟩,fun ho=> xy hs (zz hg) hl (a4.sub.owned ho) hin⟩
        ·have:=a4.inn x hx b i hb
         exact⟨hk.owned this.1,this.2⟩
       ·refine vG.2 ⟨fun y hy b i h1 h2=>?_,a4.pair⟩
        obtain⟨b1,b2,b3⟩:=h1;simp only at b1 b2 b3;exact xy hs (zz hg) hl (a4.inn y hy b i h2).1 ⟨b1,by omega,by omega⟩
      ·have hn:cs.drop off=[]:=List.drop_eq_nil_of_le (by omega)
       rw[hn]at v1 a2;have e1:ds=[]:=wU (by simpa using a2);have e2:vs=[]:=wU (by simpa using v1.len);subst e1; subst e2;exact⟨[],.leaf _ _ (.iptr [] l.b (l.o+off) [] rfl (fun v hv=> by simp at hv) (fun i v hv=> by simp at hv) (fun i c v hv=> by simp at hv)),⟨a4.sub.trans hk,fun x hx=> by simp at hx,fun x hx=> by simp at hx,.nil⟩⟩
     ·cases ht
    ·cases ht
  |isl xs=>
   cases ss with
   |nil=>
    simp only[take]at ht;split at ht
    ·rename_i hrf
     simp only[wB,wH]at ht;obtain⟨rfl,rfl⟩:=ht;exact⟨[],.leaf _ _ (jj _ _ _ hr hrf),.nil ι h w⟩
    ·cases ht
   |cons s ss=>
    simp only[take]at ht;split at ht
    ·rename_i hrf
     simp only[wB,wH]at ht;obtain⟨rfl,rfl⟩:=ht;exact⟨[],.kept _ _ _ _ (jj _ _ _ hr hrf),.nil ι h w⟩
    ·cases ht
  |_=>
   cases ss with
   |nil=>
    simp only[take]at ht;split at ht
    ·rename_i hrf
     simp only[wB,wH]at ht;obtain⟨rfl,rfl⟩:=ht;exact⟨[],.leaf _ _ (jj _ _ _ hr hrf),.nil ι h w⟩
    ·cases ht
   |cons s ss=> simp[take]at ht
end Rv
namespace Rv
open Go (IntKind BinOp UnOp Program Value Operand Oper Code TypeId Func World Addr Obj Act Calls execOp)
variable {tbl:Nat→Option Nat} {P:Program}
def Cover(J:Imm)(w:World)(L:List FL):Prop:=∀x∈L,x.1=true→∀b i v,x.has b i→w.cell? ⟨b,i,none⟩=some v→J b i=some v
theorem Cover.sub{J:Imm}{w:World}{L M:List FL}(h:Cover J w M)(hs:∀x∈L,x∈M):Cover J w L:=fun x hx=> h x (hs x hx)
theorem own_leaf{I J:Imm}{w:World}(hJ:I.le J):∀ {ss:List Nat} {T:V} {c:Value} {L:List FL},Own tbl w I ss T c L→ss=[]→Cover J w L→RI tbl J T c:=by
 intro ss T c L h;induction h with
 |leaf v c h=> exact fun _ _=> h.mono hJ
 |int ss k n=> exact fun _ _=> .int k n
 |bool ss b=> exact fun _ _=> .bool b
 |str ss l s h=> exact fun _ _=> .str s l h
 |nil ss a=> exact fun _ _=> .isl0 a 0 (fun _=> rfl)
 |nils ss=> exact fun _ _=> .nils
 |kept q qs v c h=> intro e; cases e
 |sl ss xs b o cap s vs Ls hs hc hz hx hl hL ho hi hr ih=>
  intro e hcov;subst e;have hfl:=flat_length hx;refine .isl xs b o cap s vs hc hz hx hl ho (fun i v hv=>?_) (fun i c v p q=>?_)
  ·have hlt:=gA hv
   have hle:xs.length*s≤cap*s:=yB _ hc;exact hcov _ (wG ..) rfl b (o+i) v ⟨rfl,by simp,by simp only; omega⟩ (hi i v hv)
  ·have hlt:=gA p
   have q2:Ls[i]? =some Ls[i]:=by rw[gB (by omega)]
   exact ih i c v _ p q q2 rfl (hcov.sub fun x hx=> wI _ (yX.2 ⟨_,gE q2,hx⟩))
 |ptr cs b o ext vs Ls he hl hL ho hi hr ih=>
  intro e hcov;refine .iptr cs b o vs hl ho (fun i v hv=>?_) (fun i c v p q=>?_)
  ·have hlt:=gA hv
   exact hcov _ (wG ..) rfl b (o+i) v ⟨rfl,by simp,by simp only; omega⟩ (hi i v hv)
  ·have hlt:=gA p
   have q2:Ls[i]? =some Ls[i]:=by rw[gB (by omega)]
   exact ih i c v _ p q q2 rfl (hcov.sub fun x hx=> wI _ (yX.2 ⟨_,gE q2,hx⟩))
 |agg ss cs vs Ls hl hL ho hr ih=>
  intro e hcov;refine .agg cs vs hl ho (fun i c v p q=>?_);have hlt:=gA p;have q2:Ls[i]? =some Ls[i]:=by rw[gB (by omega)]
  exact ih i c v _ p q q2 e (hcov.sub fun x hx=> yX.2 ⟨_,gE q2,hx⟩)
 |tup ss cs vs Ls hl hL hr ih=>
  intro e hcov;refine .tup cs vs hl (fun i c v p q=>?_);have hlt:=gA p;have q2:Ls[i]? =some Ls[i]:=by rw[gB (by omega)]
  exact ih i c v _ p q q2 e (hcov.sub fun x hx=> yX.2 ⟨_,gE q2,hx⟩)
structure PreL (J:Imm) (w:World) (ι:Iota) (h:Heap) (L:List FL):Prop where
 good:∀x∈L,x.1=false→GoodLoc w x.2∧∀b i,x.has b i→¬zb ι h b i∧J b i=none
 pair:L.Pairwise Disj
 cover:Cover J w L
structure xq (tbl:Nat→Option Nat) (J:Imm) (w:World) (ι:Iota) (h:Heap) (κ:Iota) (h':Heap) (L:List FL):Prop where
 ents:∃n,h'.ents=h.ents++n∧∀e∈n,h.clk≤e.1∧e.1 < h'.clk
 clk:h.clk≤h'.clk
 iota:∀k u,(u < h.clk∨h'.clk≤u)→κ k u=ι k u
 st:St tbl κ J h' w
 own:∀b i,zb κ h' b i→zb ι h b i∨∃x∈L,x.1=false∧x.has b i
 locs:∀k u l,κ k u=some l→ι k u=some l∨∃x∈L,x.1=false∧x.2=l
theorem xq.refl{J:Imm}{w:World}{ι:Iota}{h:Heap}(hs:St tbl ι J h w)(L:List FL):xq tbl J w ι h ι h L:=
 ⟨⟨[],by simp,fun e he=> by simp at he⟩,wE _,fun _ _ _=> rfl,hs,fun _ _ h=> .inl h,fun _ _ _ h=> .inl h⟩
theorem xq.trans{J:Imm}{w:World}{ι κ μ:Iota}{h h1 h2:Heap}{L M:List FL}(a:xq tbl J w ι h κ h1 L)(b:xq tbl J w κ h1 μ h2 M):xq tbl J w ι h μ h2 (L++M):=by
 obtain⟨n,hn,hn2⟩:=a.ents;obtain⟨m,hm,hm2⟩:=b.ents;have c1:=a.clk;have c2:=b.clk;refine⟨⟨n++m,by rw[hm,hn,vE],fun e he=>?_⟩,vM c1 c2,fun k u hk=>?_,b.st,fun p i ho=>?_,fun k u l hl=>?_⟩
 ·rcases wN.1 he with he|he
  ·have:=hn2 e he; omega
  ·have:=hm2 e he; omega
 ·rw[b.iota k u (by omega),a.iota k u (by omega)]
 ·rcases b.own p i ho with ho|⟨x,hx,h1,h2⟩
  ·rcases a.own p i ho with ho|⟨x,hx,h1,h2⟩
   ·exact .inl ho
   ·exact .inr ⟨x,vJ _ hx,h1,h2⟩
  ·exact .inr ⟨x,vZ _ hx,h1,h2⟩
 ·rcases b.locs k u l hl with hl|⟨x,hx,h1⟩
  ·rcases a.locs k u l hl with hl|⟨x,hx,h1⟩
   ·exact .inl hl
   ·exact .inr ⟨x,vJ _ hx,h1⟩
  ·exact .inr ⟨x,vZ _ hx,h1⟩
theorem PreL.left{J:Imm}{w:World}{ι:Iota}{h:Heap}{L M:List FL}(p:PreL J w ι h (L++M)):PreL J w ι h L:=
 ⟨fun x hx=> p.good x (vJ _ hx),(List.pairwise_append.1 p.pair).1,p.cover.sub fun x hx=> vJ _ hx⟩
theorem PreL.right{J:Imm}{w:World}{ι κ:Iota}{h h1:Heap}{L M:List FL}(p:PreL J w ι h (L++M))(r:xq tbl J w ι h κ h1 L):PreL J w κ h1 M:=by
 refine⟨fun x hx hf=>?_,(List.pairwise_append.1 p.pair).2.1,p.cover.sub fun x hx=> vZ _ hx⟩;obtain⟨g1,g2⟩:=p.good x (vZ _ hx) hf;refine⟨g1,fun b i hb=>⟨fun ho=>?_,(g2 b i hb).2⟩⟩;rcases r.own b i ho with ho|⟨y,hy,hyf,hyb⟩
 ·exact(g2 b i hb).1 ho
 ·exact(List.pairwise_append.1 p.pair).2.2 y hy x hx b i hyb hb
theorem thaw_list{J:Imm}{w:World}{I:Imm}{ss:List Nat}{f:V→Heap→Option (V×Heap)}
  (hf:∀T c L h v h' ι,Own tbl w I ss T c L→f T h=some (v,h')→St tbl ι J h w→(∀k u,h.clk≤u→u < h'.clk→ι k u=none)→PreL J w ι h L→∃κ,xq tbl J w ι h κ h' L∧RV tbl κ J v c)
  (hm0:∀T h v h',f T h=some (v,h')→h.clk≤h'.clk):
  ∀ (xs:List V) (vs:List Value) (Ls:List (List FL)) (h:Heap) (ys:List V) (h':Heap) (ι:Iota),vs.length=xs.length→Ls.length=xs.length→
  (∀ (i:Nat) c v L,xs[i]? =some c→vs[i]? =some v→Ls[i]? =some L→Own tbl w I ss c v L)→mapS f xs h=some (ys,h')→St tbl ι J h w→(∀k u,h.clk≤u→u < h'.clk→ι k u=none)→PreL J w ι h Ls.flatten→
  h.clk≤h'.clk∧∃κ,xq tbl J w ι h κ h' Ls.flatten∧RVs tbl κ J ys vs
 | [],vs,Ls,h,ys,h',ι,hl,hL,ho,hm,hs,hfr,hp=> by
  simp only[mapS,wB,wH]at hm;obtain⟨rfl,rfl⟩:=hm;obtain rfl:vs=[]:=wU hl;exact⟨wE _,ι,.refl hs _,.nil⟩
 |x::xs,vs,Ls,h,ys,h',ι,hl,hL,ho,hm,hs,hfr,hp=> by
  simp only[mapS]at hm;split at hm
  ·rename_i y h1 hy
   split at hm
   ·rename_i ys' h2 hys
    simp only[wB,wH]at hm;obtain⟨rfl,rfl⟩:=hm;cases vs with
    |nil=> simp at hl
    |cons v vs=>
     cases Ls with
     |nil=> simp at hL
     |cons L Ls=>
      rw[yV]at hp;have hc1:=hm0 _ _ _ _ hy;have hmono:∀ (zs:List V) (q:Heap) (rs:List V) (q':Heap),mapS f zs q=some (rs,q')→q.clk≤q'.clk:=by
       intro zs;induction zs with
       |nil=> intro q rs q' h; simp only[mapS,wB,wH]at h; rw[h.2]; exact wE _
       |cons z zs ih=>
        intro q rs q' h;simp only[mapS]at h;split at h
        ·rename_i a q1 ha
         split at h
         ·rename_i b q2 hb
          simp only[wB,wH]at h;obtain⟨_,rfl⟩:=h;exact vM (hm0 _ _ _ _ ha) (ih _ _ _ hb)
         ·cases h
        ·cases h
      have hc2:=hmono _ _ _ _ hys;obtain⟨κ,r1,r2⟩:=hf x v L h y h1 ι (ho 0 x v L rfl rfl rfl) hy hs (fun k u a b=> hfr k u a (by omega)) hp.left;obtain⟨hc,μ,r3,r4⟩:=thaw_list hf hm0 xs vs Ls h1 ys' h2 κ (by simpa using hl) (by simpa using hL) (fun i c v L a b d=> ho (i+1) c v L (by simpa using a) (by simpa using b) (by simpa using d)) hys r1.st
       (fun k u a b=> by rw[r1.iota k u (.inr a)]; exact hfr k u (by omega) b) (hp.right r1)
      have hκμ:κ.le μ:=xx r3.iota (fun k u a b=> by rw[r1.iota k u (.inr a)]; exact hfr k u (by omega) b);exact⟨by omega,μ,by rw[yV]; exact r1.trans r3,.cons (r2.mono hκμ (Imm.le_refl _)) r4⟩
   ·cases hm
  ·cases hm
theorem mapS_clk{f:V→Heap→Option (V×Heap)}(hm0:∀T h v h',f T h=some (v,h')→h.clk≤h'.clk):∀ (zs:List V) (q:Heap) (rs:List V) (q':Heap),mapS f zs q=some (rs,q')→q.clk≤q'.clk:=by
 intro zs;induction zs with
 |nil=> intro q rs q' h; simp only[mapS,wB,wH]at h; rw[h.2]; exact wE _
 |cons z zs ih=>
  intro q rs q' h;simp only[mapS]at h;split at h
  ·rename_i a q1 ha
   split at h
   ·rename_i b q2 hb
    simp only[wB,wH]at h;obtain⟨_,rfl⟩:=h;exact vM (hm0 _ _ _ _ ha) (ih _ _ _ hb)
   ·cases h
  ·cases h
theorem thaw_clk:∀ (f:Nat) (ss:List Nat) (T:V) (h:Heap) (v:V) (h':Heap),thaw f ss T h=some (v,h')→h.clk≤h'.clk:=by
 intro f;induction f with
 |zero=> intro ss T h v h' e; simp[thaw]at e
 |succ f ih=>
  intro ss T h v h' e;cases ss with
  |nil=> simp only[thaw,wB,wH]at e; rw[e.2]; exact wE _
  |cons s ss=>
   cases T with
   |isl xs=>
    simp only[thaw]at e;split at e
    ·rename_i ds h2 hm
     simp only[wB,wH]at e;obtain⟨_,rfl⟩:=e;have:=mapS_clk (fun T h v h'=> ih ss T h v h') _ _ _ _ hm;simp only[Heap.push]; omega
    ·cases e
   |agg cs=>
    simp only[thaw]at e;split at e
    ·rename_i ds h2 hm
     simp only[wB,wH]at e;obtain⟨_,rfl⟩:=e;exact mapS_clk (fun T h v h'=> ih (s::ss) T h v h') _ _ _ _ hm
    ·cases e
   |tup cs=>
    simp only[thaw]at e;split at e
    ·rename_i ds h2 hm
     simp only[wB,wH]at e;obtain⟨_,rfl⟩:=e;exact mapS_clk (fun T h v h'=> ih (s::ss) T h v h') _ _ _ _ hm
    ·cases e
   |iptr vs=>
    simp only[thaw]at e;split at e
    ·simp only[wB,wH]at e; rw[e.2]; exact wE _
    ·cases e
   |_=> simp only[thaw,wB,wH]at e; rw[e.2]; exact wE _
theorem st_adopt{J:Imm}{w:World}{κ:Iota}{h:Heap}(hs:St tbl κ J h w)(hfr:κ h.ents.length h.clk=none){ds:List V}{vs:List Value}{l:Loc}(hv:RVs tbl κ J ds vs)(ho:∀v∈vs,v.oneCell'=true)
  (hg:GoodLoc w l) (hi:∀ (i:Nat) v,vs[i]? =some v→w.cell? ⟨l.b,l.o+i,none⟩=some v) (hlen:vs.length≤l.ext) (hfree:∀i,l.o≤i→i < l.o+l.ext→¬zb κ h l.b i∧J l.b i=none):
  St tbl (κ.set h.ents.length h.clk l) J (h.push ds) w:=by
 have hle:=Iota.set_le (l:=l) hfr;obtain⟨c,elem,fr,g1,g2,g3⟩:=hg;have hcase:∀key uid cs' m,(h.push ds).ents[key]? =some (uid,some cs')→(κ.set h.ents.length h.clk l) key uid=some m→
   (h.ents[key]? =some (uid,some cs')∧κ key uid=some m∧key < h.ents.length)∨(key=h.ents.length∧uid=h.clk∧cs'=ds∧m=l):=by
  intro key uid cs' m he hl;rcases ents_push he with he|⟨rfl,he'⟩
  ·have hk:=gA he
   unfold Iota.set at hl;rw[if_neg (by omega)]at hl;exact .inl ⟨he,hl,hk⟩
  ·obtain⟨rfl,e2⟩:=Prod.mk.inj he'
   obtain rfl:=wA e2;unfold Iota.set at hl;rw[if_pos ⟨rfl,rfl⟩]at hl;cases hl;exact .inr ⟨rfl,rfl,rfl,rfl⟩
 have hdisj:∀key uid cs' m,h.ents[key]? =some (uid,some cs')→κ key uid=some m→∀b i,m.b=b→m.o≤i→i < m.o+m.ext→l.b=b→l.o≤i→i < l.o+l.ext→False:=by
  intro key uid cs' m he hm b i b1 b2 b3 b4 b5 b6;subst b4;exact(hfree i b5 b6).1 ⟨key,uid,cs',m,he,hm,b1,b2,b3⟩
 refine⟨fun key uid cs' m he hm=>?_,fun key uid cs1 m key' uid' cs2 m' he hm he' hm' hne=>?_,hs.imm,fun b o v hb hO=>?_⟩
 ·rcases hcase _ _ _ _ he hm with⟨he,hm,_⟩|⟨rfl,rfl,rfl,rfl⟩
  ·exact Lies.mono (w:=w) hle (Imm.le_refl _) rfl (hs.ent _ _ _ _ he hm)
  ·refine⟨by rw[←hv.len]; exact hlen,c,elem,fr,g1,g2,g3,fun i x hx=>?_⟩
   obtain⟨v,hv1,hv2⟩:=hv.get hx;have:=hi i v hv1;simp only[World.cell?,g1]at this;simp at this;exact⟨v,this,hv2.mono hle (Imm.le_refl _),ho v (gE hv1)⟩
 ·rcases hcase _ _ _ _ he hm with⟨he1,hm1,_⟩|⟨rfl,rfl,rfl,rfl⟩<;> rcases hcase _ _ _ _ he' hm' with⟨he2,hm2,_⟩|⟨rfl,rfl,rfl,rfl⟩
  ·exact hs.sep _ _ _ _ _ _ _ _ he1 hm1 he2 hm2 hne
  ·exact hdisj _ _ _ _ he1 hm1
  ·exact fun b i a1 a2 a3 a4 a5 a6=> hdisj _ _ _ _ he2 hm2 b i a4 a5 a6 a1 a2 a3
  ·exact absurd rfl hne
 ·obtain⟨key,uid,cs',m,he,hm,h1,h2,h3⟩:=hO
  rcases hcase _ _ _ _ he hm with⟨he,hm,_⟩|⟨rfl,rfl,rfl,rfl⟩
  ·exact hs.immsep b o v hb ⟨key,uid,cs',m,he,hm,h1,h2,h3⟩
  ·subst h1
   have:=(hfree o h2 h3).2;rw[hb]at this; cases this
theorem st_push_dead{J:Imm}{w:World}{κ:Iota}{h:Heap}(hs:St tbl κ J h w)(hfr:κ h.ents.length h.clk=none)(ds:List V):St tbl κ J (h.push ds) w:=by
 have hcase:∀key uid cs' m,(h.push ds).ents[key]? =some (uid,some cs')→κ key uid=some m→h.ents[key]? =some (uid,some cs'):=by
  intro key uid cs' m he hm;rcases ents_push he with he|⟨rfl,he'⟩
  ·exact he
  ·obtain⟨rfl,e2⟩:=Prod.mk.inj he'
   rw[hfr]at hm; cases hm
 exact⟨fun key uid cs' m he hm=> hs.ent _ _ _ _ (hcase _ _ _ _ he hm) hm,fun key uid cs1 m key' uid' cs2 m' he hm he' hm' hne=> hs.sep _ _ _ _ _ _ _ _ (hcase _ _ _ _ he hm) hm (hcase _ _ _ _ he' hm') hm' hne,hs.imm,
  fun b o v hb ⟨key,uid,cs',m,he,hm,h1⟩=> hs.immsep b o v hb ⟨key,uid,cs',m,hcase _ _ _ _ he hm,hm,h1⟩⟩
theorem thaw_spec{I J:Imm}{w:World}(hJ:I.le J):∀ (f:Nat) (ss:List Nat) (T:V) (c:Value) (L:List FL) (h:Heap) (v:V) (h':Heap) (ι:Iota),Own tbl w I ss T c L→thaw f ss T h=some (v,h')→St tbl ι J h w→
  (∀k u,h.clk≤u→u < h'.clk→ι k u=none)→PreL J w ι h L→∃κ,xq tbl J w ι h κ h' L∧RV tbl κ J v c:=by
 intro f;induction f with
 |zero=> intro ss T c L h v h' ι _ ht; simp[thaw]at ht
 |succ f ih=>
  intro ss T c L h v h' ι hO ht hs hfr hp;cases ss with
  |nil=>
   simp only[thaw,wB,wH]at ht;obtain⟨rfl,rfl⟩:=ht;exact⟨ι,.refl hs _,.imm (own_leaf hJ hO rfl hp.cover)⟩
  |cons s ss=>
   cases hO with
   |int ss k n=> simp only[thaw,wB,wH]at ht; obtain⟨rfl,rfl⟩:=ht; exact⟨ι,.refl hs _,.imm (.int k n)⟩
   |bool ss b=> simp only[thaw,wB,wH]at ht; obtain⟨rfl,rfl⟩:=ht; exact⟨ι,.refl hs _,.imm (.bool b)⟩
   |str ss l st h=> simp only[thaw,wB,wH]at ht; obtain⟨rfl,rfl⟩:=ht; exact⟨ι,.refl hs _,.imm (.str st l h)⟩
   |nils ss=> simp only[thaw,wB,wH]at ht; obtain⟨rfl,rfl⟩:=ht; exact⟨ι,.refl hs _,.imm .nils⟩
   |kept _ _ v c h=> simp only[thaw,wB,wH]at ht; obtain⟨rfl,rfl⟩:=ht; exact⟨ι,.refl hs _,.imm (h.mono hJ)⟩
   |nil _ a=>
    simp only[thaw,flat,List.flatMap_nil,mapS,wB,wH]at ht;obtain⟨rfl,rfl⟩:=ht;have hf0:ι h.ents.length h.clk=none:=hfr _ _ (wE _) (by simp[Heap.push]);exact⟨ι,⟨⟨_,rfl,fun e he=> by simp at he; subst he; simp[Heap.push]⟩,by simp[Heap.push],fun _ _ _=> rfl,st_push_dead hs hf0 [],
     (fun b i ho=> by
      obtain⟨key,uid,cs',m,he,hm,h1⟩:=ho;rcases ents_push he with he|⟨rfl,he'⟩
      ·exact .inl ⟨key,uid,cs',m,he,hm,h1⟩
      ·obtain⟨rfl,e2⟩:=Prod.mk.inj he'
       rw[hf0]at hm; cases hm),fun _ _ _ h=> .inl h⟩,.sl0 _ _ _ _ _⟩
   |sl _ xs b o cap sz vs Ls hss hc hz hx hl hL ho hi hr=>
    obtain rfl:=hss s ss rfl;simp only[thaw]at ht;split at ht
    ·rename_i ds h2 hm
     simp only[wB,wH]at ht;obtain⟨rfl,rfl⟩:=ht;have hpc:=hp.pair;rw[vG]at hpc;have hp2:PreL J w ι h Ls.flatten:=⟨fun x hx=> hp.good x (wI _ hx),hpc.2,hp.cover.sub fun x hx=> wI _ hx⟩;have hclk2:=mapS_clk (fun T h v h'=> thaw_clk f ss T h v h') _ _ _ _ hm;obtain⟨_,κ,r1,r2⟩:=thaw_list (f:=thaw f ss) (ss:=ss) (fun T c L h v h' ι=> ih ss T c L h v h' ι) (fun T h v h'=> thaw_clk f ss T h v h') _ vs Ls h ds h2 ι hl hL hr hm hs
      (fun k u a b'=> hfr k u a (by simp[Heap.push]; omega)) hp2
     have hf0:κ h2.ents.length h2.clk=none:=by
      rw[r1.iota _ _ (.inr (wE _))];exact hfr _ _ (by omega) (by simp[Heap.push])
     obtain⟨g1,g2⟩:=hp.good _ (wG ..) rfl;have hfl:=flat_length hx;have hle:xs.length*sz≤cap*sz:=yB _ hc;have hst:=st_adopt r1.st hf0 (l:=⟨b,o,cap*sz⟩) r2 ho g1 hi (by simp only; omega) (fun i i1 i2=> by
      obtain⟨q1,q2⟩:=g2 b i ⟨rfl,i1,i2⟩;refine⟨fun hO=>?_,q2⟩;rcases r1.own b i hO with hO|⟨y,hy,_,hyb⟩
      ·exact q1 hO
      ·exact hpc.1 y hy b i ⟨rfl,i1,i2⟩ hyb)
     obtain⟨n,hn,hn2⟩:=r1.ents;refine⟨κ.set h2.ents.length h2.clk ⟨b,o,cap*sz⟩,⟨⟨n++[(h2.clk,some ds)],by simp[Heap.push,hn],fun e he=>?_⟩,by simp[Heap.push]; omega,fun k u hk=>?_,hst,fun p i hO=>?_,fun k u l hl'=>?_⟩,?_⟩
     ·simp only[Heap.push]
      rcases wN.1 he with he|he
      ·have:=hn2 e he; omega
      ·simp at he; subst he; simp only; omega
     ·unfold Iota.set
      rw[if_neg]
      ·exact r1.iota k u (by simp[Heap.push]at hk; omega)
      ·rintro⟨rfl,rfl⟩
       simp[Heap.push]at hk;omega
     ·obtain⟨key,uid,cs',m,he,hm',h1,h2',h3⟩:=hO
      rcases ents_push he with he|⟨rfl,he'⟩
      ·have hk:=gA he
       unfold Iota.set at hm';rw[if_neg (by omega)]at hm';rcases r1.own p i ⟨key,uid,cs',m,he,hm',h1,h2',h3⟩with hO|⟨y,hy,hy2⟩
       ·exact .inl hO
       ·exact .inr ⟨y,wI _ hy,hy2⟩
      ·obtain⟨rfl,e2⟩:=Prod.mk.inj he'
       unfold Iota.set at hm';rw[if_pos ⟨rfl,rfl⟩]at hm';cases hm';exact .inr ⟨_,wG ..,rfl,h1,h2',h3⟩
     ·unfold Iota.set at hl'
      split at hl'
      ·cases hl'
       exact .inr ⟨_,wG ..,rfl,rfl⟩
      ·rcases r1.locs k u l hl' with hl'|⟨y,hy,hy2⟩
       ·exact .inl hl'
       ·exact .inr ⟨y,wI _ hy,hy2⟩
     ·have:=RV.sl (tbl:=tbl) (ι:=κ.set h2.ents.length h2.clk ⟨b,o,cap*sz⟩) (I:=J) h2.ents.length h2.clk 0 xs.length sz cap ⟨b,o,cap*sz⟩ (by simp[Iota.set]) (by simp) hc hz
      simpa using this
    ·cases ht
   |agg _ cs vs Ls hl hL ho hr=>
    simp only[thaw]at ht;split at ht
    ·rename_i ds h2 hm
     simp only[wB,wH]at ht;obtain⟨rfl,rfl⟩:=ht;obtain⟨_,κ,r1,r2⟩:=thaw_list (f:=thaw f (s::ss)) (ss:=s::ss) (fun T c L h v h' ι=> ih (s::ss) T c L h v h' ι) (fun T h v h'=> thaw_clk f (s::ss) T h v h') _ vs Ls h ds h2 ι hl hL hr hm hs hfr hp;exact⟨κ,r1,.agg _ _ r2.len ho r2.at_⟩
    ·cases ht
   |tup _ cs vs Ls hl hL hr=>
    simp only[thaw]at ht;split at ht
    ·rename_i ds h2 hm
     simp only[wB,wH]at ht;obtain⟨rfl,rfl⟩:=ht;obtain⟨_,κ,r1,r2⟩:=thaw_list (f:=thaw f (s::ss)) (ss:=s::ss) (fun T c L h v h' ι=> ih (s::ss) T c L h v h' ι) (fun T h v h'=> thaw_clk f (s::ss) T h v h') _ vs Ls h ds h2 ι hl hL hr hm hs hfr hp;exact⟨κ,r1,.tup _ _ r2.len r2.at_⟩
    ·cases ht
end Rv
