/-
  The reading of the code, part 1.
-/
import Derived.Calls
import Derived.Orders
import Derived.Laws.Entries
import Derived.Laws.Cells
import Derived.Laws.Concat
import Derived.Lib.Strings
import Derived.Laws.Slices
import Derived.Laws.StructEq
import Derived.ChangeKeysEq
import Derived.Laws.BytesString
import Derived.Laws.MakeOwn
import Derived.Laws.CopyRow
import Derived.Laws.AppendOwn
import Derived.Eval
import Derived.Lib.Bytealg
import Derived.ProofKit
import Derived.Deep.Slices
import Derived.Shelf.Strconv.Itoa3
import Derived.Shelf.Strconv.Atoi
import Derived.Lib.AtoiErrMem
import Derived.Lib.AppendIntMem
import Derived.Lib.ItoaLen
set_option linter.unusedVariables false
namespace Go.Ln
open Go
section
theorem aG {α β}{o:Option α}{f:α→Option β}{b:β}:o.bind f=some b↔∃a,o=some a∧f a=some b:=Option.bind_eq_some_iff
theorem aI {α β}{x:β}{f:α→β}{o:Option α}:o.map f=some x↔∃a,o=some a∧f a=x:=Option.map_eq_some_iff
theorem cd {α}{a:α}{l:List α}{i:Nat}:l[i]?=some a↔∃h,l[i]=a:=List.getElem?_eq_some_iff
theorem d5 {α}{l:List α}{i:Nat}(h:i<l.length):l[i]?=some l[i]:=List.getElem?_eq_getElem h
theorem ii {α}{l:List α}{i:Nat}{a:α}(h:l[i]?=some a):a∈l:=List.mem_of_getElem? h
theorem lm {α}{l m:List α}{i:Nat}(h:i<l.length):(l++m)[i]?=l[i]?:=List.getElem?_append_left h
theorem mY {α}{l m:List α}{i:Nat}(h:l.length≤i):(l++m)[i]?=m[i - l.length]?:=List.getElem?_append_right h
theorem pW {α}{a:α}{l:Array α}{i:Nat}:l[i]?=some a↔∃h,l[i]=a:=Array.getElem?_eq_some_iff
theorem cm {α β}{a:α}{f:α→Option β}:(some a).bind f=f a:=rfl
inductive V where
 | und
 | dead
 | bool (b:Bool)
 | int (k:IntKind) (n:Int)
 | str (s:ByteArray)
 | nilp
 | nilfn
 | nilif
 | fn (f:FuncId) (caps:List V)
 | iface (t:TypeId) (v:V)
 | agg (cs:List V)
 | tup (vs:List V)
 | iptr (e:V) (k:Nat)
 | isl (isnil:Bool) (es:List V)
 | uptr (e:V)
 | usl (s:Nat) (es:List V)
 | hp (o nv:Nat) (path:List (Nat×Nat)) (s i k:Nat)
 | hs (o nv:Nat) (path:List (Nat×Nat)) (s off len:Nat)
 deriving Inhabited
def cells:V→List V
 | .agg cs=>cs
 | v=>[v]
structure Root where
 nv:Nat
 s:Nat
 es:List V
abbrev ai:=Nat→Option Root
def upd (rt:ai)(o:Nat)(r:Option Root):ai:=fun x=>if x=o then r else rt x
structure St where
 tm:List V
 rt:ai
 nx:Nat
structure TI where
 desc:TypeDesc
 size:Nat
 bytes:Nat
 zv:Value
structure Ent where
 own:List Bool
 F:List V→Option (V×List V)
structure Env where
 ty:TypeId→Option TI
 fn:FuncId→Option Ent
 eqs:List TypeId:=[]
def Env.desc (E:Env)(t:TypeId):Option TypeDesc:=
 match E.ty t with
 | some i=>some i.desc
 | none=>none
def aU:List (Nat×Nat)→Nat→List V→Option (Nat×List V)
 | [],s,es=>some (s,es)
 | (i,k)::p,_,es=>
  match es[i]? with
  | none=>none
  | some e=>match (cells e)[k]? with
   | some (.usl s' es')=>aU p s' es'
   | some (.uptr e')=>aU p (cells e').length [e']
   | _=>none
def cH (e:V)(k:Nat)(v:V):V:=
 match e with
 | .agg cs=>.agg (cs.set k v)
 | _=>v
def setRow (new:List V):List (Nat×Nat)→List V→Option (List V)
 | [],_=>some new
 | (i,k)::p,es=>
  match es[i]? with
  | none=>none
  | some e=>match (cells e)[k]? with
   | some (.usl s x)=>(setRow new p x).map fun y=>es.set i (cH e k (.usl s y))
   | some (.uptr x)=>(setRow new p [x]).bind fun y=>match y with
    | [z]=>some (es.set i (cH e k (.uptr z)))
    | _=>none
   | _=>none
def bA (rt:ai)(o nv:Nat)(path:List (Nat×Nat)):Option Root:=
 match rt o with
 | some r=>if path.isEmpty||r.nv==nv then some r else none
 | none=>none
def bD (rt:ai)(o nv:Nat)(path:List (Nat×Nat)):Option (Nat×List V):=
 (bA rt o nv path).bind fun r=>aU path r.s r.es
def GS (o nv:Nat)(path:List (Nat×Nat))(i k:Nat):V→V
 | .usl s es=>.hs o nv (path++[(i,k)]) s 0 es.length
 | .uptr e=>.hp o nv (path++[(i,k)]) (cells e).length 0 0
 | v=>v
def nz (o nv:Nat)(path:List (Nat×Nat))(i:Nat):Nat→List V→List V
 | _,[]=>[]
 | k,v::vs=>GS o nv path i k v::nz o nv path i (k+1) vs
mutual
def ez:V→V
 | .agg cs=>.agg (fB cs)
 | .usl _ es=>.isl false (fB es)
 | .uptr e=>.iptr (ez e) 0
 | v=>v
def fB:List V→List V
 | []=>[]
 | v::vs=>ez v::fB vs
end
def jE (rt:ai):V→Option (List V)
 | .iptr e k=>some ((cells e).drop k)
 | .hp o nv path s i k=>
  (bA rt o nv path).bind fun r=>(aU path r.s r.es).bind fun x=>
   if x.1=s then (x.2[i]?).map fun e=>nz o r.nv path i k ((cells e).drop k) else none
 | _=>none
def eH:TypeDesc→Bool
 | .struct _=>true
 | .array _ _=>true
 | _=>false
def al:V→Bool
 | .agg _=>true
 | _=>false
def jH (a:Bool)(cs:List V):Option V:=
 if a then some (.agg cs) else match cs with
  | [v]=>if al v then none else some v
  | _=>none
def eP:V→Bool   -- what a cell may hold
 | .agg _=>false
 | .tup _=>false
 | .und=>false
 | .dead=>false
 | _=>true
def cl:V→Bool   -- a value without any memory of its own and without a handle
 | .bool _ | .int _ _ | .str _ | .nilp | .nilfn | .nilif | .iptr _ _ | .isl _ _=>true
 | .fn _ []=>true
 | _=>false
def eD (rt:ai)(o:Nat)(r:Root)(path:List (Nat×Nat)):Option ai:=
 match path.reverse with
 | []=>some (upd rt o none)
 | (i,k)::q=>(aU q.reverse r.s r.es).bind fun y=>(y.2[i]?).bind fun e=>
  (setRow (y.2.set i (cH e k .dead)) q.reverse r.es).map fun es=>upd rt o (some { r with es:=es })
def bX (rt:ai):V→Option (V×ai)
 | .hs o nv path s off len=>
  (bA rt o nv path).bind fun r=>(aU path r.s r.es).bind fun x=>
   if off=0∧len≤x.2.length∧s=x.1 then (eD rt o r path).map fun rt'=>(.usl x.1 (x.2.take len),rt') else none
 | .hp o nv path _ i k=>
  (bA rt o nv path).bind fun r=>(aU path r.s r.es).bind fun x=>
   match x.2 with
   | [e]=>if i=0∧k=0 then (eD rt o r path).map fun rt'=>(.uptr e,rt') else none
   | _=>none
 | v=>if cl v then some (v,rt) else none
def fh (rt:ai):List V→Option (List V×ai)
 | []=>some ([],rt)
 | v::vs=>(bX rt v).bind fun x=>(fh x.2 vs).map fun y=>(x.1::y.1,y.2)
def gF (rt:ai):V→Option (V×ai)
 | .agg cs=>(fh rt cs).map fun x=>(.agg x.1,x.2)
 | v=>bX rt v
def du (rt:ai):List V→Option (List V×ai)
 | []=>some ([],rt)
 | v::vs=>(gF rt v).bind fun x=>(du x.2 vs).map fun y=>(x.1::y.1,y.2)
def fO (rt:ai):V→Option V
 | .hs o nv path s off len=>(bD rt o nv path).bind fun x=>if s=x.1∧off+len≤x.2.length then some (.isl false (fB ((x.2.drop off).take len))) else none
 | .hp o nv path s i k=>(bD rt o nv path).bind fun x=>if s=x.1 then (x.2[i]?).map fun e=>.iptr (ez e) k else none
 | .isl _ es=>some (.isl false es)
 | v=>if cl v then some v else none
def iu (rt:ai):List V→Option (List V)
 | []=>some []
 | v::vs=>(fO rt v).bind fun x=>(iu rt vs).map fun y=>x::y
def hJ (rt:ai):V→Option V
 | .agg cs=>(iu rt cs).map .agg
 | .fn f caps=>(iu rt caps).map (.fn f)
 | v=>fO rt v
def gh (c:Nat):Nat→Nat→List V→List V×List (Nat×Nat×Root)
 | _,_,[]=>([],[])
 | id,k,.usl s es::vs=>let y:=gh c (id+1) (k+1) vs;(.hs id 0 [] s 0 es.length::y.1,(c,k,⟨0,s,es⟩)::y.2)
 | id,k,.uptr e::vs=>let y:=gh c (id+1) (k+1) vs;(.hp id 0 [] (cells e).length 0 0::y.1,(c,k,⟨0,(cells e).length,[e]⟩)::y.2)
 | id,k,v::vs=>let y:=gh c id (k+1) vs;(v::y.1,y.2)
def kh (id c:Nat)(v:V):V×List (Nat×Nat×Root):=
 let y:=gh c id 0 (cells v)
 (match v with
 | .agg _=>.agg y.1
 | _=>y.1.headD .und,y.2)
def bh:Nat→Nat→List V→List V×List (Nat×Nat×Root)
 | _,_,[]=>([],[])
 | id,c,v::vs=>let x:=kh id c v;let y:=bh (id+x.2.length) (c+1) vs;(x.1::y.1,x.2++y.2)
def dU (rt:ai)(id:Nat)(R:List (Nat×Nat×Root)):ai:=fun o=>if id≤o∧o<id+R.length then (R[o - id]?).map fun x=>x.2.2 else rt o
def eE:V→List V
 | .tup vs=>vs
 | v=>[v]
def qh (r:V)(ys:List V):V:=
 match r with
 | .tup _=>.tup ys
 | _=>ys.headD .und
def jr:Value→Option V
 | .bool b=>some (.bool b)
 | .int k n=>some (.int k n)
 | .string s=>some (.str s)
 | .pointer none=>some .nilp
 | .slice none 0 0=>some (.isl true [])
 | .nilFunc=>some .nilfn
 | .nilIface=>some .nilif
 | _=>none
def gw:List Value→Option (List V)
 | []=>some []
 | v::vs=>(jr v).bind fun x=>(gw vs).map fun y=>x::y
def gU:Value→Option V
 | .agg cs=>(gw cs.toList).map .agg
 | v=>jr v
def ev (st:St):Operand→Option V
 | .tmp t=>st.tm[t]?
 | .const v=>gU v
 | .func f=>some (.fn f [])
 | .global _=>none
def gQ (st:St):List Operand→Option (List V)
 | []=>some []
 | x::xs=>(ev st x).bind fun v=>(gQ st xs).map fun vs=>v::vs
def mA (st:St):Option Operand→Option (Option V)
 | some x=>(ev st x).map some
 | none=>some none
def intBits (op:BinOp)(k:IntKind)(x y:Int):Option V:=
 let a:=BitVec.ofInt k.bits x
 let b:=BitVec.ofInt k.bits y
 match op with
 | .and=>some (.int k (k.wrap (a &&& b).toNat))
 | .or=>some (.int k (k.wrap (a ||| b).toNat))
 | .xor=>some (.int k (k.wrap (a ^^^ b).toNat))
 | .andNot=>some (.int k (k.wrap (a &&& ~~~b).toNat))
 | _=>none
def vU (op:BinOp)(k:IntKind)(x y:Int):Option V:=
 match op with
 | .add=>some (.int k (k.wrap (x+y)))
 | .sub=>some (.int k (k.wrap (x - y)))
 | .mul=>some (.int k (k.wrap (x*y)))
 | .quo=>if y=0 then none else some (.int k (k.wrap (x.tdiv y)))
 | .rem=>if y=0 then none else some (.int k (x.tmod y))
 | .eql=>some (.bool (x==y))
 | .neq=>some (.bool (x != y))
 | .lss=>some (.bool (decide (x<y)))
 | .leq=>some (.bool (decide (x≤y)))
 | .gtr=>some (.bool (decide (x>y)))
 | .geq=>some (.bool (decide (x≥y)))
 | op=>intBits op k x y
def uY (op:BinOp)(k k':IntKind)(a b:Int):Option V:=
 match op with
 | .shl=>if b<0 then none else some (.int k (k.wrap (a*2 ^ min b.toNat k.bits)))
 | .shr=>if b<0 then none else some (.int k (a.fdiv (2 ^ min b.toNat k.bits)))
 | op=>if k=k' then vU op k a b else none
def v8 (op:BinOp)(x y:ByteArray):Option V:=
 match op with
 | .add=>if x.size+y.size≤9223372036854775807 then some (.str (x++y)) else none
 | .eql=>some (.bool (x.data.toList==y.data.toList))
 | .neq=>some (.bool !(x.data.toList==y.data.toList))
 | .lss=>some (.bool (Op.bytesLess x.data.toList y.data.toList))
 | .leq=>some (.bool (Op.bytesLess x.data.toList y.data.toList||x.data.toList==y.data.toList))
 | .gtr=>some (.bool !(Op.bytesLess x.data.toList y.data.toList||x.data.toList==y.data.toList))
 | .geq=>some (.bool !(Op.bytesLess x.data.toList y.data.toList))
 | _=>none
def qe:V→V→Option Bool
 | .isl true _,.isl true []=>some true
 | .isl false (_::_),.isl true []=>some false
 | .isl true [],.isl false (_::_)=>some false
 | .nilif,.nilif=>some true
 | .iface _ _,.nilif=>some false
 | .nilif,.iface _ _=>some false
 | .nilfn,.nilfn=>some true
 | .fn _ _,.nilfn=>some false
 | .nilp,.nilp=>some true
 | .hp _ _ _ _ _ _,.nilp=>some false
 | .iptr _ _,.nilp=>some false
 | _,_=>none
def nJ:Operand→Bool
 | .const _=>true
 | _=>false
def nr:TypeDesc→Bool
 | .interface _=>true
 | _=>false
def rA:TypeDesc→V→Bool
 | .slice _,.isl _ _=>true
 | .interface _,.nilif=>true
 | .interface _,.iface _ _=>true
 | .func _ _ _,.nilfn=>true
 | .func _ _ _,.fn _ _=>true
 | .pointer _,.nilp=>true
 | .pointer _,.iptr _ _=>true
 | _,_=>false
def vl:V→V→Option Bool
 | .bool b,.bool c=>some (b==c)
 | .int k x,.int k' y=>if k=k' then some (x==y) else none
 | .str x,.str y=>some (x.data.toList==y.data.toList)
 | _,_=>none
def CU:TypeDesc→V→Bool
 | .bool,.bool _=>true
 | .int _,.int _ _=>true
 | .string,.str _=>true
 | _,_=>false
def jP (ty:TypeId→Option TI):Nat→List Field→List V→List V→Option Bool
 | _,[],[],[]=>some true
 | n,f::fs,v::vs,u::us=>match ty f.type with
  | some t => if f.offset == n && f.name != "_" && CU t.desc v then (vl v u).bind fun b => (jP ty (n + 1) fs vs us).map fun c => b && c else none
  | none=>none
 | _,_,_,_=>none
def qs (E:Env)(op:BinOp)(t:TypeId)(x y:V)(lit:Bool):Option V:=
 match x,y with
 | .int k a,.int k' b=>uY op k k' a b
 | .str a,.str b=>v8 op a b
 | .bool a,.bool b=>
  match op,E.desc t with
  | .eql,some .bool=>some (.bool (a==b))
  | .neq,some .bool=>some (.bool !(a==b))
  | _,_=>none
 | .agg xs,.agg ys=>
  match op,E.ty t with
  | .eql,some { desc:=.struct fs,.. }=>if E.eqs.contains t then (jP E.ty 0 fs.toList xs ys).map .bool else none
  | .neq,some { desc:=.struct fs,.. }=>if E.eqs.contains t then (jP E.ty 0 fs.toList xs ys).map fun b=>.bool !b else none
  | _,_=>none
 | x,y=>
  match E.desc t with
  | some d=>if rA d x&&(lit || !nr d) then
   (match op with
   | .eql=>(qe x y).map .bool
   | .neq=>(qe x y).map fun b=>.bool !b
   | _=>none) else none
  | none=>none
def Pf (op:UnOp):V→Option V
 | .bool b=>match op with
  | .not=>some (.bool !b)
  | _=>none
 | .int k n=>match op with
  | .neg=>some (.int k (k.wrap (0 - n)))
  | .xor=>intBits .xor k (if k.signed then -1 else k.max) n
  | _=>none
 | _=>none
def rl:List V→Option (List UInt8)
 | []=>some []
 | .int .u8 n::vs=>(rl vs).map fun r=>UInt8.ofNat n.toNat::r
 | _=>none
def yB (rt:ai):V→Option (List V)
 | .isl _ es=>some es
 | .hs o nv p s off len=>(bD rt o nv p).bind fun x=>if s=x.1∧off+len≤x.2.length then some ((x.2.drop off).take len) else none
 | _=>none
def N4:Option TypeDesc→Bool
 | some (.int .u8)=>true
 | _=>false
def qc (E:Env)(rt:ai)(src dst:TypeId)(x:V):Option V:=
 match E.desc src,E.desc dst,x with
 | some _,some (.int k),.int _ n=>some (.int k (k.wrap n))
 | some .string,some .string,.str s=>some (.str s)
 | some (.slice e),some .string,x=>if N4 (E.desc e) then (yB rt x).bind fun es=>(rl es).map fun bs=>.str ⟨bs.toArray⟩ else none
 | _,_,_=>none
def gO (d:Int):Option V→Option Int
 | some (.int _ n)=>some n
 | some _=>none
 | none=>some d
def jS (E:Env)(rt:ai)(t:TypeId)(x:V)(lo hi:Option V):Option V:=
 match E.desc t,x with
 | some .string,.str s=>(gO 0 lo).bind fun l=>(gO s.size hi).bind fun h=>if 0≤l∧l≤h∧h≤s.size then some (.str (s.extract l.toNat h.toNat)) else none
 | some (.slice e),.isl n es=>(gO 0 lo).bind fun l=>(gO es.length hi).bind fun h=>(E.ty e).bind fun ei=>
  if 0≤l∧l≤h∧h≤es.length∧es.all (fun v=>(cells v).length==ei.size) then some (.isl n ((es.drop l.toNat).take (h.toNat - l.toNat))) else none
 | some (.slice e),.hs o nv p s off len=>
  if (E.ty e).map (·.size)=some s then
   (gO 0 lo).bind fun l=>(gO len hi).bind fun h=>if 0≤l∧l≤h∧h≤len then some (.hs o nv p s (off+l.toNat) (h.toNat - l.toNat)) else none
  else none
 | _,_=>none
def kV (rt:ai):V→Bool
 | .hp o nv p _ _ _=>(bD rt o nv p).isSome
 | .hs o nv p _ _ _=>(bD rt o nv p).isSome
 | _=>true
def fC:Option TypeDesc→Bool
 | some (.slice _)=>true
 | _=>false
def BH:Option TypeDesc→Bool
 | some .string=>true
 | _=>false
def qy (d:Option TypeDesc):V→Option V
 | .str s=>if BH d then some (.int .i64 s.size) else none
 | .isl _ es=>if fC d then some (.int .i64 es.length) else none
 | .hs _ _ _ _ _ len=>if fC d then some (.int .i64 len) else none
 | _=>none
def fieldAt? (E:Env)(s:TypeId)(f:Nat):Option (Nat×Nat×Bool):=
 match E.ty s with
 | some { desc:=.struct fs,.. }=>(fs[f]?).bind fun x=>(E.ty x.type).map fun i=>(x.offset,i.size,eH i.desc)
 | _=>none
def iE (E:Env)(t:TypeId)(x:V)(i:Int):Option V:=
 match E.desc t,x with
 | some (.slice e),.isl _ es=>if 0≤i then (es[i.toNat]?).bind fun v=>if (E.ty e).map (·.size)=some (cells v).length then some (.iptr v 0) else none else none
 | some (.slice e),.hs o nv p s off len=>if 0≤i∧i<len∧(E.ty e).map (·.size)=some s then some (.hp o nv p s (off+i.toNat) 0) else none
 | some (.array n e),.hp o nv p s j k=>(E.ty e).bind fun ei=>if 0≤i∧i<n∧k+i.toNat*ei.size<s then some (.hp o nv p s j (k+i.toNat*ei.size)) else none
 | some (.array n e),.iptr v k=>(E.ty e).bind fun ei=>if 0≤i∧i<n∧k+i.toNat*ei.size<(cells v).length then some (.iptr v (k+i.toNat*ei.size)) else none
 | _,_=>none
def Ge (E:Env)(t:TypeId)(x:V)(i:Int):Option V:=
 match E.ty t,x with
 | some { desc:=.string,.. },.str s=>if 0≤i then (s[i.toNat]?).map fun b=>.int .u8 b.toNat else none
 | _,_=>none
def lL (place:Nat→Option (Nat×Nat))(cs:List V):List (Nat×V)→Option (List V)
 | []=>some cs
 | (i,v)::rest=>match place i with
  | none=>none
  | some (off,size)=>if (cells v).length=size∧off+size≤cs.length∧(cells v).all eP then lL place (cs.take off++cells v++cs.drop (off+size)) rest else none
def vh (E:Env):List Field→Option (List (Nat×Nat))
 | []=>some []
 | f::fs=>(E.ty f.type).bind fun i=>(vh E fs).map fun r=>(f.offset,i.size)::r
def Bx (E:Env)(t:TypeId)(parts:List (Nat×V)):Option V:=
 match E.ty t with
 | some ti=>(gU ti.zv).bind fun z=>
  (match ti.desc with
  | .struct fs=>(vh E fs.toList).bind fun ps=>(lL (fun i=>ps[i]?) (cells z) parts).map .agg
  | .array _ e=>(E.ty e).bind fun ei=>(lL (fun i=>some (i*ei.size,ei.size)) (cells z) parts).map .agg
  | _=>none)
 | none=>none
def js (sz:Nat)(a:Bool):List V→List (Nat×V)→Option (List V)
 | es,[]=>some es
 | es,(i,v)::rest=>if i<es.length∧(cells v).length=sz∧al v=a∧(cells v).all eP then js sz a (es.set i v) rest else none
def fj (st:St):List (Nat×Operand)→Option (List (Nat×V))
 | []=>some []
 | (i,x)::xs=>(ev st x).bind fun v=>(fj st xs).map fun vs=>(i,v)::vs
def BC (f:Int→Int→Int)(k:IntKind):Int→List V→Option Int
 | m,[]=>some m
 | m,.int k' n::vs=>if k=k' then BC f k (f m n) vs else none
 | _,_=>none
def vR (f:Int→Int→Int):List V→Option V
 | .int k n::vs=>(BC f k n vs).map (.int k)
 | _=>none
def jb (e:V):Bool:=(cells e).all cl
def eS (rt:ai):V→Option (List V×ai)
 | .isl _ es=>some (es,rt)
 | .hs o nv p s off len=>(bD rt o nv p).bind fun x=>
  if off+len≤x.2.length then
   let es:=(x.2.drop off).take len
   if s≠x.1 then none
   else if es.all jb then some (es,rt)
   else if p.isEmpty∧off=0∧len=x.2.length then some (es,upd rt o none) else none
  else none
 | _=>none
def mF:Nat:=1099511627776
def jX (E:Env)(rt:ai)(id:Nat)(t:TypeId)(d x:V):Option (V×ai):=
 match E.ty t with
 | some { desc:=.slice e,.. }=>(E.ty e).bind fun ei=>(eS rt x).bind fun y=>
  if (0<ei.size∧ei.zv.cells.size=ei.size)∧y.1.all (fun v=>(cells v).length==ei.size&&(cells v).all eP)=true then
   match d with
   | .isl true _=>if y.1.length*ei.bytes≤mF∧y.1.length≤mF then some (.hs id 0 [] ei.size 0 y.1.length,upd y.2 id (some ⟨0,ei.size,y.1⟩)) else none
   | .hs o nv p s off len=>(bD y.2 o nv p).bind fun z=>
    if off=0∧len=z.2.length∧s=ei.size∧(len+y.1.length)*ei.bytes≤mF∧len+y.1.length≤mF then
     (bX y.2 d).map fun u=>(.hs id 0 [] ei.size 0 (len+y.1.length),upd u.2 id (some ⟨0,ei.size,z.2++y.1⟩))
    else none
   | _=>none
  else none
 | _=>none
def mP (E:Env)(rt:ai)(t:TypeId)(p x:V):Option ai:=
 match p with
 | .hp o nv path s i k=>(E.ty t).bind fun ti=>(gF rt x).bind fun y=>
  if (cells y.1).length=ti.size∧al y.1=eH ti.desc∧0<ti.size then
   (bA y.2 o nv path).bind fun r=>(aU path r.s r.es).bind fun z=>
    if z.1=s then
     (z.2[i]?).bind fun e=>
      let cs:=cells e
      if k+ti.size≤cs.length then
       let cs':=cs.take k++cells y.1++cs.drop (k+ti.size)
       let e':=if al e then .agg cs' else cs'.headD .dead
       let plain:=((cs.drop k).take ti.size).all cl&&(cells y.1).all cl
       (setRow (z.2.set i e') path r.es).map fun es=>upd y.2 o (some { nv:=if plain then r.nv else r.nv+1,s:=r.s,es:=es })
      else none
    else none
  else none
 | _=>none
def BF (rt:ai):V→Option V
 | .hs o _ [] s off len=>(rt o).bind fun r=>if off=0∧len=r.es.length∧s=r.s then some (.usl s r.es) else none
 | .hp o _ [] s i k=>(rt o).bind fun r=>match r.es with
  | [e]=>if i=0∧k=0∧s=r.s∧(cells e).length=s then some (.uptr e) else none
  | _=>none
 | v=>if cl v then some v else none
def ib (rt:ai):V→Option V
 | .hs o nv path s off len=>(bA rt o nv path).bind fun r=>(aU path r.s r.es).bind fun x=>if off=0∧len=x.2.length∧s=x.1 then some (.usl s x.2) else none
 | .hp o nv path s i k=>(bA rt o nv path).bind fun r=>(aU path r.s r.es).bind fun x=>match x.2 with
  | [e]=>if i=0∧k=0∧s=x.1∧(cells e).length=s then some (.uptr e) else none
  | _=>none
 | v=>if cl v then some v else none
def ob (rt:ai):List V→Option (List V)
 | []=>some []
 | v::vs=>(ib rt v).bind fun x=>(ob rt vs).map fun y=>x::y
def ox (rt:ai):V→Option V
 | .agg cs=>(ob rt cs).map .agg
 | v=>ib rt v
def eK (rt:ai):List Bool→List V→Option (List V)
 | _,[]=>some []
 | true::bs,v::vs=>(ox rt v).bind fun x=>(eK rt bs vs).map fun y=>x::y
 | _::bs,v::vs=>(hJ rt v).bind fun x=>(eK rt bs vs).map fun y=>x::y
 | [],v::vs=>(hJ rt v).bind fun x=>(eK rt [] vs).map fun y=>x::y
abbrev fU:=List (Nat×Nat)
abbrev mr:=Nat×fU×Nat×Nat
def pJ (a:Nat):Nat→List V→List mr
 | _,[]=>[]
 | k,.hs o _ p _ _ _::vs=>(o,p,a,k)::pJ a (k+1) vs
 | k,.hp o _ p _ _ _::vs=>(o,p,a,k)::pJ a (k+1) vs
 | k,_::vs=>pJ a (k+1) vs
def aZ:Nat→List Bool→List V→List mr
 | a,true::bs,v::vs=>pJ a 0 (cells v)++aZ (a+1) bs vs
 | a,false::bs,_::vs=>aZ (a+1) bs vs
 | _,_,_=>[]
def dI:List mr→Nat→Option (fU×Nat×Nat)
 | [],_=>none
 | (o,y)::g,x=>if x=o then some y else dI g x
def lz:List Nat→Bool
 | []=>true
 | x::xs=>!xs.contains x&&lz xs
def pF (r:Root):V→Option Root
 | .usl s es=>if s=r.s then some ⟨r.nv+1,s,es⟩ else none
 | .uptr e=>if (cells e).length=r.s then some ⟨r.nv+1,r.s,[e]⟩ else none
 | _=>none
def iJ (p:fU)(r:Root)(y:V):Option Root:=
 match p with
 | []=>pF r y
 | q::p=>(aU (q::p) r.s r.es).bind fun x=>match y with
  | .usl s es=>if s=x.1∧es.length=x.2.length then (setRow es (q::p) r.es).map fun es'=>⟨r.nv+1,r.s,es'⟩ else none
  | .uptr e=>if (cells e).length=x.1∧x.2.length=1 then (setRow [e] (q::p) r.es).map fun es'=>⟨r.nv+1,r.s,es'⟩ else none
  | _=>none
def dV:List Bool→List V→Nat→Option V
 | true::_,x::_,0=>some x
 | true::bs,_::xs,a+1=>dV bs xs a
 | false::bs,xs,a+1=>dV bs xs a
 | _,_,_=>none
def iK (rt:ai)(g:List mr)(own:List Bool)(cV:List V)(dead:List Nat):ai:=fun o=>
 match dI g o with
 | some (p,a,k)=>(rt o).bind fun r=>((dV own cV a).bind fun x=>(cells x)[k]?).bind (iJ p r)
 | none=>if dead.contains o then none else rt o
mutual
def cy:V→Bool
 | .isl _ es=>!es.isEmpty
 | .iptr _ _=>true
 | .agg cs=>cY cs
 | .tup vs=>cY vs
 | .usl _ es=>cY es
 | .uptr e=>cy e
 | .fn _ caps=>cY caps
 | .iface _ v=>cy v
 | _=>false
def cY:List V→Bool
 | []=>false
 | v::vs=>cy v||cY vs
end
mutual
def di:V→List Nat
 | .hs o _ _ _ _ _=>[o]
 | .hp o _ _ _ _ _=>[o]
 | .agg cs=>dS cs
 | .tup vs=>dS vs
 | .fn _ caps=>dS caps
 | _=>[]
def dS:List V→List Nat
 | []=>[]
 | v::vs=>di v++dS vs
end
def bl:List Bool→List V→List Nat
 | true::bs,_::vs=>bl bs vs
 | false::bs,v::vs=>di v++bl bs vs
 | [],v::vs=>di v++bl [] vs
 | _,[]=>[]
def bO:Nat:=16
def jB (E:Env)(rt:ai)(id:Nat)(f:FuncId)(args:List V):Option (V×ai):=
 (E.fn f).bind fun e=>
  let g:=aZ 0 e.own args
  let lent:=bl e.own args
  if lz (0::g.map (·.1))&&lent.all (fun o=>!(0::g.map (·.1)).contains o) then
   (eK rt e.own args).bind fun xs=>(e.F xs).bind fun r=>
    let rt1:=iK rt g e.own r.2 (if cy r.1||cY r.2 then lent else [])
    let y:=bh id 0 (eE r.1)
    if y.2.length≤bO then some (qh r.1 y.1,dU rt1 id y.2) else none
  else none
def rm (E:Env)(rt:ai)(t:TypeId):V→Option ai
 | .isl _ []=>if fC (E.desc t) then some rt else none
 | .hs o nv [] s off len=>match E.ty t with
  | some { desc:=.slice e,.. }=>(E.ty e).bind fun ei=>(gU ei.zv).bind fun z=>(rt o).bind fun r=>
   if (s=r.s∧off+len≤r.es.length∧(cells z).length=s∧0<s)∧(r.es.all jb&&jb z)=true then
    some (upd rt o (some ⟨r.nv,s,r.es.take off++List.replicate len z++r.es.drop (off+len)⟩)) else none
  | _=>none
 | _=>none
def eU (E:Env)(rt:ai)(id:Nat)(b:Builtin)(ts:Array TypeId)(args:List V):Option (V×ai):=
 match b,args with
 | .len,[x]=>if kV rt x then (ts[0]?).bind fun t=>(qy (E.desc t) x).map fun v=>(v,rt) else none
 | .append,[d,x]=>(ts[0]?).bind fun t=>(ts[1]?).bind fun t1=>if fC (E.desc t1) then jX E rt id t d x else none
 | .clear,[x]=>(ts[0]?).bind fun t=>(rm E rt t x).map fun rt=>(.tup [],rt)
 | .min,vs=>(vR (fun a b=>if b<a then b else a) vs).map fun v=>(v,rt)
 | .max,vs=>(vR (fun a b=>if b>a then b else a) vs).map fun v=>(v,rt)
 | _,_=>none
def lw (E:Env)(rt:ai)(id:Nat)(st:St)(c:Call):Option (V×ai):=
 (gQ st c.args.toList).bind fun args=>
  match c.callee with
  | .value f=>(ev st f).bind fun f=>match f with
   | .fn f caps=>jB E rt id f (args++caps)
   | _=>none
  | .builtin b=>eU E rt id b c.argTypes args
  | .invoke _ _=>none
def aX (E:Env)(id:Nat)(st:St):Op→Option (V×ai)
 | .move x=>(ev st x).map fun v=>(v,st.rt)
 | .assign x=>(ev st x).map fun v=>(v,st.rt)
 | .pick c a b=>(ev st c).bind fun c=>(match c with
  | .bool true=>ev st a
  | .bool false=>ev st b
  | _=>none).map fun v=>(v,st.rt)
 | .alloc t=>(E.ty t).bind fun ti=>(gU ti.zv).map fun z=>(.hp id 0 [] (cells z).length 0 0,upd st.rt id (some ⟨0,(cells z).length,[z]⟩))
 | .box _ x=>(ev st x).bind fun v=>(gF st.rt v).map fun y=>(.hp id 0 [] (cells y.1).length 0 0,upd y.2 id (some ⟨0,(cells y.1).length,[y.1]⟩))
 | .build t ps=>(fj st ps.toList).bind fun ps=>(Bx E t ps).map fun v=>(v,st.rt)
 | .buildSlice t n ps=>(fj st ps.toList).bind fun ps=>match E.ty t with
  | some { desc:=.slice e,.. }=>(E.ty e).bind fun ei=>(gU ei.zv).bind fun z=>
   if n*ei.size≤16777216∧0<ei.size∧(cells z).length=ei.size∧al z=eH ei.desc then
    (js ei.size (eH ei.desc) (List.replicate n z) ps).bind fun es=>(du st.rt es).map fun y=>(.hs id 0 [] ei.size 0 n,upd y.2 id (some ⟨0,ei.size,y.1⟩))
   else none
  | _=>none
 | .load t p=>(E.ty t).bind fun ti=>(ev st p).bind fun p=>(jE st.rt p).bind fun cs=>
  if 0<ti.size∧ti.size≤cs.length then (jH (eH ti.desc) (cs.take ti.size)).map fun v=>(v,st.rt) else none
 | .store t p x=>(ev st p).bind fun p=>(ev st x).bind fun x=>(mP E st.rt t p x).map fun rt=>(.und,rt)
 | .nilCheck x=>(ev st x).bind fun v=>match v with
  | .hp o nv p _ _ _=>if (bD st.rt o nv p).isSome then some (v,st.rt) else none
  | .iptr ..=>some (v,st.rt)
  | _=>none
 | .binOp op t x y _=>(ev st x).bind fun a=>(ev st y).bind fun b=>(qs E op t a b (nJ x||nJ y)).map fun v=>(v,st.rt)
 | .unOp op _ x=>(ev st x).bind fun a=>(Pf op a).map fun v=>(v,st.rt)
 | .convert s d x=>(ev st x).bind fun a=>(qc E st.rt s d a).map fun v=>(v,st.rt)
 | .makeInterface t x=>(ev st x).bind fun a=>if (cells a).all cl then (match E.desc t with
  | some (.interface _)=>none
  | some _=>some (.iface t a,st.rt)
  | none=>none) else none
 | .makeFunc (.func f) first caps=>if first.size=0 then (gQ st caps.toList).bind fun cs=>if cs.all (fun v=>!al v) then some (.fn f cs,st.rt) else none else none
 | .makeSlice t l c=>(ev st l).bind fun l=>(ev st c).bind fun c=>match E.ty t,l,c with
  | some { desc:=.slice e,.. },.int .i64 l,.int .i64 c=>(E.ty e).bind fun ei=>(gU ei.zv).bind fun z=>
   if 0≤l∧l≤c∧c*ei.bytes≤mF∧c≤mF∧0<ei.size∧(cells z).length=ei.size∧al z=eH ei.desc then
    some (.hs id 0 [] ei.size 0 l.toNat,upd st.rt id (some ⟨0,ei.size,List.replicate l.toNat z⟩)) else none
  | _,_,_=>none
 | .slice t x lo hi none=>(ev st x).bind fun x=>(mA st lo).bind fun l=>(mA st hi).bind fun h=>
  if kV st.rt x then (jS E st.rt t x l h).map fun v=>(v,st.rt) else none
 | .fieldAddr s x f=>(ev st x).bind fun x=>(fieldAt? E s f).bind fun fl=>match x with
  | .iptr e k=>if 0<fl.2.1∧k+fl.1<(cells e).length then some (.iptr e (k+fl.1),st.rt) else none
  | .hp o nv p sz i k=>if 0<fl.2.1∧k+fl.1<sz∧(bD st.rt o nv p).isSome then some (.hp o nv p sz i (k+fl.1),st.rt) else none
  | _=>none
 | .field s x f=>(ev st x).bind fun x=>(fieldAt? E s f).bind fun fl=>match x with
  | .agg cs=>let c:=(cs.drop fl.1).take fl.2.1
   if c.length=fl.2.1 then (jH fl.2.2 c).map fun v=>(v,st.rt) else none
  | _=>none
 | .indexAddr t x i=>(ev st x).bind fun x=>(ev st i).bind fun i=>match i with
  | .int _ i=>if kV st.rt x then (iE E t x i).map fun v=>(v,st.rt) else none
  | _=>none
 | .index t x i=>(ev st x).bind fun x=>(ev st i).bind fun i=>match i with
  | .int _ i=>(Ge E t x i).map fun v=>(v,st.rt)
  | _=>none
 | .extract x i=>(ev st x).bind fun x=>match x with
  | .tup vs=>(vs[i]?).map fun v=>(v,st.rt)
  | _=>none
 | .call c=>lw E st.rt id st c
 | _=>none
def pV (ops:Array Oper)(st:St)(j:Nat):Option (Option Bool):=
 match ((ops[j]?).bind (·.dst)).bind (st.tm[·]?) with
 | some (.bool b)=>some (some b)
 | some .und=>some none
 | _=>none
def gS (ops:Array Oper)(st:St)(o:Oper):Option Bool:=
 match o.guard with
 | none=>some true
 | some (j,want)=>(pV ops st j).map fun b=>b==some want
def kf (tm:List V)(d:Option Nat)(v:V):List V:=
 match d with
 | some d=>tm.set d v
 | none=>tm
def fm (E:Env)(ops:Array Oper)(id:Nat)(st:St)(i:Nat):Option St:=
 match ops[i]? with
 | none=>some st
 | some o=>(gS ops st o).bind fun b=>
  if b then (aX E id st o.op).map fun r=>{ st with tm:=kf st.tm o.dst r.1,rt:=r.2 }
  else some { st with tm:=kf st.tm o.dst .und }
inductive It where
 | code (c:Code)
 | ops (ops:Array Oper) (is:List Nat)
 | blk (id:Nat)
 | lp (c:Code)
 | dops (ops:Array Oper) (ms:List Nat) (i:Nat) (log:List (Nat×List Nat×List Nat))
 deriving Inhabited
def gJ (id:Nat):List It→Option (List It)
 | .blk id'::k=>if id'=id then some k else gJ id k
 | _::k=>gJ id k
 | []=>none
def jd (E:Env):List It→St→Option (List It×St)
 | .code .skip::k,st=>some (k,st)
 | .code (.region _ ops false)::k,st=>some (.ops ops (List.range ops.size)::k,st)
 | .code (.seq a b)::k,st=>some (.code a::.code b::k,st)
 | .code (.cond c a b)::k,st=>(ev st c).bind fun c=>match c with
  | .bool true=>some (.code a::k,st)
  | .bool false=>some (.code b::k,st)
  | _=>none
 | .code (.block id c)::k,st=>some (.code c::.blk id::k,st)
 | .code (.loop c)::k,st=>some (.code c::.lp c::k,st)
 | .code (.exit id)::k,st=>(gJ id k).map fun k=>(k,st)
 | .code .ret::_,st=>some ([],st)
 | .ops _ []::k,st=>some (k,st)
 | .ops ops (i::is)::k,st=>(fm E ops st.nx st i).map fun st'=>(.ops ops is::k,{ st' with nx:=st.nx+bO })
 | .blk _::k,st=>some (k,st)
 | .lp c::k,st=>some (.code c::.lp c::k,st)
 | _,_=>none
def E3 (E:Env):Nat→List It→St→Option (List It×St)
 | 0,k,st=>some (k,st)
 | n+1,k,st=>match jd E k st with
  | some (k',st')=>E3 E n k' st'
  | none=>none
def fM (L:List Nat):Nat→List V→List V
 | _,[]=>[]
 | i,v::vs=>(if L.contains i then v else .dead)::fM L (i+1) vs
def mW (o:Nat):List Nat→Nat→Option Nat
 | [],_=>none
 | x::xs,n=>if x=o then some n else mW o xs (n+1)
mutual
def eT (rt:ai)(os:List Nat):V→V
 | .hs o nv p s off len=>match bA rt o nv p,mW o os 1 with
  | some _,some n=>.hs n 0 p s off len
  | _,_=>.dead
 | .hp o nv p s i k=>match bA rt o nv p,mW o os 1 with
  | some _,some n=>.hp n 0 p s i k
  | _,_=>.dead
 | .agg cs=>.agg (kL rt os cs)
 | .tup vs=>.tup (kL rt os vs)
 | .fn f caps=>.fn f (kL rt os caps)
 | v=>v
def kL (rt:ai)(os:List Nat):List V→List V
 | []=>[]
 | v::vs=>eT rt os v::kL rt os vs
end
def mX:List Nat→List Nat→List Nat
 | acc,[]=>acc
 | acc,x::xs=>if acc.contains x then mX acc xs else mX (acc++[x]) xs
def uU (l:List (Option Root)):ai:=fun o=>if o=0 then none else (l[o - 1]?).bind fun r=>r
def iz (m:Nat):List Nat:=List.range' 1 m
def mJ (m:Nat)(L:List Nat)(st:St):St:=
 let tm:=fM L 0 st.tm
 let os:=mX (iz m) (dS tm)
 { tm:=kL st.rt os tm,rt:=uU (os.map fun o=>(st.rt o).map fun r=>⟨0,r.s,r.es⟩),nx:=os.length+1 }
def lg (E:Env)(st:St):ResultVar→Option V
 | .tmp t=>st.tm[t]?
 | .cell a t=>(E.ty t).bind fun ti=>(st.tm[a]?).bind fun p=>(jE st.rt p).bind fun cs=>
  if 0<ti.size∧ti.size≤cs.length then jH (eH ti.desc) (cs.take ti.size) else none
def gA (E:Env)(st:St):List ResultVar→Option (List V)
 | []=>some []
 | r::rs=>(lg E st r).bind fun v=>(gA E st rs).map fun vs=>v::vs
def gx (rt:ai)(v:V):V:=
 match BF rt v with
 | some x=>x
 | none=>.dead
def Gx (rt:ai):V→V
 | .agg cs=>.agg (cs.map (gx rt))
 | v=>gx rt v
def cV (rt:ai):List Bool→List V→List V
 | true::bs,v::vs=>Gx rt v::cV rt bs vs
 | false::bs,_::vs=>cV rt bs vs
 | _,_=>[]
def sZ:List V→V
 | [v]=>v
 | vs=>.tup vs
def enter (fn:Func)(args:List V):List V×St:=
 let a:=bh 1 0 args
 (a.1,{ tm:=a.1++List.replicate (fn.ntmps - args.length) .und,rt:=dU (fun _=>none) 1 a.2,nx:=1+a.2.length })
def kF (E:Env)(fn:Func)(own:List Bool)(a:List V)(st:St):Option (V×List V):=
 (gA E st fn.results.toList).bind fun vs=>(du st.rt vs).map fun l=>(sZ l.1,cV l.2 own a)
end
section
abbrev cS:=Nat×List (Nat×Nat)
abbrev bg:=Nat→Option cS
def cS.at (l:cS)(i k:Nat):cS:=(l.1,l.2++[(i,k)])
def b8 (rt:ai)(o nv:Nat)(path:List (Nat×Nat)):Prop:=(bD rt o nv path).isSome=true
def cT (n:Nat)(g:Nat→Value):Array Value:=((List.range n).map g).toArray
def fc (v:V)(g:Nat→Value):Value:=if al v then .agg (cT (cells v).length g) else g 0
def Lp:Value→Prop
 | .agg _=>False
 | .tuple _=>False
 | _=>True
def km (w:World)(b:Nat)(n:Nat):Prop:=∃arr T,w.heap[b]?=some (.cells arr T (0,0))∧arr.size=n
inductive RepV (w:World) (ρ:bg) (rt:ai):Option cS→V→Value→Prop
 | und (L):RepV w ρ rt L .und undef
 | dead (L u):RepV w ρ rt L .dead u
 | bool (L b):RepV w ρ rt L (.bool b) (.bool b)
 | int (L k n):RepV w ρ rt L (.int k n) (.int k n)
 | str (L s):RepV w ρ rt L (.str s) (.string s)
 | nilp (L):RepV w ρ rt L .nilp (.pointer none)
 | nilfn (L):RepV w ρ rt L .nilfn .nilFunc
 | nilif (L):RepV w ρ rt L .nilif .nilIface
 | fn (L f caps) (g:Nat→Value) (h:∀i v,caps[i]?=some v→RepV w ρ rt none v (g i)):RepV w ρ rt L (.fn f caps) (.func (.func f) #[] (cT caps.length g))
 | iface (L t v) (g:Nat→Value) (h:∀i x,(cells v)[i]?=some x→RepV w ρ rt none x (g i)):RepV w ρ rt L (.iface t v) (.iface t (fc v g))
 | tup (L vs) (p:Nat→Value) (g:Nat→Nat→Value) (hp:∀(c:Nat) (v:V),vs[c]?=some v→p c=fc v (g c))
  (h:∀(c:Nat) (v:V) k x,vs[c]?=some v→(cells v)[k]?=some x→RepV w ρ rt none x (g c k)):RepV w ρ rt L (.tup vs) (.tuple (cT vs.length p))
 | iptr (L e k b off) (g:Nat→Value) (hb:b<w.heap.size) (hρ:ρ b=none) (hc:∀j x,(cells e)[k+j]?=some x→w.cell? ⟨b,off+j,none⟩=some (g j))
  (h:∀j x,(cells e)[k+j]?=some x→RepV w ρ rt none x (g j)):RepV w ρ rt L (.iptr e k) (.pointer (some ⟨b,off,none⟩))
 | isl0 (L nl A c) (hn:nl=true→A=none∧c=0):RepV w ρ rt L (.isl nl []) (.slice A 0 c)
 | isl (L es b off c s) (g:Nat→Nat→Value) (hl:es.length≤c) (h0:0<es.length) (hρ:ρ b=none) (hb:b<w.heap.size)
  (hs:∀(i:Nat) (e:V),es[i]?=some e→(cells e).length=s)
  (hc:∀(i:Nat) (e:V) k x,es[i]?=some e→(cells e)[k]?=some x→w.cell? ⟨b,off+(i*s+k),none⟩=some (g i k))
  (h:∀(i:Nat) (e:V) k x,es[i]?=some e→(cells e)[k]?=some x→RepV w ρ rt none x (g i k)):RepV w ρ rt L (.isl false es) (.slice (some ⟨b,off,none⟩) es.length c)
 | usl0 (l s A):RepV w ρ rt (some l) (.usl s []) (.slice A 0 0)
 | usl (l s es b A c arr T) (g:Nat→Nat→Value) (hρ:ρ b=some l) (hb:w.heap[b]?=some (.cells arr T (0,0))) (hl:es.length≤c) (hA:c≠0→A=some ⟨b,0,none⟩) (hcap:c*s≤arr.size)
  (hs:∀(i:Nat) (e:V),es[i]?=some e→(cells e).length=s)
  (hc:∀(i:Nat) (e:V) k x,es[i]?=some e→(cells e)[k]?=some x→arr[i*s+k]?=some (g i k))
  (h:∀(i:Nat) (e:V) k x,es[i]?=some e→(cells e)[k]?=some x→RepV w ρ rt (some (l.at i k)) x (g i k)):RepV w ρ rt (some l) (.usl s es) (.slice A es.length c)
 | uptr (l e b arr T) (g:Nat→Value) (hρ:ρ b=some l) (hb:w.heap[b]?=some (.cells arr T (0,0)))
  (hc:∀k x,(cells e)[k]?=some x→arr[k]?=some (g k))
  (h:∀k x,(cells e)[k]?=some x→RepV w ρ rt (some (l.at 0 k)) x (g k)):RepV w ρ rt (some l) (.uptr e) (.pointer (some ⟨b,0,none⟩))
 | hp (L o nv path s i k u) (h:b8 rt o nv path→∃b n,ρ b=some (o,path)∧km w b n∧u=.pointer (some ⟨b,i*s+k,none⟩)) (h1:Lp u):RepV w ρ rt L (.hp o nv path s i k) u
 | hs (L o nv path s off len u) (h:b8 rt o nv path→∃c A,u=.slice A len c∧len≤c∧(c≠0→∃b n,ρ b=some (o,path)∧km w b n∧A=some ⟨b,off*s,none⟩∧(off+c)*s≤n)) (h1:Lp u):RepV w ρ rt L (.hs o nv path s off len) u
def aM (w:World)(ρ:bg)(rt:ai)(at_:Nat→Option cS)(v:V)(u:Value):Prop:=
 ∃g:Nat→Value,u=fc v g∧∀k x,(cells v)[k]?=some x→RepV w ρ rt (at_ k) x (g k)
def bq:Nat→Option cS:=fun _=>none
structure Keep (New:Nat→Nat→Prop) (w:World) (ρ:bg) (rt:ai) (w':World) (ρ':bg) (rt':ai):Prop where
 k1:∀b,ρ b=none→b<w.heap.size→ρ' b=none∧w'.heap[b]?=w.heap[b]?
 k2:∀o nv path,¬New o nv→b8 rt' o nv path→b8 rt o nv path∧∀b n,ρ b=some (o,path)→km w b n→ρ' b=some (o,path)∧km w' b n
 k0:∀b l,ρ b=some (0,l)→ρ' b=some (0,l)∧w'.heap[b]?=w.heap[b]?
mutual
def nh:V→Prop
 | .hs _ _ _ _ _ _=>False
 | .hp _ _ _ _ _ _=>False
 | .agg cs=>nhs cs
 | .tup cs=>nhs cs
 | .fn _ cs=>nhs cs
 | .iface _ v=>nh v
 | .iptr e _=>nh e
 | .isl _ es=>nhs es
 | .usl _ es=>nhs es
 | .uptr e=>nh e
 | _=>True
def nhs:List V→Prop
 | []=>True
 | v::vs=>nh v∧nhs vs
end
theorem cZ:∀{vs:List V},nhs vs↔∀v∈vs,nh v
 | []=>by simp[nhs]
 | v::vs=>by simp[nhs,cZ]
theorem cp {vs:List V}{i:Nat}{v:V}(h:nhs vs)(e:vs[i]?=some v):nh v:=cZ.1 h v (ii e)
theorem sN {v:V}(h:nh v):nhs (cells v):=by
 cases v<;>simp_all[cells,nh,nhs]
theorem bC {v x:V}{k:Nat}(h:nh v)(e:(cells v)[k]?=some x):nh x:=cp (sN h) e
mutual
def an (New:Nat→Nat→Prop):V→Prop
 | .hs o nv _ _ _ _=>¬New o nv
 | .hp o nv _ _ _ _=>¬New o nv
 | .agg cs=>cJ New cs
 | .tup cs=>cJ New cs
 | .fn _ cs=>cJ New cs
 | .iface _ v=>nh v
 | .iptr e _=>nh e
 | .isl _ es=>nhs es
 | .usl _ es=>nhs es
 | .uptr e=>nh e
 | _=>True
def cJ (New:Nat→Nat→Prop):List V→Prop
 | []=>True
 | v::vs=>an New v∧cJ New vs
end
theorem dJ {New:Nat→Nat→Prop}:∀{vs:List V},cJ New vs↔∀v∈vs,an New v
 | []=>by simp[cJ]
 | v::vs=>by simp[cJ,dJ]
theorem ga {New:Nat→Nat→Prop}{vs:List V}{i:Nat}{v:V}(h:cJ New vs)(e:vs[i]?=some v):an New v:=dJ.1 h v (ii e)
theorem qA {New:Nat→Nat→Prop}{v:V}(h:an New v):cJ New (cells v):=by
 cases v<;>simp_all[cells,an,cJ]
theorem gC {New:Nat→Nat→Prop}{v x:V}{k:Nat}(h:an New v)(e:(cells v)[k]?=some x):an New x:=ga (qA h) e
mutual
theorem cz {New:Nat→Nat→Prop}:∀{v:V},nh v→an New v
 | .und,_=>by simp[an]
 | .dead,_=>by simp[an]
 | .bool _,_=>by simp[an]
 | .int _ _,_=>by simp[an]
 | .str _,_=>by simp[an]
 | .nilp,_=>by simp[an]
 | .nilfn,_=>by simp[an]
 | .nilif,_=>by simp[an]
 | .fn _ cs,h=>by simp only[an];exact oY (by simpa[nh] using h)
 | .iface _ v,h=>by simpa[an,nh] using h
 | .agg cs,h=>by simp only[an];exact oY (by simpa[nh] using h)
 | .tup cs,h=>by simp only[an];exact oY (by simpa[nh] using h)
 | .iptr e _,h=>by simpa[an,nh] using h
 | .isl _ es,h=>by simpa[an,nh] using h
 | .uptr e,h=>by simpa[an,nh] using h
 | .usl _ es,h=>by simpa[an,nh] using h
 | .hp _ _ _ _ _ _,h=>by simp[nh] at h
 | .hs _ _ _ _ _ _,h=>by simp[nh] at h
theorem oY {New:Nat→Nat→Prop}:∀{vs:List V},nhs vs→cJ New vs
 | [],_=>by simp[cJ]
 | v::vs,h=>by simp only[cJ];exact⟨cz h.1,oY h.2⟩
end
mutual
theorem d7 {New New':Nat→Nat→Prop}(hN:∀o nv,New' o nv→New o nv):∀{v:V},an New v→an New' v
 | .und,_=>by simp[an]
 | .dead,_=>by simp[an]
 | .bool _,_=>by simp[an]
 | .int _ _,_=>by simp[an]
 | .str _,_=>by simp[an]
 | .nilp,_=>by simp[an]
 | .nilfn,_=>by simp[an]
 | .nilif,_=>by simp[an]
 | .fn _ cs,h=>by simp only[an] at h ⊢;exact nM hN h
 | .iface _ v,h=>by simpa[an] using h
 | .agg cs,h=>by simp only[an] at h ⊢;exact nM hN h
 | .tup cs,h=>by simp only[an] at h ⊢;exact nM hN h
 | .iptr e _,h=>by simpa[an] using h
 | .isl _ es,h=>by simpa[an] using h
 | .uptr e,h=>by simpa[an] using h
 | .usl _ es,h=>by simpa[an] using h
 | .hp _ _ _ _ _ _,h=>by simp only[an] at h ⊢;exact fun q=>h (hN _ _ q)
 | .hs _ _ _ _ _ _,h=>by simp only[an] at h ⊢;exact fun q=>h (hN _ _ q)
theorem nM {New New':Nat→Nat→Prop}(hN:∀o nv,New' o nv→New o nv):∀{vs:List V},cJ New vs→cJ New' vs
 | [],_=>by simp[cJ]
 | v::vs,h=>by simp only[cJ] at h ⊢;exact⟨d7 hN h.1,nM hN h.2⟩
end
theorem oW {w:World}{b:Nat}{o:Obj}(h:w.heap[b]?=some o):b<w.heap.size:=(pW.1 h).1
theorem kC {w w':World}{b off:Nat}(h:w'.heap[b]?=w.heap[b]?):w'.cell? ⟨b,off,none⟩=w.cell? ⟨b,off,none⟩:=by
 unfold World.cell?
 rw[h]
structure Keep0 (New:Nat→Nat→Prop) (w:World) (ρ:bg) (rt:ai) (w':World) (ρ':bg) (rt':ai):Prop where
 k1:∀b,ρ b=none→b<w.heap.size→ρ' b=none∧w'.heap[b]?=w.heap[b]?
 k2:∀o nv path,¬New o nv→b8 rt' o nv path→b8 rt o nv path∧∀b n,ρ b=some (o,path)→km w b n→ρ' b=some (o,path)∧km w' b n
theorem RepV.mono0 {New:Nat→Nat→Prop}{w w':World}{ρ ρ':bg}{rt rt':ai}(K:Keep0 New w ρ rt w' ρ' rt')(mv:cS→cS)(ok:cS→Prop)(hmv:∀l i k,ok l→mv (l.at i k)=(mv l).at i k)(hok:∀l i k,ok l→ok (l.at i k))(K3:∀b l,ok l→ρ b=some l→ρ' b=some (mv l)∧w'.heap[b]?=w.heap[b]?){L:Option cS}{v:V}{u:Value}(h:RepV w ρ rt L v u):(∀l,L=some l→ok l)→an New v→RepV w' ρ' rt' (L.map mv) v u:=by
 induction h with
 | und L=>exact fun _ _=>.und _
 | dead L u=>exact fun _ _=>.dead _ _
 | bool L b=>exact fun _ _=>.bool _ _
 | int L k n=>exact fun _ _=>.int _ _ _
 | str L s=>exact fun _ _=>.str _ _
 | nilp L=>exact fun _ _=>.nilp _
 | nilfn L=>exact fun _ _=>.nilfn _
 | nilif L=>exact fun _ _=>.nilif _
 | fn L f caps g h ih=>exact fun _ hn=>.fn _ _ _ g fun i v hv=>ih i v hv (by simp) (ga (by simpa[an] using hn) hv)
 | iface L t v g h ih=>exact fun _ hn=>.iface _ _ _ g fun i x hx=>ih i x hx (by simp) (cz (bC (by simpa[an] using hn) hx))
 | tup L vs p g hp h ih=>exact fun _ hn=>.tup _ _ p g hp fun c v k x hv hx=>ih c v k x hv hx (by simp) (gC (ga (by simpa[an] using hn) hv) hx)
 | iptr L e k b off g hb hρ hc h ih=>
  intro _ hn
  have:=K.k1 b hρ hb
  have hb':b<w'.heap.size:=by
   have e:w'.heap[b]?=some (w.heap[b]):=by rw[this.2];simp[hb]
   exact oW e
  exact .iptr _ _ _ _ _ g hb' this.1 (fun j x hx=>by rw[kC this.2];exact hc j x hx) fun j x hx=>ih j x hx (by simp) (cz (bC (by simpa[an] using hn) hx))
 | isl0 L nl A c hn=>exact fun _ _=>.isl0 _ _ _ _ hn
 | isl L es b off c s g hl h0 hρ hb hs hc h ih=>
  intro _ hn
  have:=K.k1 b hρ hb
  have hb':b<w'.heap.size:=by
   have e:w'.heap[b]?=some (w.heap[b]):=by rw[this.2];simp[hb]
   exact oW e
  exact .isl _ _ _ _ _ s g hl h0 this.1 hb' hs (fun i e k x he hx=>by rw[kC this.2];exact hc i e k x he hx) fun i e k x he hx=>ih i e k x he hx (by simp) (cz (bC (cp (by simpa[an] using hn) he) hx))
 | usl0 l s A=>exact fun _ _=>.usl0 _ _ _
 | usl l s es b A c arr T g hρ hb hl hA hcap hs hc h ih=>
  intro ho hn
  have k:=K3 b l (ho l rfl) hρ
  exact .usl _ s es b A c arr T g k.1 (by rw[k.2];exact hb) hl hA hcap hs hc fun i e k x he hx=>by
   have:=ih i e k x he hx (fun l' h'=>by cases h';exact hok _ _ _ (ho l rfl)) (cz (bC (cp (by simpa[an] using hn) he) hx))
   rwa[Option.map_some,hmv _ _ _ (ho l rfl)] at this
 | uptr l e b arr T g hρ hb hc h ih=>
  intro ho hn
  have k:=K3 b l (ho l rfl) hρ
  exact .uptr _ e b arr T g k.1 (by rw[k.2];exact hb) hc fun k x hx=>by
   have:=ih k x hx (fun l' h'=>by cases h';exact hok _ _ _ (ho l rfl)) (cz (bC (by simpa[an] using hn) hx))
   rwa[Option.map_some,hmv _ _ _ (ho l rfl)] at this
 | hp L o nv path s i k u h h1'=>
  intro _ hn
  refine .hp _ _ _ _ _ _ _ _ (fun hl=>?_) h1'
  obtain⟨h1,h2⟩:=K.k2 o nv path (by simpa[an] using hn) hl
  obtain⟨b,n,hb,hn',hu⟩:=h h1
  obtain⟨h3,h4⟩:=h2 b n hb hn'
  exact⟨b,n,h3,h4,hu⟩
 | hs L o nv path s off len u h h1'=>
  intro _ hn
  refine .hs _ _ _ _ _ _ _ _ (fun hl=>?_) h1'
  obtain⟨h1,h2⟩:=K.k2 o nv path (by simpa[an] using hn) hl
  obtain⟨c,A,hu,hlc,hc⟩:=h h1
  refine⟨c,A,hu,hlc,fun h0=>?_⟩
  obtain⟨b,n,hb,hn',hA,hle⟩:=hc h0
  obtain⟨h3,h4⟩:=h2 b n hb hn'
  exact⟨b,n,h3,h4,hA,hle⟩
theorem RepV.mono {New:Nat→Nat→Prop}{w w':World}{ρ ρ':bg}{rt rt':ai}(K:Keep New w ρ rt w' ρ' rt')(mv:cS→cS)(ok:cS→Prop)(hmv:∀l i k,ok l→mv (l.at i k)=(mv l).at i k)(hok:∀l i k,ok l→ok (l.at i k))(K3:∀b l,ok l→ρ b=some l→ρ' b=some (mv l)∧w'.heap[b]?=w.heap[b]?){L:Option cS}{v:V}{u:Value}(h:RepV w ρ rt L v u):(∀l,L=some l→ok l)→an New v→RepV w' ρ' rt' (L.map mv) v u:=h.mono0 ⟨K.k1,K.k2⟩ mv ok hmv hok K3
theorem RepV.keep {New:Nat→Nat→Prop}{w w':World}{ρ ρ':bg}{rt rt':ai}(K:Keep New w ρ rt w' ρ' rt'){v:V}{u:Value}(h:RepV w ρ rt none v u)(hn:an New v):RepV w' ρ' rt' none v u:=
 h.mono K id (fun _=>False) (fun _ _ _ _=>rfl) (fun _ _ _ h=>h) (fun _ _ h=>h.elim) (by simp) hn
theorem aM.keep {New:Nat→Nat→Prop}{w w':World}{ρ ρ':bg}{rt rt':ai}(K:Keep New w ρ rt w' ρ' rt'){v:V}{u:Value}(h:aM w ρ rt bq v u)(hn:an New v):aM w' ρ' rt' bq v u:=by
 obtain⟨g,hu,hg⟩:=h
 exact⟨g,hu,fun k x hx=>(hg k x hx).keep K (gC hn hx)⟩
end
set_option linter.unusedSimpArgs false
section
structure Agree (P:Program) (E:Env):Prop where
 info:∀t ti,E.ty t=some ti→∃i,P.info? t=some i∧i.size=ti.size∧i.bytes=ti.bytes∧i.zero=some ti.zv
 und:∀t ti,E.ty t=some ti→P.underlying t=some ti.desc
 eqs:∀t,E.eqs.contains t=true→P.stoodInHeld t=false
theorem Agree.desc {P:Program}{E:Env}(A:Agree P E){t:TypeId}{d:TypeDesc}(h:E.desc t=some d):P.underlying t=some d:=by
 unfold Env.desc at h
 split at h
 ·rename_i ti hti
  cases h
  exact A.und t ti hti
 ·cases h
variable {w : World} {ρ : bg} {rt : ai}
theorem aM.one {at_:Nat→Option cS}{v:V}{u:Value}(hv:al v=false)(h:aM w ρ rt at_ v u):RepV w ρ rt (at_ 0) v u:=by
 obtain⟨g,rfl,hg⟩:=h
 have hc:cells v=[v]:=by cases v<;>simp_all[cells,al]
 have:=hg 0 v (by simp[hc])
 simpa[fc,hv] using this
theorem aM.mk1 {at_:Nat→Option cS}{v:V}{u:Value}(hv:al v=false)(h:RepV w ρ rt (at_ 0) v u):aM w ρ rt at_ v u:=by
 refine⟨fun _=>u,by simp[fc,hv],fun k x hx=>?_⟩
 have hc:cells v=[v]:=by cases v<;>simp_all[cells,al]
 rw[hc] at hx
 cases k with
 | zero=>simp at hx;subst hx;exact h
 | succ k=>simp at hx
def ji (w:World)(ρ:bg)(rt:ai)(tm:List V)(tmps:Array Value):Prop:=
 tm.length=tmps.size∧∀(i:Nat) v u,tm[i]?=some v→tmps[i]?=some u→aM w ρ rt bq v u
theorem qB {c:Value}{v:V}(h:jr c=some v)(L:Option cS):RepV w ρ rt L v c∧al v=false:=by
 unfold jr at h
 split at h<;>cases h<;>refine⟨?_,rfl⟩<;>first | exact .bool _ _ | exact .int _ _ _ | exact .str _ _ | exact .nilp _ | exact .nilfn _ | exact .nilif _ | exact .isl0 _ _ _ _ (by simp)
theorem vd:∀{cs:List Value} {vs:List V},gw cs=some vs→vs.length=cs.length∧∀(k:Nat) x c,vs[k]?=some x→cs[k]?=some c→jr c=some x
 | [],vs,h=>by simp[gw] at h;subst h;simp
 | c::cs,vs,h=>by
  simp only[gw,aG,aI] at h
  obtain⟨x,hx,ys,hys,rfl⟩:=h
  have ih:=vd hys
  refine⟨by simp[ih.1],fun k x' c' h1 h2=>?_⟩
  cases k with
  | zero=>simp at h1 h2;subst h1 h2;exact hx
  | succ k=>exact ih.2 k x' c' (by simpa using h1) (by simpa using h2)
theorem Gy (cs:List V)(arr:Array Value)(hl:cs.length=arr.size):Value.agg arr=fc (.agg cs) (fun k=>arr.getD k undef):=by
 simp only[fc,al,cells,if_true,cT]
 congr 1
 apply Array.ext'
 apply List.ext_getElem?
 intro i
 by_cases hi:i<arr.size
 ·simp[hi,hl,Array.getD]
 ·simp[hi,hl,Array.getElem?_eq_none (Nat.le_of_not_lt hi)]
theorem iR {c:Value}{v:V}(h:gU c=some v)(at_:Nat→Option cS):aM w ρ rt at_ v c:=by
 unfold gU at h
 split at h
 ·rename_i cs
  simp only[aI] at h
  obtain⟨vs,hvs,rfl⟩:=h
  obtain⟨hl,hc⟩:=vd hvs
  refine⟨fun k=>cs.getD k undef,Gy vs cs (by simpa using hl),fun k x hx=>?_⟩
  have hk:k<cs.size:=by
   have:=(cd.1 (show vs[k]?=some x from hx)).1
   simp at hl;omega
  have:=hc k x (cs[k]) hx (by simp[hk])
  simpa[Array.getD,hk] using (qB this (at_ k)).1
 ·have:=qB (w:=w) (ρ:=ρ) (rt:=rt) h (at_ 0)
  exact aM.mk1 this.2 this.1
theorem cg {a:Act}{st:St}(ht:ji w ρ rt st.tm a.tmps){x:Operand}{v:V}(h:ev st x=some v):aM w ρ rt bq v (a.eval x):=by
 cases x with
 | tmp t=>
  simp only[ev] at h
  have hlt:t<a.tmps.size:=by rw[←ht.1];exact (cd.1 h).1
  have:=ht.2 t v (a.tmps[t]) h (by simp[hlt])
  simpa[Act.eval,Array.getD,hlt] using this
 | const c=>exact iR (c:=c) (by simpa[ev] using h) _
 | global g=>simp[ev] at h
 | func f=>
  simp[ev] at h
  subst h
  refine aM.mk1 rfl ?_
  have:=RepV.fn (w:=w) (ρ:=ρ) (rt:=rt) (bq 0) f [] (fun _=>undef) (by simp)
  simpa[cT,Act.eval] using this
theorem ro {a:Act}{st:St}(ht:ji w ρ rt st.tm a.tmps):∀{xs:List Operand} {vs:List V},gQ st xs=some vs→vs.length=xs.length∧∀(i:Nat) v x,vs[i]?=some v→xs[i]?=some x→aM w ρ rt bq v (a.eval x)
 | [],vs,h=>by simp[gQ] at h;subst h;simp
 | x::xs,vs,h=>by
  simp only[gQ,aG,aI] at h
  obtain⟨v,hv,ys,hys,rfl⟩:=h
  have ih:=ro ht hys
  refine⟨by simp[ih.1],fun i v' x' h1 h2=>?_⟩
  cases i with
  | zero=>simp at h1 h2;subst h1 h2;exact cg ht hv
  | succ i=>exact ih.2 i v' x' (by simpa using h1) (by simpa using h2)
theorem Qy {L}{k:IntKind}{n:Int}{u:Value}(h:RepV w ρ rt L (.int k n) u):u=.int k n:=by cases h;rfl
theorem Oj {L}{b:Bool}{u:Value}(h:RepV w ρ rt L (.bool b) u):u=.bool b:=by cases h;rfl
theorem Qz {L}{s:ByteArray}{u:Value}(h:RepV w ρ rt L (.str s) u):u=.string s:=by cases h;rfl
theorem iw {k:IntKind}{n:Int}{u:Value}(h:aM w ρ rt bq (.int k n) u):u=.int k n:=Qy (aM.one rfl h)
theorem kO {b:Bool}{u:Value}(h:aM w ρ rt bq (.bool b) u):u=.bool b:=Oj (aM.one rfl h)
theorem ny {s:ByteArray}{u:Value}(h:aM w ρ rt bq (.str s) u):u=.string s:=Qz (aM.one rfl h)
theorem kJ (k:IntKind)(n:Int):aM w ρ rt bq (.int k n) (.int k n):=aM.mk1 rfl (.int _ _ _)
theorem iG (b:Bool):aM w ρ rt bq (.bool b) (.bool b):=aM.mk1 rfl (.bool _ _)
theorem BM (s:ByteArray):aM w ρ rt bq (.str s) (.string s):=aM.mk1 rfl (.str _ _)
theorem LS {P:Program}{op:BinOp}{k:IntKind}{a b:Int}{v:V}(hs:op≠.shl)(hs':op≠.shr)(h:vU op k a b=some v)(t:TypeId) :
  ∃u,(binOp op t (.int k a) (.int k b)).run P w=.ok u w∧aM w ρ rt bq v u:=by
 cases op<;>simp only[vU,intBits] at h
 all_goals first | (exfalso;exact hs rfl) | (exfalso;exact hs' rfl) | skip
 all_goals first | (split at h<;>first | (cases h;done) | skip) | skip
 all_goals first | cases h | skip
 all_goals first
  | exact⟨_,by simp[binOp,Op.intArith,Op.intDiv,Op.intBits,Op.intCmp, *];rfl,kJ _ _⟩
  | exact⟨_,by simp[binOp,Op.intArith,Op.intDiv,Op.intBits,Op.intCmp, *];rfl,iG _⟩
  | exact⟨_,by simp[binOp,Op.intArith,Op.intDiv,Op.intBits,Op.intCmp, *],kJ _ _⟩
  | exact⟨_,by simp[binOp,Op.intArith,Op.intDiv,Op.intBits,Op.intCmp, *],iG _⟩
end
section
variable {w : World} {ρ : bg} {rt : ai}
theorem Mq {P:Program}{op:BinOp}{a b:ByteArray}{v:V}(h:v8 op a b=some v)(t:TypeId) :
  ∃u,(binOp op t (.string a) (.string b)).run P w=.ok u w∧aM w ρ rt bq v u:=by
 cases op<;>simp only[v8] at h
 all_goals first | cases h | skip
 case add=>
  split at h<;>cases h
  rename_i hs
  exact⟨_,by simpa[binOp] using run_string_add_sum (P:=P) w a b hs,BM _⟩
 all_goals simp only[←Lib.toList_data]
 all_goals first | exact⟨_,by simp[binOp,Op.stringOp];rfl,iG _⟩ | exact⟨_,by simp[binOp,Op.stringOp],iG _⟩
theorem RepV.place {L L':Option cS}{v:V}{u:Value}(h:RepV w ρ rt L v u)(hv:match v with
  | .usl _ _=>False
  | .uptr _=>False
  | _=>True):RepV w ρ rt L' v u:=by
 cases h
 case und=>exact .und _
 case dead=>exact .dead _ _
 case bool=>exact .bool _ _
 case int=>exact .int _ _ _
 case str=>exact .str _ _
 case nilp=>exact .nilp _
 case nilfn=>exact .nilfn _
 case nilif=>exact .nilif _
 case fn f caps g h=>exact .fn _ _ _ g h
 case iface t v g h=>exact .iface _ _ _ g h
 case tup vs p g hp h=>exact .tup _ _ p g hp h
 case iptr e k b off g hb hρ hc h=>exact .iptr _ _ _ _ _ g hb hρ hc h
 case isl0 nl A c hn=>exact .isl0 _ _ _ _ hn
 case isl es b off c s g hl h0 hρ hb hs hc h=>exact .isl _ _ _ _ _ s g hl h0 hρ hb hs hc h
 case usl0=>exact hv.elim
 case usl=>exact hv.elim
 case uptr=>exact hv.elim
 case hp o nv path s i k h h1=>exact .hp _ _ _ _ _ _ _ _ h h1
 case hs o nv path s off len h h1=>exact .hs _ _ _ _ _ _ _ _ h h1
def bW (w:World)(ρ:bg)(rt:ai)(L:cS)(s:Nat)(es:List V):Prop:=
 (es=[])∨∃b arr T,∃g:Nat→Nat→Value,ρ b=some L∧w.heap[b]?=some (.cells arr T (0,0))∧
  (∀(i:Nat) (e:V),es[i]?=some e→(cells e).length=s)∧
  (∀(i:Nat) (e:V) k x,es[i]?=some e→(cells e)[k]?=some x→arr[i*s+k]?=some (g i k))∧
  (∀(i:Nat) (e:V) k x,es[i]?=some e→(cells e)[k]?=some x→RepV w ρ rt (some (L.at i k)) x (g i k))
theorem o7 {L:cS}{s:Nat}{es:List V}{i k:Nat}{e x:V}(h:bW w ρ rt L s es)(he:es[i]?=some e)(hx:(cells e)[k]?=some x) :
  ∃b arr T y,ρ b=some L∧w.heap[b]?=some (.cells arr T (0,0))∧(cells e).length=s∧arr[i*s+k]?=some y∧RepV w ρ rt (some (L.at i k)) x y:=by
 rcases h with rfl | ⟨b,arr,T,g,h1,h2,h3,h4,h5⟩
 ·simp at he
 ·exact⟨b,arr,T,g i k,h1,h2,h3 i e he,h4 i e k x he hx,h5 i e k x he hx⟩
theorem ol {l:cS}{s:Nat}{es:List V}{u:Value}(h:RepV w ρ rt (some l) (.usl s es) u):bW w ρ rt l s es:=by
 cases h with
 | usl0=>exact .inl rfl
 | usl _ _ _ b A c arr T g hρ hb hl hA hcap hs hc h=>exact .inr ⟨b,arr,T,g,hρ,hb,hs,hc,h⟩
theorem mM {l:cS}{e:V}{u:Value}(h:RepV w ρ rt (some l) (.uptr e) u):bW w ρ rt l (cells e).length [e]:=by
 cases h with
 | uptr _ _ b arr T g hρ hb hc h=>
  refine .inr ⟨b,arr,T,fun _ k=>g k,hρ,hb,?_,?_,?_⟩
  ·intro i e' he
   cases i<;>simp at he
   subst he;rfl
  ·intro i e' k x he hx
   cases i<;>simp at he
   subst he
   simpa using hc k x hx
  ·intro i e' k x he hx
   cases i<;>simp at he
   subst he
   exact h k x hx
theorem jL {o:Nat}:∀{p p0:List (Nat×Nat)} {s s':Nat} {es es':List V},bW w ρ rt (o,p0) s es→aU p s es=some (s',es')→bW w ρ rt (o,p0++p) s' es'
 | [],p0,s,s',es,es',h,e=>by simp[aU] at e;obtain⟨rfl,rfl⟩:=e;simpa using h
 | (i,k)::p,p0,s,s',es,es',h,e=>by
  simp only[aU] at e
  split at e
  ·cases e
  ·rename_i v hv
   split at e
   ·rename_i s1 x hx
    obtain⟨b,arr,T,y,h1,h2,h3,h4,h5⟩:=o7 h hv hx
    have:=jL (p:=p) (ol h5) e
    simpa[cS.at] using this
   ·rename_i x hx
    obtain⟨b,arr,T,y,h1,h2,h3,h4,h5⟩:=o7 h hv hx
    have:=jL (p:=p) (mM h5) e
    simpa[cS.at] using this
   ·cases e
def et (w:World)(ρ:bg)(rt:ai):Prop:=∀o r,rt o=some r→bW w ρ rt (o,[]) r.s r.es
def eM (ρ:bg):Prop:=∀b b' L,ρ b=some L→ρ b'=some L→b=b'
theorem d8 {o nv:Nat}{path}{r:Root}(h:bA rt o nv path=some r):rt o=some r∧(path=[]∨r.nv=nv):=by
 unfold bA at h
 split at h
 ·rename_i r' hr
  split at h
  ·rename_i hc
   cases h
   refine⟨hr,?_⟩
   simpa using hc
  ·cases h
 ·cases h
theorem nu (H:et w ρ rt){o nv:Nat}{path}{s:Nat}{es:List V}(h:bD rt o nv path=some (s,es)):bW w ρ rt (o,path) s es:=by
 unfold bD at h
 simp only[aG] at h
 obtain⟨r,hr,hrow⟩:=h
 have:=jL (H o r (d8 hr).1) hrow
 simpa using this
theorem Oy {o nv:Nat}{path}{i k:Nat}{x:V}{y:Value}(h:RepV w ρ rt (some (o,path++[(i,k)])) x y):RepV w ρ rt none (GS o nv path i k x) y:=by
 cases hx:x
 case usl s es=>
  subst hx
  refine .hs _ _ _ _ _ _ _ _ (fun _=>?_) (by cases h<;>trivial)
  cases h with
  | usl0=>exact⟨0,_,rfl,by simp,by simp⟩
  | usl _ _ _ b A c arr T g hρ hb hl hA hcap hs hc h=>exact⟨c,A,rfl,hl,fun h0=>⟨b,arr.size,hρ,⟨arr,T,hb,rfl⟩,by simpa using hA h0,by simpa using hcap⟩⟩
 case uptr e=>
  subst hx
  refine .hp _ _ _ _ _ _ _ _ (fun _=>?_) (by cases h<;>trivial)
  cases h with
  | uptr _ _ b arr T g hρ hb hc h=>exact⟨b,arr.size,hρ,⟨arr,T,hb,rfl⟩,by simp⟩
 all_goals exact (hx▸h).place (by trivial)
theorem qJ {o nv:Nat}{path}{i:Nat}:∀{vs:List V} {k j:Nat} {x:V},(nz o nv path i k vs)[j]?=some x→∃y,vs[j]?=some y∧x=GS o nv path i (k+j) y
 | [],k,j,x,h=>by simp[nz] at h
 | v::vs,k,0,x,h=>by simp[nz] at h;exact⟨v,by simp,by simp[h]⟩
 | v::vs,k,j+1,x,h=>by
  simp[nz] at h
  obtain⟨y,hy,rfl⟩:=qJ h
  exact⟨y,by simpa using hy,by congr 1;omega⟩
theorem F8 (H:et w ρ rt)(J:eM ρ){p:V}{cs:List V}{u:Value}(h:jE rt p=some cs)(hp:RepV w ρ rt none p u)(h0:0<cs.length) :
  ∃b off,u=.pointer (some ⟨b,off,none⟩)∧∀(j:Nat) x,cs[j]?=some x→∃y,w.cell? ⟨b,off+j,none⟩=some y∧RepV w ρ rt none x y:=by
 unfold jE at h
 split at h
 ·rename_i e k
  cases h
  cases hp with
  | iptr _ _ _ b off g hb hρ hc h=>
   exact⟨b,off,rfl,fun j x hx=>⟨g j,hc j x (by simpa using hx),h j x (by simpa using hx)⟩⟩
 ·rename_i o nv path s i k
  simp only[aG] at h
  obtain⟨r,hr,x,hx,h⟩:=h
  obtain⟨s',es⟩:=x
  split at h
  ·rename_i hs
   subst hs
   simp only[aI] at h
   obtain⟨e,he,rfl⟩:=h
   have hl:bD rt o nv path=some (s',es):=by simp[bD,hr,hx]
   have hrow:=nu H hl
   cases hp with
   | hp _ _ _ _ _ _ _ _ hp=>
    obtain⟨b,n,h1,h2,h3⟩:=hp (by simp[b8,hl])
    refine⟨b,_,h3,fun j x hx=>?_⟩
    obtain⟨y,hy,rfl⟩:=qJ hx
    obtain⟨b',arr,T,z,g1,g2,g3,g4,g5⟩:=o7 hrow he (by simpa using hy)
    have:=J b b' _ h1 g1
    subst this
    refine⟨z,?_,Oy g5⟩
    simp[World.cell?,g2,Nat.add_assoc,g4]
  ·cases h
 ·cases h
end
section
variable {w : World} {ρ : bg} {rt : ai}
theorem eR {P:Program}{E:Env}(A:Agree P E){t:TypeId}{ti:TI}(h:E.ty t=some ti)(w:World):(sizeOf t).run P w=.ok ti.size w:=by
 obtain⟨i,hi,hs,_,_⟩:=A.info t ti h
 simp[sizeOf,typeInfo,hi,hs]
theorem lh {P:Program}{E:Env}(A:Agree P E){t:TypeId}{ti:TI}(h:E.ty t=some ti)(w:World):(zeroValue t).run P w=.ok ti.zv w:=by
 obtain⟨i,hi,hs,_,hz⟩:=A.info t ti h
 simp[zeroValue,typeInfo,hi,hz]
theorem B6 {P:Program}{E:Env}(A:Agree P E){t:TypeId}{ti:TI}(h:E.ty t=some ti)(w:World):(isAgg t).run P w=.ok (eH ti.desc) w:=by
 have hu:=A.und t ti h
 unfold isAgg
 simp only[Sem.run_bind,run_underlying hu,Result.andThen]
 cases hd:ti.desc<;>simp[eH]
theorem sU {P:Program}{t:TypeId}{x y:Value}{b:Bool}(h:∀d,(Op.equalIn (d+1) t x y).run P w=.ok b w):(Op.equal t x y).run P w=.ok b w:=h 9999
theorem Jd {P:Program}{a b:Bool}{t:TypeId}(hu:P.underlying t=some .bool):(Op.equal t (.bool a) (.bool b)).run P w=.ok (a==b) w:=
 sU fun d=>by simp[Op.equalIn,run_underlying hu]
theorem qj {P:Program}{t e:TypeId}{n l c l' c':Nat}{A A':Option Addr}{b:Bool}(hu:P.underlying t=some (.slice e))(h:A'=none)(hb:A.isNone=b):(Op.equalIn (n+1) t (.slice A l c) (.slice A' l' c')).run P w=.ok b w:=by
 subst h
 cases A<;>simp[Op.equalIn,run_underlying hu] at hb ⊢<;>exact hb
theorem CY {P:Program}{t e:TypeId}{n l c l' c':Nat}{A A':Option Addr}{b:Bool}(hu:P.underlying t=some (.slice e))(h:A=none)(hb:A'.isNone=b):(Op.equalIn (n+1) t (.slice A l c) (.slice A' l' c')).run P w=.ok b w:=by
 subst h
 cases A'<;>simp[Op.equalIn,run_underlying hu] at hb ⊢<;>exact hb
theorem jz {L}{n:Bool}{es:List V}{u:Value}(h:RepV w ρ rt L (.isl n es) u):∃A l c,u=.slice A l c∧((n=true∨es≠[])→A.isNone=n):=by
 cases h with
 | isl0 _ _ A c hn=>exact⟨A,0,c,rfl,by cases n<;>cases A<;>simp_all⟩
 | isl _ _ b off c s g=>exact⟨_,_,_,rfl,fun _=>rfl⟩
theorem L6 {P : Program}{x y : V}{b : Bool}{u u' : Value}(h : qe x y = some b)(hx : RepV w ρ rt none x u)(hy : RepV w ρ rt none y u'){t : TypeId}{d : TypeDesc}(hu : P.underlying t = some d)(hd : rA d x=true) :
    (Op.equal t u u').run P w=.ok b w:=by
  refine sU fun n=>?_
  unfold qe at h
  split at h <;> first | (cases h; done) | skip
  all_goals first | (cases h) | skip
  all_goals (cases d <;> first | (simp [rA] at hd; done) | skip)
  all_goals first
    | (obtain ⟨A, l, c, rfl, hA⟩ := jz hx
       obtain ⟨A',l',c',rfl,hA'⟩:=jz hy
       first
         | exact qj hu (by simpa using hA') (hA (by simp))
         | exact CY hu (by simpa using hA) (hA' (by simp)))
    | (cases hx <;> cases hy <;> simp [Op.equalIn,run_underlying hu])
theorem sL {a:Bool}{cs:List V}{v:V}{g:Nat→Value}(h:jH a cs=some v)(hg:∀(k:Nat) x,cs[k]?=some x→RepV w ρ rt none x (g k)):aM w ρ rt bq v (if a then .agg (cT cs.length g) else g 0):=by
 unfold jH at h
 split at h
 ·cases h
  rename_i ha
  subst ha
  exact⟨g,by simp[fc,al,cells],fun k x hx=>hg k x hx⟩
 ·rename_i ha
  split at h
  ·rename_i v0
   split at h
   ·cases h
   ·rename_i hna
    cases h
    have ha':a=false:=by simpa using ha
    subst ha'
    exact aM.mk1 (by simpa using hna) (hg 0 _ (by simp))
  ·cases h
theorem wL {P:Program}{E:Env}(A:Agree P E){t:TypeId}{ti:TI}(ht:E.ty t=some ti){b off:Nat}{g:Nat→Value}(h:∀j,j<ti.size→w.cell? ⟨b,off+j,none⟩=some (g j))(hs:eH ti.desc=false→ti.size=1) :
  (loadVar t ⟨b,off,none⟩).run P w=.ok (if eH ti.desc then .agg (cT ti.size g) else g 0) w:=by
 unfold loadVar
 simp only[Sem.run_bind,B6 A ht,Result.andThen]
 split
 ·simp only[Sem.run_bind,eR A ht,Result.andThen]
  rw[run_loadCells (P:=P) w ⟨b,off,none⟩ ti.size g (fun j hj=>by rw[Addr.add_lit];exact h j hj)]
  simp[cT]
 ·rename_i ha
  have:=h 0 (by rw[hs (by simpa using ha)];omega)
  simp only[Nat.add_zero] at this
  simp[run_load,this]
end
set_option linter.unusedSectionVars false
section
variable {w : World} {ρ : bg} {rt : ai}
def eJ (P:Program)(ev':Operand→Value)(o:Oper)(w:World)(ρ:bg)(rt:ai)(v:V):Prop:=
 ∃u,(execOp ev' o).run P w=.ok (.value u) w∧aM w ρ rt bq v u
theorem iI {n:Nat}{g:Nat→Value}{i:Nat}(h:i<n):(cT n g)[i]?=some (g i):=by simp[cT,h]
theorem I9 {n:Nat}{g:Nat→Value}:(cT n g).size=n:=by simp[cT]
theorem sW {cs:List V}{u:Value}(h:aM w ρ rt bq (.agg cs) u):∃g,u=.agg (cT cs.length g)∧∀(k:Nat) x,cs[k]?=some x→RepV w ρ rt none x (g k):=by
 obtain⟨g,hu,hg⟩:=h
 exact⟨g,by simpa[fc,al,cells] using hu,fun k x hx=>hg k x hx⟩
section
variable {P : Program} {E : Env} (A : Agree P E) {st : St} {a : Act} {o : Oper} (H : et w ρ st.rt) (J : eM ρ) (T : ji w ρ st.rt st.tm a.tmps)
include A H J T
theorem Sg {x:Operand}{v:V}(ho:o.op=.move x)(h:ev st x=some v):eJ P a.eval o w ρ st.rt v:=⟨_,by simp[execOp,ho],cg T h⟩
theorem NW {x:Operand}{v:V}(ho:o.op=.assign x)(h:ev st x=some v):eJ P a.eval o w ρ st.rt v:=⟨_,by simp[execOp,ho],cg T h⟩
theorem LI {c x y:Operand}{b:Bool}{v:V}(ho:o.op=.pick c x y)(hc:ev st c=some (.bool b))(h:(if b then ev st x else ev st y)=some v):eJ P a.eval o w ρ st.rt v:=by
 have hb:=kO (cg T hc)
 cases b
 ·exact⟨_,by simp[execOp,ho,hb,asBool];rfl,cg T (by simpa using h)⟩
 ·exact⟨_,by simp[execOp,ho,hb,asBool];rfl,cg T (by simpa using h)⟩
theorem Sh {op:UnOp}{t:TypeId}{x:Operand}{u v:V}(ho:o.op=.unOp op t x)(hx:ev st x=some u)(h:Pf op u=some v):eJ P a.eval o w ρ st.rt v:=by
 have hs:=cg T hx
 unfold Pf at h
 split at h
 ·rename_i b
  have:=kO hs
  split at h<;>cases h
  exact⟨_,by simp[execOp,ho,this,Op.unary],iG _⟩
 ·rename_i k n
  have:=iw hs
  split at h
  ·cases h
   exact⟨_,by simp[execOp,ho,this,Op.unary,Op.intArith],kJ _ _⟩
  ·simp only[intBits] at h
   cases h
   exact⟨_,by simp[execOp,ho,this,Op.unary,Op.intBits],kJ _ _⟩
  ·cases h
 ·cases h
theorem LH {x:Operand}{i:Nat}{vs:List V}{v:V}(ho:o.op=.extract x i)(hx:ev st x=some (.tup vs))(h:vs[i]?=some v):eJ P a.eval o w ρ st.rt v:=by
 have:=aM.one rfl (cg T hx)
 generalize hev:a.eval x=ux at *
 cases this with
 | tup _ _ p g hp hg=>
  have hi:=(cd.1 h).1
  refine⟨p i,by simp[execOp,ho,hev,Instr.extract,iI hi],g i,hp i v h,fun k x hx=>hg i v k x h hx⟩
theorem BE {x:Operand}{v:V}(ho:o.op=.nilCheck x)(hx:ev st x=some v)(hl:match v with
  | .hp o nv p _ _ _=>b8 st.rt o nv p
  | .iptr _ _=>True
  | _=>False):eJ P a.eval o w ρ st.rt v:=by
 have hs:=cg T hx
 have:=aM.one (by cases v<;>first | rfl | exact hl.elim) hs
 generalize hev:a.eval x=ux at *
 cases this<;>first | (exact hl.elim) | skip
 case iptr e k b off g hb hρ hc h=>exact⟨_,by simp[execOp,ho,hev],hs⟩
 case hp o' nv p s i k hh _=>
  obtain⟨b,n,h1,h2,h3⟩:=hh hl
  subst h3
  exact⟨_,by simp[execOp,ho,hev],hs⟩
theorem Jn {f:FuncId}{first caps:Array Operand}{vs:List V}(ho:o.op=.makeFunc (.func f) first caps)(h0:first.size=0)(h:gQ st caps.toList=some vs)(hp:∀v∈vs,al v=false):eJ P a.eval o w ρ st.rt (.fn f vs):=by
 obtain⟨hl,hr⟩:=ro T h
 have e0:first=#[]:=Array.eq_empty_of_size_eq_zero h0
 subst e0
 refine⟨.func (.func f) #[] (caps.map a.eval),by simp[execOp,ho,Instr.makeFunc],aM.mk1 rfl ?_⟩
 have e:caps.map a.eval=cT vs.length (fun i=>a.eval (caps.getD i (.const undef))):=by
  apply Array.ext
  ·simp[cT,hl]
  ·intro i h1 h2
   simp at h1
   simp[cT,Array.getD,h1]
 rw[e]
 refine .fn _ _ _ _ fun i v hv=>?_
 have hi:=(cd.1 hv).1
 have hi':i<caps.size:=by simp at hl;omega
 have:=hr i v (caps[i]) hv (by simp[hi'])
 have hv':=hp v (ii hv)
 simpa[Array.getD,hi',bq] using aM.one hv' this
theorem BD {t:TypeId}{x:Operand}{v:V}(ho:o.op=.makeInterface t x)(hx:ev st x=some v){d:TypeDesc}(hd:E.desc t=some d)(hi:nr d=false):eJ P a.eval o w ρ st.rt (.iface t v):=by
 have hs:=cg T hx
 have hu:=A.desc hd
 refine⟨.iface t (a.eval x),?_,aM.mk1 rfl ?_⟩
 ·simp only[execOp,ho,Instr.makeInterface,Sem.run_bind,run_underlying hu,Result.andThen]
  cases d<;>simp_all[nr]
 ·obtain⟨g,hu,hg⟩:=hs
  rw[hu]
  exact .iface _ _ _ g fun k x hx=>hg k x hx
theorem Sf {t:TypeId}{p:Operand}{ti:TI}{pv:V}{cs:List V}{v:V}(ho:o.op=.load t p)(ht:E.ty t=some ti)(hp:ev st p=some pv)(hc:jE st.rt pv=some cs)(hl:ti.size≤cs.length)(h0:0<ti.size)(h:jH (eH ti.desc) (cs.take ti.size)=some v):eJ P a.eval o w ρ st.rt v:=by
 have hpv:al pv=false:=by cases pv<;>first | rfl | simp[jE] at hc
 obtain⟨b,off,hu,hr⟩:=F8 H J hc (aM.one hpv (cg T hp)) (by omega)
 have hx:∀j,j<ti.size→∃y,w.cell? ⟨b,off+j,none⟩=some y∧∀x,cs[j]?=some x→RepV w ρ st.rt none x y:=by
  intro j hj
  obtain⟨y,h1,h2⟩:=hr j (cs[j]'(by omega)) (by simp)
  exact⟨y,h1,fun x hx=>by rw[d5 (by omega)] at hx;cases hx;exact h2⟩
 have hg:∃g:Nat→Value,∀j,j<ti.size→w.cell? ⟨b,off+j,none⟩=some (g j)∧∀x,cs[j]?=some x→RepV w ρ st.rt none x (g j):=by
  refine⟨fun j=>if hj:j<ti.size then (hx j hj).choose else undef,fun j hj=>?_⟩
  simp only[hj,dif_pos]
  exact (hx j hj).choose_spec
 obtain⟨g,hg⟩:=hg
 have h1:eH ti.desc=false→ti.size=1:=fun ha=>by
  unfold jH at h
  rw[if_neg (by simp[ha])] at h
  split at h
  ·rename_i v' hv'
   have:=congrArg List.length hv'
   simp[Nat.min_eq_left hl] at this
   exact this
  ·cases h
 refine⟨_,?_,sL (g:=g) h (fun k x hk=>?_)⟩
 ·simp only[execOp,ho,Instr.loadAt,hu,Instr.sureAddr,Sem.run_bind,Sem.run_pure,Result.andThen]
  rw[wL A ht (fun j hj=>(hg j hj).1) h1]
  simp[List.length_take,Nat.min_eq_left hl]
 ·rw[List.getElem?_take] at hk
  split at hk
  ·rename_i hk'
   exact (hg k hk').2 x hk
  ·cases hk
theorem wD {s:TypeId}{x:Operand}{f:Nat}{pv v:V}{fl:Nat×Nat×Bool}(ho:o.op=.fieldAddr s x f)(hx:ev st x=some pv)(hf:fieldAt? E s f=some fl)(h0:0<fl.2.1)(h:match pv,v with
   | .iptr e k,.iptr e' k'=>e'=e∧k'=k+fl.1
   | .hp o nv p sz i k,.hp o' nv' p' sz' i' k'=>o'=o∧nv'=nv∧p'=p∧sz'=sz∧i'=i∧k'=k+fl.1∧b8 st.rt o nv p
   | _,_=>False):eJ P a.eval o w ρ st.rt v:=by
 unfold fieldAt? at hf
 split at hf
 ·rename_i fs ti1 ti2 ti3 hs
  simp only[aG,aI] at hf
  obtain⟨fd,hfd,ti,hti,rfl⟩:=hf
  have hu:=A.und s _ hs
  have hsz:=eR A hti w
  have key:∀b off,a.eval x=.pointer (some ⟨b,off,none⟩)→(execOp a.eval o).run P w=.ok (.value (.pointer (some ⟨b,off+fd.offset,none⟩))) w:=by
   intro b off he
   have hz:¬(ti.size=0):=by simp at h0;omega
   simp[execOp,ho,he,Instr.fieldAt,run_underlying hu,hfd,Instr.sureAddr,fieldPlace,hsz,hz,Addr.add_lit]
  have hpv:=cg T hx
  cases pv<;>cases v<;>first | (exact h.elim) | skip
  ·obtain⟨rfl,rfl⟩:=h
   have:=aM.one rfl hpv
   generalize hev:a.eval x=ux at this
   cases this with
   | iptr _ e k b off g hb hρ hc hr=>
    refine⟨_,key b off hev,aM.mk1 rfl ?_⟩
    exact .iptr _ _ _ _ _ (fun j=>g (fd.offset+j)) hb hρ (fun j x hx=>by rw[Nat.add_assoc];exact hc (fd.offset+j) x (by rw[←Nat.add_assoc];exact hx)) fun j x hx=>hr (fd.offset+j) x (by rw[←Nat.add_assoc];exact hx)
  ·obtain⟨rfl,rfl,rfl,rfl,rfl,rfl,hl⟩:=h
   have:=aM.one rfl hpv
   generalize hev:a.eval x=ux at this
   cases this with
   | hp _ _ _ _ _ _ _ _ hh=>
    obtain⟨b,n,h1,h2,h3⟩:=hh hl
    refine⟨_,key b _ (hev.trans h3),aM.mk1 rfl (.hp _ _ _ _ _ _ _ _ (fun _=>⟨b,n,h1,h2,?_⟩) trivial)⟩
    simp[Nat.add_assoc]
 ·cases hf
theorem Qd {s:TypeId}{x:Operand}{f:Nat}{cs c:List V}{v:V}{fl:Nat×Nat×Bool}(ho:o.op=.field s x f)(hx:ev st x=some (.agg cs))(hf:fieldAt? E s f=some fl)(hc:c=(cs.drop fl.1).take fl.2.1)(hl:c.length=fl.2.1)(h:jH fl.2.2 c=some v):eJ P a.eval o w ρ st.rt v:=by
 unfold fieldAt? at hf
 split at hf
 ·rename_i fs ti1 ti2 ti3 hs
  simp only[aG,aI] at hf
  obtain⟨fd,hfd,ti,hti,rfl⟩:=hf
  have hu:=A.und s _ hs
  have hsz:=eR A hti w
  obtain⟨g,he,hg⟩:=sW (cg T hx)
  subst hc
  simp only[List.length_take,List.length_drop] at hl
  have hget:∀(k:Nat) x,((cs.drop fd.offset).take ti.size)[k]?=some x→RepV w ρ st.rt none x (g (fd.offset+k)):=by
   intro k x hk
   rw[List.getElem?_take] at hk
   split at hk
   ·rw[List.getElem?_drop] at hk;exact hg _ x hk
   ·cases hk
  refine⟨_,?_,sL (g:=fun k=>g (fd.offset+k)) h hget⟩
  have hia:=B6 A hti w
  simp only[execOp,ho,he,Instr.field,Sem.run_bind,run_underlying hu,Result.andThen,hfd,asAgg,Sem.run_pure,part,hia]
  have hle:fd.offset+ti.size≤cs.length∨ti.size=0:=by omega
  by_cases ha:eH ti.desc=true
  ·simp[ha,hsz]
   apply Array.ext
   ·simp[cT];try omega
   ·intro i h1 h2
    simp[cT] at h1 h2 ⊢
  ·simp only[ha]
   have h1:((cs.drop fd.offset).take ti.size).length=1:=by
    unfold jH at h
    rw[if_neg ha] at h
    split at h
    ·rename_i v' hv';rw[hv'];rfl
    ·cases h
   simp only[List.length_take,List.length_drop] at h1
   have hlt:fd.offset<cs.length:=by omega
   simp[cT,hlt]
 ·cases hf
end
end
section
variable {w : World} {ρ : bg} {rt : ai}
section
variable {P : Program} {E : Env} (A : Agree P E) {st : St} {a : Act} {o : Oper} (H : et w ρ st.rt) (J : eM ρ) (T : ji w ρ st.rt st.tm a.tmps)
include A H J T
theorem NX {op:BinOp}{t t':TypeId}{x y:Operand}{k k':IntKind}{m n:Int}{v:V}(ho:o.op=.binOp op t x y t')(hx:ev st x=some (.int k m))(hy:ev st y=some (.int k' n))(h:uY op k k' m n=some v):eJ P a.eval o w ρ st.rt v:=by
 unfold uY at h
 have hxu:=iw (cg T hx)
 have hyu:=iw (cg T hy)
 by_cases h1:op=.shl
 ·subst h1
  simp only at h
  split at h<;>cases h
  exact⟨_,by simp[execOp,ho,hxu,hyu,eqGuard,binOp,Op.shift, *],kJ _ _⟩
 by_cases h2:op=.shr
 ·subst h2
  simp only at h
  split at h<;>cases h
  exact⟨_,by simp[execOp,ho,hxu,hyu,eqGuard,binOp,Op.shift, *],kJ _ _⟩
 have h':k=k'∧vU op k m n=some v:=by
  split at h
  ·exact absurd rfl h1
  ·exact absurd rfl h2
  ·split at h
   ·rename_i hk;exact⟨hk,h⟩
   ·cases h
 obtain⟨rfl,h'⟩:=h'
 obtain⟨u,hu,hs⟩:=LS (w:=w) (ρ:=ρ) (rt:=st.rt) (P:=P) h1 h2 h' t
 refine⟨u,?_,hs⟩
 have hgd:(eqGuard op t x y (.int k m) (.int k n)).run P w=.ok () w:=by
  unfold eqGuard
  split<;>simp
 simp[execOp,ho,hxu,hyu,hgd,hu]
theorem NY {op:BinOp}{t t':TypeId}{x y:Operand}{m n:ByteArray}{v:V}(ho:o.op=.binOp op t x y t')(hx:ev st x=some (.str m))(hy:ev st y=some (.str n))(h:v8 op m n=some v):eJ P a.eval o w ρ st.rt v:=by
 have hxu:=ny (cg T hx)
 have hyu:=ny (cg T hy)
 obtain⟨u,hu,hs⟩:=Mq (w:=w) (ρ:=ρ) (rt:=st.rt) (P:=P) h t
 refine⟨u,?_,hs⟩
 have hgd:(eqGuard op t x y (.string m) (.string n)).run P w=.ok () w:=by
  unfold eqGuard
  split<;>simp
 simp[execOp,ho,hxu,hyu,hgd,hu]
theorem DD {op:BinOp}{t t':TypeId}{x y:Operand}{m n:Bool}{v:V}(ho:o.op=.binOp op t x y t')(hx:ev st x=some (.bool m))(hy:ev st y=some (.bool n))(hd:E.desc t=some .bool)(h:(op=.eql∧v=.bool (m==n))∨(op=.neq∧v=.bool !(m==n))):eJ P a.eval o w ρ st.rt v:=by
 have hxu:=kO (cg T hx)
 have hyu:=kO (cg T hy)
 have hq:=Jd (w:=w) (P:=P) (a:=m) (b:=n) (A.desc hd)
 have hgd:(eqGuard op t x y (.bool m) (.bool n)).run P w=.ok () w:=by
  unfold eqGuard
  split<;>simp
 rcases h with⟨rfl,rfl⟩ | ⟨rfl,rfl⟩
 ·exact⟨.bool (m==n),by simp[execOp,ho,hxu,hyu,hgd,binOp,hq],iG _⟩
 ·exact⟨.bool !(m==n),by simp[execOp,ho,hxu,hyu,hgd,binOp,hq],iG _⟩
theorem F9 {op : BinOp}{t t' : TypeId}{x y : Operand}{m n : V}{b : Bool}{v : V}{d : TypeDesc}(ho : o.op = .binOp op t x y t')(hx : ev st x = some m)(hy : ev st y = some n)(hd : E.desc t = some d)(hf : rA d m = true)(hq : qe m n=some b)(hlit : nr d=true→(nJ x || nJ y)=true)(h : (op=.eql ∧ v=.bool b) ∨ (op=.neq ∧ v=.bool !b)) : eJ P a.eval o w ρ st.rt v:=by
  have hma : al m=false:=by cases m <;> first | rfl | simp [qe] at hq
  have hna : al n=false:=by cases n <;> first | rfl | (cases m <;> simp [qe] at hq)
  have hxu:=aM.one hma (cg T hx)
  have hyu:=aM.one hna (cg T hy)
  have hrun:=L6 (P:=P) hq hxu hyu (A.desc hd) hf
  generalize hev : a.eval x=ux at hxu hrun
  generalize hev' : a.eval y=uy at hyu hrun
  have fin : (eqGuard op t x y ux uy).run P w=.ok () w→(∀ z,(op=.eql→z=b)→(op=.neq→z=!b)→(binOp op t ux uy).run P w=.ok (.bool z) w)→eJ P a.eval o w ρ st.rt v:=by
    intro h1 h2
    rcases h with ⟨rfl,rfl⟩ | ⟨rfl,rfl⟩
    · exact ⟨.bool b,by simp [execOp,ho,hev,hev',h1,h2 b (fun _=>rfl) (by simp)],iG _⟩
    · exact ⟨.bool !b,by simp [execOp,ho,hev,hev',h1,h2 (!b) (by simp) (fun _=>rfl)],iG _⟩
  have hop : op=.eql ∨ op=.neq:=h.imp And.left And.left
  unfold qe at hq
  split at hq <;> first | (cases hq; done) | skip
  all_goals first
    | (obtain ⟨A1, l, c, rfl, hA⟩ := jz hxu
       obtain ⟨A2,l',c',rfl,hA'⟩:=jz hyu
       refine fin (by unfold eqGuard; split <;> simp) fun z hz hz'=>?_
       rcases hop with rfl | rfl
       · simp [binOp,hrun,hz rfl]
       · simp [binOp,hrun,hz' rfl])
    | (cases hxu; cases hyu
       refine fin ?_ fun z hz hz'=>?_
       · first
         | (unfold eqGuard; split <;> simp; done)
         | (have hl := hlit (by cases d <;> simp_all [rA, nr])
            simp only [Bool.or_eq_true] at hl
            clear fin hrun
            rcases hl with hl | hl
            · cases x <;> first
                | (simp [nJ] at hl; done)
                | (unfold eqGuard; split <;> simp)
            · cases y <;> first
                | (simp [nJ] at hl; done)
                | (unfold eqGuard; split <;> simp))
       · rcases hop with rfl | rfl
         · simp [binOp,hrun,hz rfl]
         · simp [binOp,hrun,hz' rfl])
end
end
section
variable {w : World} {ρ : bg} {rt : ai}
theorem uN {E:Env}{t:TypeId}{d:TypeDesc}(h:E.desc t=some d):∃ti,E.ty t=some ti∧ti.desc=d:=by
 unfold Env.desc at h
 split at h
 ·rename_i ti hti;cases h;exact⟨ti,hti,rfl⟩
 ·cases h
section
variable {P : Program} {E : Env} (A : Agree P E) {st : St} {a : Act} {o : Oper} (H : et w ρ st.rt) (J : eM ρ) (T : ji w ρ st.rt st.tm a.tmps)
include A H J T
theorem LF {src dst:TypeId}{x:Operand}{k k':IntKind}{n:Int}{d:TypeDesc}(ho:o.op=.convert src dst x)(hx:ev st x=some (.int k' n))(hs:E.desc src=some d)(hd:E.desc dst=some (.int k)) :
  eJ P a.eval o w ρ st.rt (.int k (k.wrap n)):=by
 have hxu:=iw (cg T hx)
 refine⟨_,?_,kJ _ _⟩
 simp[execOp,ho,hxu,convert,run_underlying (A.desc hs),run_underlying (A.desc hd),Conv.intToInt]
theorem LG {src dst:TypeId}{x:Operand}{s:ByteArray}(ho:o.op=.convert src dst x)(hx:ev st x=some (.str s))(hs:E.desc src=some .string)(hd:E.desc dst=some .string) :
  eJ P a.eval o w ρ st.rt (.str s):=by
 have hxu:=ny (cg T hx)
 refine⟨_,?_,BM _⟩
 simp[execOp,ho,hxu,convert,run_underlying (A.desc hs),run_underlying (A.desc hd)]
theorem Jm {t:TypeId}{x i:Operand}{s:ByteArray}{k:IntKind}{n:Int}{c:UInt8}(ho:o.op=.index t x i)(hx:ev st x=some (.str s))(hi:ev st i=some (.int k n))(hd:E.desc t=some .string)(h0:0≤n)(hc:s[n.toNat]?=some c) :
  eJ P a.eval o w ρ st.rt (.int .u8 c.toNat):=by
 have hxu:=ny (cg T hx)
 have hiu:=iw (cg T hi)
 refine⟨_,?_,kJ _ _⟩
 simp[execOp,ho,hxu,hiu,Instr.index,asIntOf,run_underlying (A.desc hd),h0,hc]
theorem Hd {t:TypeId}{x i:Operand}{xv v:V}{k:IntKind}{n:Int}(ho:o.op=.indexAddr t x i)(hx:ev st x=some xv)(hi:ev st i=some (.int k n))(hl:kV st.rt xv=true)(h:iE E t xv n=some v):eJ P a.eval o w ρ st.rt v:=by
 have hxs:=cg T hx
 have hiu:=iw (cg T hi)
 unfold iE at h
 split at h
 ·rename_i e nl es hd
  split at h
  ·rename_i h0
   simp only[aG] at h
   obtain⟨el,hel,h⟩:=h
   split at h
   ·rename_i hsz
    cases h
    obtain⟨ei,hei,hes⟩:=aI.1 hsz
    have hr:=aM.one rfl hxs
    generalize hev:a.eval x=ux at hr
    cases hr with
    | isl0=>simp at hel
    | isl _ _ b off c s g hlc hpos hρ hb hs hc hrep=>
     have hlt:=(cd.1 hel).1
     have hs':=hs _ _ hel
     refine⟨.pointer (some ⟨b,off+n.toNat*s,none⟩),?_,aM.mk1 rfl (.iptr _ _ _ _ _ (g n.toNat) hb hρ (fun j y hy=>?_) fun j y hy=>?_)⟩
     ·have hin:0≤n∧n<(es.length:Int):=by omega
      have hsz':=eR A hei w
      simp[execOp,ho,hev,hiu,Instr.indexAt,asIntOf,run_underlying (A.desc hd),hin,hsz',Addr.add_lit,hes,hs']
     ·have:=hc n.toNat el j y hel (by simpa using hy)
      rw[Nat.add_assoc];exact this
     ·exact hrep n.toNat el j y hel (by simpa using hy)
   ·cases h
  ·cases h
 ·rename_i e o' nv p s off len hd
  split at h
  ·rename_i hc
   cases h
   obtain⟨h0,hlt,hsz⟩:=hc
   obtain⟨ei,hei,hes⟩:=aI.1 hsz
   have hr:=aM.one rfl hxs
   generalize hev:a.eval x=ux at hr
   cases hr with
   | hs _ _ _ _ _ _ _ _ hh=>
    obtain⟨c,Ad,hu,hlc,hcc⟩:=hh hl
    obtain⟨b,m,h1,h2,h3,h4⟩:=hcc (by omega)
    subst h3
    refine⟨.pointer (some ⟨b,(off+n.toNat)*s,none⟩),?_,aM.mk1 rfl (.hp _ _ _ _ _ _ _ _ (fun _=>⟨b,m,h1,h2,by simp⟩) trivial)⟩
    have hsz':=eR A hei w
    simp[execOp,ho,hev,hu,hiu,Instr.indexAt,asIntOf,run_underlying (A.desc hd),h0,hlt,hsz',Addr.add_lit,hes,Nat.add_mul]
  ·cases h
 ·rename_i m e o' nv p s j kk hd
  simp only[aG] at h
  obtain⟨ei,hei,h⟩:=h
  split at h
  ·rename_i hc
   cases h
   obtain⟨h0,hlt,hsz⟩:=hc
   have hr:=aM.one rfl hxs
   generalize hev:a.eval x=ux at hr
   cases hr with
   | hp _ _ _ _ _ _ _ _ hh=>
    obtain⟨b,m',h1,h2,h3⟩:=hh hl
    subst h3
    refine⟨.pointer (some ⟨b,j*s+(kk+n.toNat*ei.size),none⟩),?_,aM.mk1 rfl (.hp _ _ _ _ _ _ _ _ (fun _=>⟨b,m',h1,h2,rfl⟩) trivial)⟩
    have hsz':=eR A hei w
    simp[execOp,ho,hev,hiu,Instr.indexAt,Instr.sureAddr,asIntOf,run_underlying (A.desc hd),h0,hlt,hsz',Addr.add_lit,Nat.add_assoc]
  ·cases h
 ·rename_i m e el kk hd
  simp only[aG] at h
  obtain⟨ei,hei,h⟩:=h
  split at h
  ·rename_i hc
   cases h
   obtain⟨h0,hlt,hsz⟩:=hc
   have hr:=aM.one rfl hxs
   generalize hev:a.eval x=ux at hr
   cases hr with
   | iptr _ _ _ b off g hb hρ hcc hrep=>
    refine⟨.pointer (some ⟨b,off+n.toNat*ei.size,none⟩),?_,aM.mk1 rfl (.iptr _ _ _ _ _ (fun j=>g (n.toNat*ei.size+j)) hb hρ (fun j y hy=>?_) fun j y hy=>?_)⟩
    ·have hsz':=eR A hei w
     simp[execOp,ho,hev,hiu,Instr.indexAt,Instr.sureAddr,asIntOf,run_underlying (A.desc hd),h0,hlt,hsz',Addr.add_lit]
    ·rw[Nat.add_assoc];exact hcc _ y (by rw[←Nat.add_assoc];exact hy)
    ·exact hrep _ y (by rw[←Nat.add_assoc];exact hy)
  ·cases h
 ·cases h
theorem Tb {t:TypeId}{x:Operand}{xv v:V}{ts:Array TypeId}(ho:o.op=.call { callee:=.builtin .len,args:=#[x],argTypes:=ts })(h1:ts[0]?=some t)(hx:ev st x=some xv)(hl:kV st.rt xv=true)(h:qy (E.desc t) xv=some v):eJ P a.eval o w ρ st.rt v:=by
 have hxs:=cg T hx
 have go:∀n:Nat,(Builtin.len_ ts o.type #[a.eval x]).run P w=.ok (goInt n) w→eJ P a.eval o w ρ st.rt (.int .i64 n):=by
  intro n hn
  refine⟨_,?_,kJ _ _⟩
  simp[execOp,ho,resolve,invoke,builtin,hn,goInt]
 have hS:BH (E.desc t)=true→P.underlying t=some .string:=fun hd=>by
  cases hq:E.desc t with
  | none=>simp[hq,BH] at hd
  | some d=>cases d<;>simp[hq,BH] at hd;exact A.desc hq
 have hL:fC (E.desc t)=true→∃e,P.underlying t=some (.slice e):=fun hd=>by
  cases hq:E.desc t with
  | none=>simp[hq,fC] at hd
  | some d=>cases d<;>simp[hq,fC] at hd;exact⟨_,A.desc hq⟩
 unfold qy at h
 split at h
 ·split at h<;>cases h
  rename_i s hd
  have hxu:=ny hxs
  exact go _ (by simp[Builtin.len_,h1,hxu,run_underlying (hS hd)])
 ·split at h<;>cases h
  rename_i nl es hd
  obtain⟨e,he⟩:=hL hd
  obtain⟨Ad,l,c,hu,_⟩:=jz (aM.one rfl hxs)
  have hl':l=es.length:=by
   have:=aM.one rfl hxs
   rw[hu] at this
   cases this<;>rfl
  exact go _ (by simp[Builtin.len_,h1,hu,hl',run_underlying he])
 ·split at h<;>cases h
  rename_i o' nv p s off len hd
  obtain⟨e,he⟩:=hL hd
  have hr:=aM.one rfl hxs
  generalize hev:a.eval x=ux at hr go
  cases hr with
  | hs _ _ _ _ _ _ _ _ hh=>
   obtain⟨c,Ad,hu,hlc,hcc⟩:=hh hl
   exact go _ (by simp[Builtin.len_,h1,hu,run_underlying he])
 ·cases h
theorem jw {lo:Option Operand}{lv:Option V}(hlo:mA st lo=some lv){d l:Int}(h:gO d lv=some l):(lo=none∧l=d)∨∃x k,lo=some x∧a.eval x=.int k l:=by
 cases lo with
 | none=>cases hlo;cases h;exact .inl ⟨rfl,rfl⟩
 | some x=>
  simp only[mA,aI] at hlo
  obtain⟨v,hv,rfl⟩:=hlo
  cases v<;>simp[gO] at h
  subst h
  exact .inr ⟨x,_,rfl,iw (cg T hv)⟩
theorem ki {b:Bool}{len cap:Nat}{lo hi:Option Operand}{l h:Int}(hl:(lo=none∧l=0)∨∃x k,lo=some x∧a.eval x=.int k l)(hh:(hi=none∧h=len)∨∃x k,hi=some x∧a.eval x=.int k h)(h0:0≤l)(h1:l≤h)(h2:h≤len)(h3:len≤cap):(Instr.sliceBounds b len cap (lo.map a.eval) (hi.map a.eval) none).run P w=.ok (l.toNat,h.toNat,cap) w:=by
 have hh':(h.toNat:Int)=h:=Int.toNat_of_nonneg (by omega)
 have key:∀k y code,(0:Int)≤y→y≤cap→(Instr.sliceBound (.int k y) cap code).run P w=.ok y.toNat w:=fun k y code g1 g2=>run_sliceBound w k y cap code g1 g2
 rcases hl with⟨rfl,rfl⟩ | ⟨x,k,rfl,hx⟩<;>rcases hh with⟨rfl,rfl⟩ | ⟨y,k',rfl,hy⟩
 ·simp[Instr.sliceBounds]
 ·simp[Instr.sliceBounds,hy,key k' h _ (by omega) (by omega)]
 ·simp[Instr.sliceBounds,hx,run_sliceBound w k l len _ h0 h1]
 ·simp[Instr.sliceBounds,hx,hy,key k' h _ (by omega) (by omega),run_sliceBound w k l h.toNat _ h0 (by omega)]
theorem Qe {t : TypeId}{x : Operand}{lo hi : Option Operand}{xv v : V}{lv hv : Option V}(ho : o.op = .slice t x lo hi none)(hx : ev st x = some xv)(hlo : mA st lo=some lv)(hhi : mA st hi=some hv)(hal : kV st.rt xv=true)(h : jS E st.rt t xv lv hv=some v) : eJ P a.eval o w ρ st.rt v:=by
  have hxs:=cg T hx
  unfold jS at h
  split at h
  · rename_i s hd
    simp only [aG] at h
    obtain ⟨l,hl,h,hh,hc⟩:=h
    split at hc
    · cases hc
      rename_i hc
      obtain ⟨c0,c1,c2⟩:=hc
      have hxu:=ny hxs
      have:=ki (P:=P) (w:=w) A H J T (b:=false) (cap:=s.size) (jw A H J T hlo hl) (jw A H J T hhi hh) c0 c1 c2 (Nat.le_refl _)
      refine ⟨_,?_,BM _⟩
      simp [execOp,ho,hxu,Instr.sliceAt,Instr.slice,run_underlying (A.desc hd),this]
    · cases hc
  · rename_i e nl es hd
    simp only [aG] at h
    obtain ⟨l,hl,h,hh,ei,hei,hc⟩:=h
    split at hc
    · cases hc
      rename_i hc
      obtain ⟨c0,c1,c2,c3⟩:=hc
      have hsz:=eR A hei w
      have hr:=aM.one rfl hxs
      generalize hev : a.eval x=ux at hr
      cases hr with
      | isl0 _ _ Ad c hn =>
        have e1 : l=0:=by simp at c2; omega
        have e2 : h=0:=by simp at c2; omega
        subst e1 e2
        have:=ki (P:=P) (w:=w) A H J T (b:=true) (len:=0) (cap:=c) (jw A H J T hlo hl) (jw A H J T hhi hh) (Int.le_refl _) (Int.le_refl _) (Int.le_refl _) (Nat.zero_le _)
        refine ⟨.slice (if c=0 then Ad else Ad.map (·.add 0)) 0 c,?_,aM.mk1 rfl ?_⟩
        · simp [execOp,ho,hev,Instr.sliceAt,Instr.slice,run_underlying (A.desc hd),this,hsz]
        · simp only [List.drop_nil,List.take_nil]
          refine .isl0 _ _ _ _ (fun q=>?_)
          rw [(hn q).1,(hn q).2]; simp
      | isl _ _ b off c s g hlc hpos hρ hb hs hc hrep =>
        have:=ki (P:=P) (w:=w) A H J T (b:=true) (len:=es.length) (cap:=c) (jw A H J T hlo hl) (jw A H J T hhi hh) c0 c1 c2 hlc
        refine ⟨.slice (if c=l.toNat then some ⟨b,off,none⟩ else some ⟨b,off + l.toNat * ei.size,none⟩) (h.toNat - l.toNat) (c - l.toNat),?_,aM.mk1 rfl ?_⟩
        · simp [execOp,ho,hev,Instr.sliceAt,Instr.slice,run_underlying (A.desc hd),this,hsz,Addr.add_lit]
        · have hln : ((es.drop l.toNat).take (h.toNat - l.toNat)).length=h.toNat - l.toNat:=by simp; omega
          by_cases hz : h.toNat - l.toNat=0
          · have : (es.drop l.toNat).take (h.toNat - l.toNat)=[]:=by rw [hz]; simp
            rw [this,hz]
            exact .isl0 _ _ _ _ (by simp)
          · rw [if_neg (by omega)]
            have:=RepV.isl (w:=w) (ρ:=ρ) (rt:=st.rt) (bq 0) ((es.drop l.toNat).take (h.toNat - l.toNat)) b (off + l.toNat * ei.size) (c - l.toNat) s (fun i k=>g (l.toNat + i) k) (by rw [hln]; omega) (by rw [hln]; omega) hρ hb
              (fun i e he => hs (l.toNat + i) e (by rw [List.getElem?_take] at he; split at he; · rw [List.getElem?_drop] at he; exact he
                                                    · cases he))
              (fun i e k x he hx=>by
                rw [List.getElem?_take] at he
                split at he
                · rw [List.getElem?_drop] at he
                  have h1:=hc _ e k x he hx
                  have h2 : ei.size=s:=by
                    have h3:=List.all_eq_true.1 c3 e (ii he)
                    have h4:=hs _ e he
                    simp at h3; omega
                  rw [h2]
                  rw [← h1]
                  congr 2
                  rw [Nat.add_mul]; omega
                · cases he)
              (fun i e k x he hx=>by
                rw [List.getElem?_take] at he
                split at he
                · rw [List.getElem?_drop] at he
                  exact hrep _ e k x he hx
                · cases he)
            rw [hln] at this
            exact this
    · cases hc
  · rename_i e o' nv p s off len hd
    split at h
    · rename_i hsz
      obtain ⟨ei,hei,hes⟩:=aI.1 hsz
      simp only [aG] at h
      obtain ⟨l,hl,h,hh,hc⟩:=h
      split at hc
      · cases hc
        rename_i hc
        obtain ⟨c0,c1,c2⟩:=hc
        have hsz:=eR A hei w
        have hr:=aM.one rfl hxs
        generalize hev : a.eval x=ux at hr
        cases hr with
        | hs _ _ _ _ _ _ _ _ hhs =>
          obtain ⟨c,Ad,hu,hlc,hcc⟩:=hhs hal
          have:=ki (P:=P) (w:=w) A H J T (b:=true) (len:=len) (cap:=c) (jw A H J T hlo hl) (jw A H J T hhi hh) c0 c1 c2 hlc
          refine ⟨.slice (if c=l.toNat then Ad else Ad.map (·.add (l.toNat * ei.size))) (h.toNat - l.toNat) (c - l.toNat),?_,aM.mk1 rfl (.hs _ _ _ _ _ _ _ _ (fun _=>⟨_,_,rfl,by omega,fun hne=>?_⟩) trivial)⟩
          · simp [execOp,ho,hev,hu,Instr.sliceAt,Instr.slice,run_underlying (A.desc hd),this,hsz]
          · obtain ⟨b,n,h1,h2,h3,h4⟩:=hcc (by omega)
            refine ⟨b,n,h1,h2,?_,?_⟩
            · rw [if_neg (by omega),h3]
              simp [Addr.add_lit,hes,Nat.add_mul]
            · have : off + l.toNat + (c - l.toNat)=off + c:=by omega
              rw [this]; exact h4
      · cases hc
    · cases h
  · cases h
end
end
section
variable {w : World} {ρ : bg} {rt : ai}
def Cs (w:World)(ρ:bg)(rt:ai)(cs:List V)(arr:Array Value):Prop:=
 cs.length=arr.size∧∀(k:Nat) x y,cs[k]?=some x→arr[k]?=some y→RepV w ρ rt none x y
theorem rD {L}{v:V}{u:Value}(h:RepV w ρ rt L v u)(hv:eP v=true):Lp u:=by
 cases h<;>first | trivial | (simp[eP] at hv;done) | assumption
theorem Lp.cells {u:Value}(h:Lp u):u.cells=#[u]:=by cases u<;>first | rfl | exact h.elim
theorem rE {v:V}{u:Value}(h:aM w ρ rt bq v u)(hp:(cells v).all eP=true):Cs w ρ rt (cells v) u.cells:=by
 obtain⟨g,rfl,hg⟩:=h
 by_cases ha:al v=true
 ·have:(fc v g).cells=cT (cells v).length g:=by simp[fc,ha,Value.cells]
  rw[this]
  refine⟨by simp[cT],fun k x y h1 h2=>?_⟩
  have hk:=(cd.1 h1).1
  rw[iI hk] at h2
  cases h2
  exact hg k x h1
 ·have hc:cells v=[v]:=by cases v<;>simp_all[cells,al]
  have hr:=hg 0 v (by simp[hc])
  have hpk:fc v g=g 0:=by simp[fc,ha]
  rw[hpk,(rD hr (by rw[hc] at hp;simpa using hp)).cells,hc]
  refine⟨by simp,fun k x y h1 h2=>?_⟩
  cases k with
  | zero=>simp at h1 h2;subst h1 h2;exact hr
  | succ k=>simp at h1
theorem HF {cs:List V}{arr:Array Value}(h:Cs w ρ rt cs arr):aM w ρ rt bq (.agg cs) (.agg arr):=by
 refine⟨fun k=>arr.getD k undef,Gy cs arr h.1,fun k x hx=>?_⟩
 have hk:k<arr.size:=by rw[←h.1];exact (cd.1 (show cs[k]?=some x from hx)).1
 have:=h.2 k x arr[k] hx (by simp[hk])
 simpa[Array.getD,hk,bq] using this
theorem DC (off:Nat):∀(vs:List Value) (j:Nat) (arr:Array Value),off+j+vs.length≤arr.size→
  let r:=(vs.zipIdx j).foldl (fun cs (x:Value×Nat)=>cs.setIfInBounds (off+x.2) x.1) arr
  r.size=arr.size∧∀k,r[k]?=if off+j≤k∧k<off+j+vs.length then vs[k - (off+j)]? else arr[k]?
 | [],j,arr,h=>by
  refine⟨rfl,fun k=>?_⟩
  simp only[List.zipIdx_nil,List.foldl_nil,List.length_nil,Nat.add_zero]
  rw[if_neg (by omega)]
 | v::vs,j,arr,h=>by
  have ih:=DC off vs (j+1) (arr.setIfInBounds (off+j) v) (by simp at h ⊢;omega)
  simp only[List.zipIdx_cons,List.foldl_cons]
  refine⟨by simpa using ih.1,fun k=>?_⟩
  rw[ih.2 k]
  simp only[List.length_cons] at h ⊢
  by_cases h1:off+(j+1)≤k∧k<off+(j+1)+vs.length
  ·rw[if_pos h1,if_pos (by omega)]
   rw[show k - (off+j)=(k - (off+(j+1)))+1 by omega]
   simp
  ·rw[if_neg h1]
   by_cases h2:k=off+j
   ·subst h2
    rw[if_pos (by omega)]
    simp[show off+j<arr.size by omega]
   ·rw[if_neg (by omega)]
    rw[Array.getElem?_setIfInBounds_ne (by omega)]
theorem sB {place:Nat→Option (Nat×Nat)}:∀{pv:List (Nat×V)} {pu:List (Nat×Value)} {cs cs':List V} {arr:Array Value},Cs w ρ rt cs arr→lL place cs pv=some cs'→pv.length=pu.length→
  (∀(k:Nat) p q,pv[k]?=some p→pu[k]?=some q→p.1=q.1∧aM w ρ rt bq p.2 q.2)→∃arr',Instr.fill place arr pu=some arr'∧Cs w ρ rt cs' arr'
 | [],[],cs,cs',arr,hc,h,_,_=>by simp[lL] at h;subst h;exact⟨arr,rfl,hc⟩
 | [],q::pu,cs,cs',arr,hc,h,hl,_=>by simp at hl
 | p::pv,[],cs,cs',arr,hc,h,hl,_=>by simp at hl
 | (i,v)::pv,(i',u)::pu,cs,cs',arr,hc,h,hl,hr=>by
  obtain⟨h1,h2⟩:=hr 0 _ _ rfl rfl
  simp only at h1 h2
  subst h1
  simp only[lL] at h
  split at h
  ·cases h
  ·rename_i off size hpl
   split at h
   ·rename_i hcond
    obtain⟨c1,c2,c3⟩:=hcond
    have hu:=rE h2 c3
    have hus:u.cells.size=size:=by rw[←hu.1];exact c1
    have hf:=DC off u.cells.toList 0 arr (by simp[hus,←hc.1];omega)
    have hfa:(u.cells.zipIdx.foldl (fun cs (x:Value×Nat)=>cs.setIfInBounds (off+x.2) x.1) arr)=(u.cells.toList.zipIdx 0).foldl (fun cs (x:Value×Nat)=>cs.setIfInBounds (off+x.2) x.1) arr:=by
     rw[←Array.foldl_toList];simp
    have hcs:Cs w ρ rt (cs.take off++cells v++cs.drop (off+size)) ((u.cells.toList.zipIdx 0).foldl (fun cs (x:Value×Nat)=>cs.setIfInBounds (off+x.2) x.1) arr):=by
     have hlen:=hc.1
     refine⟨by rw[hf.1];simp[←hlen,c1];omega,fun k x y hx hy=>?_⟩
     rw[hf.2 k] at hy
     simp only[Nat.add_zero,Array.length_toList,hus] at hy
     by_cases hk:off≤k∧k<off+size
     ·rw[if_pos hk] at hy
      rw[List.append_assoc,mY (by simp;omega),lm (by simp[c1];omega)] at hx
      refine hu.2 (k - off) x y ?_ (by simpa using hy)
      rw[←hx];congr 1;simp;omega
     ·rw[if_neg hk] at hy
      refine hc.2 k x y ?_ hy
      by_cases hk2:k<off
      ·rw[List.append_assoc,lm (by simp;omega),List.getElem?_take,if_pos hk2] at hx
       exact hx
      ·rw[mY (by simp[c1];omega),List.getElem?_drop] at hx
       rw[←hx];congr 1;simp[c1];omega
    obtain⟨arr',h3,h4⟩:=sB hcs h (by simpa using hl) (fun k p q hp hq=>hr (k+1) p q (by simpa using hp) (by simpa using hq))
    refine⟨arr',?_,h4⟩
    have hnot:¬(u.cells.size≠size∨off+u.cells.size>arr.size):=by rw[hus,←hc.1];omega
    simp only[Instr.fill,hpl]
    rw[if_neg (by simpa using hnot),hfa]
    exact h3
   ·cases h
theorem yp {α β:Type}{P:Program}{f:α→Sem β}(w:World):∀{l:List α} {r:List β},l.length=r.length→(∀(i:Nat) a b,l[i]?=some a→r[i]?=some b→(f a).run P w=.ok b w)→(l.mapM f).run P w=.ok r w
 | [],[],_,_=>by simp
 | [],_::_,h,_=>by simp at h
 | _::_,[],h,_=>by simp at h
 | a::l,b::r,hl,h=>by
  rw[List.mapM_cons]
  have h0:=h 0 a b rfl rfl
  have ih:=yp (P:=P) (f:=f) w (l:=l) (r:=r) (by simpa using hl) (fun i a b ha hb=>h (i+1) a b (by simpa using ha) (by simpa using hb))
  simp[h0,ih]
theorem BX {P:Program}{E:Env}(A:Agree P E):∀{fs:List Field} {ps:List (Nat×Nat)},vh E fs=some ps→fs.length=ps.length∧∀(i:Nat) f q,fs[i]?=some f→ps[i]?=some q→(do pure (f.offset,←sizeOf f.type):Sem (Nat×Nat)).run P w=.ok q w
 | [],ps,h=>by simp[vh] at h;subst h;simp
 | f::fs,ps,h=>by
  simp only[vh,aG,aI] at h
  obtain⟨ti,hti,r,hr,rfl⟩:=h
  have ih:=BX A hr
  refine⟨by simp[ih.1],fun i f' q h1 h2=>?_⟩
  cases i with
  | zero=>simp at h1 h2;subst h1 h2;simp[eR A hti]
  | succ i=>exact ih.2 i f' q (by simpa using h1) (by simpa using h2)
theorem qv {a:Act}{st:St}(T:ji w ρ st.rt st.tm a.tmps):∀{ps:List (Nat×Operand)} {pv:List (Nat×V)},fj st ps=some pv→pv.length=ps.length∧∀(k:Nat) p q,pv[k]?=some p→(ps.map fun x=>(x.1,a.eval x.2))[k]?=some q→p.1=q.1∧aM w ρ st.rt bq p.2 q.2
 | [],pv,h=>by simp[fj] at h;subst h;simp
 | (i,x)::ps,pv,h=>by
  simp only[fj,aG,aI] at h
  obtain⟨v,hv,r,hr,rfl⟩:=h
  have ih:=qv T hr
  refine⟨by simp[ih.1],fun k p q h1 h2=>?_⟩
  cases k with
  | zero=>simp at h1 h2;subst h1 h2;exact⟨rfl,cg T hv⟩
  | succ k=>exact ih.2 k p q (by simpa using h1) (by simpa using h2)
theorem vc {c:Value}{v:V}(h:jr c=some v):eP v=true:=by
 unfold jr at h
 split at h<;>cases h<;>rfl
theorem tf:∀{cs:List Value} {vs:List V},gw cs=some vs→vs.all eP=true
 | [],vs,h=>by simp[gw] at h;subst h;rfl
 | c::cs,vs,h=>by
  simp only[gw,aG,aI] at h
  obtain⟨x,hx,r,hr,rfl⟩:=h
  simp[vc hx]
  simpa using tf hr
theorem ie {c:Value}{v:V}(h:gU c=some v):(cells v).all eP=true:=by
 unfold gU at h
 split at h
 ·simp only[aI] at h
  obtain⟨vs,hvs,rfl⟩:=h
  exact tf hvs
 ·have:=vc h
  have h2:=(qB (w:=default) (ρ:=fun _=>none) (rt:=fun _=>none) h none).2
  cases v<;>simp_all[cells,al]
theorem Qc {P:Program}{E:Env}(A:Agree P E){st:St}{a:Act}{o:Oper}(T:ji w ρ st.rt st.tm a.tmps){t:TypeId}{ps:Array (Nat×Operand)}{pv:List (Nat×V)}{v:V}(ho:o.op=.build t ps)(hp:fj st ps.toList=some pv)(h:Bx E t pv=some v):eJ P a.eval o w ρ st.rt v:=by
 unfold Bx at h
 split at h
 ·rename_i ti hti
  simp only[aG] at h
  obtain⟨z,hz,h⟩:=h
  have hzr:=lh A hti w
  have hzs:=rE (iR (w:=w) (ρ:=ρ) (rt:=st.rt) hz bq) (ie hz)
  have hu:=A.und t ti hti
  obtain⟨hlen,hpr⟩:=qv T hp
  have hparts:(ps.map fun (x:Nat×Operand)=>(x.1,a.eval x.2)).toList=ps.toList.map fun x=>(x.1,a.eval x.2):=by simp
  split at h
  ·rename_i fs hd
   simp only[aG,aI] at h
   obtain⟨pl,hpl,cs,hcs,rfl⟩:=h
   obtain⟨arr,h1,h2⟩:=sB hzs hcs (pu:=ps.toList.map fun x=>(x.1,a.eval x.2)) (by simp[hlen]) hpr
   obtain⟨q1,q2⟩:=BX (w:=w) A hpl
   have hm:=yp (P:=P) (f:=fun (f:Field)=>(do pure (f.offset,←sizeOf f.type):Sem (Nat×Nat))) w q1 q2
   refine⟨.agg arr,?_,HF h2⟩
   have hm':(fs.mapM fun (f:Field)=>(do pure (f.offset,←sizeOf f.type):Sem (Nat×Nat))).run P w=.ok pl.toArray w:=by
    rw[Array.mapM_eq_mapM_toList]
    simp only[bind_pure_comp] at hm
    simp[hm]
   have hfun:(fun i:Nat=>pl.toArray[i]?)=fun i:Nat=>pl[i]?:=by funext i;simp
   simp only[execOp,ho,Instr.build,Sem.run_bind,hzr,Result.andThen,run_underlying hu,hd,hm',hparts,hfun,h1,Sem.run_pure]
  ·rename_i n e hd
   simp only[aG,aI] at h
   obtain⟨ei,hei,cs,hcs,rfl⟩:=h
   obtain⟨arr,h1,h2⟩:=sB hzs hcs (pu:=ps.toList.map fun x=>(x.1,a.eval x.2)) (by simp[hlen]) hpr
   refine⟨.agg arr,?_,HF h2⟩
   simp only[execOp,ho,Instr.build,Sem.run_bind,hzr,Result.andThen,run_underlying hu,hd,eR A hei,hparts,h1,Sem.run_pure]
  ·cases h
 ·cases h
theorem uT {P:Program}(f:Int→Int→Int)(f2:Value→Value→Sem Value)(k:IntKind)(hf:∀m n,(f2 (.int k m) (.int k n)).run P w=.ok (.int k (f m n)) w) :
  ∀{vs:List V} {us:List Value} {m n:Int},vs.length=us.length→(∀(i:Nat) x u,vs[i]?=some x→us[i]?=some u→aM w ρ rt bq x u)→
   BC f k m vs=some n→(us.foldlM f2 (.int k m)).run P w=.ok (.int k n) w
 | [],[],m,n,_,_,h=>by simp[BC] at h;subst h;simp
 | [],_::_,m,n,hl,_,h=>by simp at hl
 | _::_,[],m,n,hl,_,h=>by simp at hl
 | x::vs,u::us,m,n,hl,hr,h=>by
  have hx:=hr 0 x u rfl rfl
  unfold BC at h
  split at h
  ·rename_i heq;cases heq
  ·rename_i heq
   cases heq
   split at h
   ·rename_i hk
    subst hk
    have hu:=iw hx
    subst hu
    have h2:=uT f f2 k hf (vs:=vs) (us:=us) (by simpa using hl) (fun i x u hx hu=>hr (i+1) x u (by simpa using hx) (by simpa using hu)) h
    simp[List.foldlM_cons,hf,h2]
   ·cases h
  ·cases h
theorem Ga {P:Program}{st:St}{a:Act}{o:Oper}(T:ji w ρ st.rt st.tm a.tmps){b:Builtin}{f:Int→Int→Int}{xs:Array Operand}{ts:Array TypeId}{vs:List V}{v:V}(ho:o.op=.call { callee:=.builtin b,args:=xs,argTypes:=ts })(hb:(b=.min∧f=fun a b=>if b<a then b else a)∨(b=.max∧f=fun a b=>if b>a then b else a))(hx:gQ st xs.toList=some vs)(h:vR f vs=some v):eJ P a.eval o w ρ st.rt v:=by
 obtain⟨hl,hr⟩:=ro T hx
 unfold vR at h
 split at h
 ·rename_i k n vs
  have hxs:xs.toList≠[]:=by intro h0;simp[h0] at hl
  obtain⟨x0,xs',hxs'⟩:=List.exists_cons_of_ne_nil hxs
  rw[hxs'] at hr hl
  have h0:=iw (hr 0 _ _ rfl rfl)
  have hto:(xs.map a.eval).toList=.int k n::xs'.map a.eval:=by simp[hxs',h0]
  have hrr:∀(i:Nat) x u,vs[i]?=some x→(xs'.map a.eval)[i]?=some u→aM w ρ st.rt bq x u:=by
   intro i x u h1 h2
   simp only[List.getElem?_map,aI] at h2
   obtain⟨y,hy,rfl⟩:=h2
   exact hr (i+1) x y (by simpa using h1) (by simpa using hy)
  simp only[aI] at h
  obtain⟨m,hm,rfl⟩:=h
  rcases hb with⟨rfl,rfl⟩ | ⟨rfl,rfl⟩
  ·have h2:=uT (P:=P) (w:=w) (ρ:=ρ) (rt:=st.rt) _ Builtin.min2 k (fun m n=>by simp[Builtin.min2]) (us:=xs'.map a.eval) (by simp at hl ⊢;omega) hrr hm
   exact⟨.int k m,by simp only[execOp,ho,resolve,invoke,builtin,Builtin.min_,Sem.run_bind,Sem.run_pure,Result.andThen,hto,h2],kJ _ _⟩
  ·have h2:=uT (P:=P) (w:=w) (ρ:=ρ) (rt:=st.rt) _ Builtin.max2 k (fun m n=>by simp[Builtin.max2]) (us:=xs'.map a.eval) (by simp at hl ⊢;omega) hrr hm
   exact⟨.int k m,by simp only[execOp,ho,resolve,invoke,builtin,Builtin.max_,Sem.run_bind,Sem.run_pure,Result.andThen,hto,h2],kJ _ _⟩
 ·cases h
end
section
variable {w : World} {ρ : bg} {rt : ai}
theorem Oo {P:Program}{t:TypeId}{ds:TypeDesc}{v u:V}{b:Bool}{x y:Value}{L L':Option cS}(hu:P.underlying t=some ds)(hf:CU ds v=true)(he:vl v u=some b)(hx:RepV w ρ rt L v x)(hy:RepV w ρ rt L' u y)(d:Nat):P.plainKey t=true∧P.eqGuardType 1 t=false∧(Op.equalIn (d+1) t x y).run P w=.ok b w:=by
 unfold CU at hf
 split at hf<;>first | (cases hf;done) | skip
 ·cases u<;>simp only[vl,Option.some.injEq] at he<;>first | (cases he;done) | skip
  subst he
  cases hx;cases hy
  exact⟨by simp[Program.plainKey,hu],by simp[Program.eqGuardType,hu],by simp[Op.equalIn,run_underlying hu]⟩
 ·cases u<;>simp only[vl,Option.some.injEq] at he<;>first | (cases he;done) | skip
  split at he
  ·rename_i hk
   cases he
   subst hk
   cases hx;cases hy
   exact⟨by simp[Program.plainKey,hu],by simp[Program.eqGuardType,hu],by simp[Op.equalIn,run_underlying hu]⟩
  ·cases he
 ·cases u<;>simp only[vl,Option.some.injEq] at he<;>first | (cases he;done) | skip
  subst he
  cases hx;cases hy
  exact⟨by simp[Program.plainKey,hu],by simp[Program.eqGuardType,hu],by simp[Op.equalIn,run_underlying hu,beq_toListBytes,ByteArray.toList_eq]⟩
theorem F5 {P:Program}{E:Env}(A:Agree P E)(d:Nat):∀{fs:List Field} {n0 N N':Nat} {xs ys:List V} {g g':Nat→Value} {b:Bool},jP E.ty n0 fs xs ys=some b→(∀k x,xs[k]?=some x→RepV w ρ rt none x (g (n0+k)))→(∀k x,ys[k]?=some x→RepV w ρ rt none x (g' (n0+k)))→n0+xs.length≤N→n0+ys.length≤N'→
  (Op.eqFields (d + 1) (cT N g) (cT N' g') fs).run P w = .ok b w ∧ (fs.any fun f => f.name != "_" && P.eqGuardType 1 f.type) = false ∧ xs.length = fs.length ∧ ys.length = fs.length
 | [],n0,N,N',[],[],g,g',b,h,_,_,_,_=>by
  simp only[jP,Option.some.injEq] at h
  subst h
  simp[Op.eqFields]
 | f::fs,n0,N,N',v::vs,u::us,g,g',b,h,hx,hy,hN,hN'=>by
  simp only[jP] at h
  split at h
  ·rename_i ti hti
   split at h
   ·rename_i hc
    simp only[Bool.and_eq_true,beq_iff_eq,bne_iff_ne] at hc
    obtain⟨⟨ho,hname⟩,hfit⟩:=hc
    simp only[aG,aI] at h
    obtain⟨b1,h1,b2,h2,rfl⟩:=h
    simp only[List.length_cons] at hN hN'
    have hx0:=hx 0 v rfl
    have hy0:=hy 0 u rfl
    obtain⟨hk,hgd,hr⟩:=Oo (d:=d) (A.und _ _ hti) hfit h1 hx0 hy0
    obtain⟨r1,r2,r3,r4⟩:=F5 A d (g:=g) (g':=g') (N:=N) (N':=N') h2 (fun k x e=>by have:=hx (k+1) x (by simpa using e);rwa[show n0+(k+1)=n0+1+k by omega] at this)
     (fun k x e=>by have:=hy (k+1) x (by simpa using e);rwa[show n0+(k+1)=n0+1+k by omega] at this) (by omega) (by omega)
    refine⟨?_,?_,by simp[r3],by simp[r4]⟩
    ·have p1:(part f.type (cT N g) f.offset).run P w=.ok (g (n0+0)) w:=run_part_plain w hk (by rw[ho];simp[cT,show n0<N by omega])
     have p2:(part f.type (cT N' g') f.offset).run P w=.ok (g' (n0+0)) w:=run_part_plain w hk (by rw[ho];simp[cT,show n0<N' by omega])
     simp only[Op.eqFields,if_pos hname,Sem.run_bind,p1,p2,Result.andThen_ok,hr]
     cases b1
     ·simp
     ·simpa using r1
    ·simp only[List.any_cons,hgd,Bool.and_false,Bool.false_or]
     exact r2
   ·cases h
  ·cases h
 | [],_,_,_,_::_,_,_,_,_,h,_,_,_,_=>by simp[jP] at h
 | [],_,_,_,[],_::_,_,_,_,h,_,_,_,_=>by simp[jP] at h
 | _::_,_,_,_,[],_,_,_,_,h,_,_,_,_=>by simp[jP] at h
 | _::_,_,_,_,_::_,[],_,_,_,h,_,_,_,_=>by simp[jP] at h
theorem Jo {P:Program}{t:TypeId}{d:Nat}(h:P.eqGuardType 1 t=false):P.eqGuardType (d+1) t=false:=by
 simp only[Program.eqGuardType] at h ⊢
 split at h<;>simp_all
theorem Lq {P:Program}{E:Env}(A:Agree P E){t:TypeId}{ti:TI}{fs:Array Field}(ht:E.ty t=some ti)(hd:ti.desc=.struct fs)(hq:E.eqs.contains t=true){xs ys:List V}{b:Bool}(h:jP E.ty 0 fs.toList xs ys=some b){g g':Nat→Value}(hx:∀k x,xs[k]?=some x→RepV w ρ rt none x (g k))(hy:∀k x,ys[k]?=some x→RepV w ρ rt none x (g' k)) :
  (Op.equal t (.agg (cT xs.length g)) (.agg (cT ys.length g'))).run P w=.ok b w∧P.eqGuardType P.depth t=false:=by
 have hu:P.underlying t=some (.struct fs):=by rw[A.und _ _ ht,hd]
 have hff:P.fieldsOf t=fs:=by simp[Program.fieldsOf,hu]
 obtain⟨h1,h2,_,_⟩:=F5 (w:=w) (ρ:=ρ) (rt:=rt) A 9998 (n0:=0) (N:=xs.length) (N':=ys.length) (g:=g) (g':=g') h (fun k x e=>by simpa using hx k x e) (fun k x e=>by simpa using hy k x e) (by omega) (by omega)
 refine⟨?_,?_⟩
 ·have:=run_equalIn_struct w 9999 t (cT xs.length g) (cT ys.length g') (by rw[hff];exact hu) (A.eqs t hq)
  rw[hff] at this
  exact this.trans h1
 ·show P.eqGuardType (2*(P.types.size+Made.depth)+2) t=false
  simp only[Program.eqGuardType,hu]
  rw[←Array.any_toList]
  rw[List.any_eq_false] at h2 ⊢
  intro f hf
  have:=h2 f hf
  simp only[Bool.and_eq_true,not_and,Bool.not_eq_true] at this ⊢
  intro hn
  exact Jo (this hn)
end
section
variable {w : World} {ρ : bg} {rt : ai} {N : Nat→Nat→Prop}
theorem Bz:∀{es:List V} {bs:List UInt8},rl es=some bs→∃ns:List Int,es=ns.map (V.int .u8)∧bs=ns.map fun n=>UInt8.ofNat n.toNat
 | [],bs,h=>by simp[rl] at h;subst h;exact⟨[],rfl,rfl⟩
 | v::es,bs,h=>by
  unfold rl at h
  split at h
  ·rename_i h0;cases h0
  ·rename_i n vs h0
   cases h0
   simp only[aI] at h
   obtain⟨r,hr,rfl⟩:=h
   obtain⟨ns,rfl,rfl⟩:=Bz hr
   exact⟨n::ns,rfl,rfl⟩
  ·cases h
theorem BZ:∀(ns:List Int) (b:ByteArray),ns.foldl (fun r n=>r.push (UInt8.ofNat n.toNat)) b=⟨b.data++(ns.map fun n=>UInt8.ofNat n.toNat).toArray⟩
 | [],b=>by simp
 | n::ns,b=>by
  rw[List.foldl_cons,BZ ns]
  simp[ByteArray.push]
section
variable {P : Program} {E : Env} (A : Agree P E) {st : St} {a : Act} {o : Oper} (H : et w ρ st.rt) (J : eM ρ) (T : ji w ρ st.rt st.tm a.tmps)
include A H J T
theorem Hc {src dst:TypeId}{x:Operand}{e:TypeId}{xv:V}{es:List V}{bs:List UInt8}(ho:o.op=.convert src dst x)(hx:ev st x=some xv)(hs:E.desc src=some (.slice e))(hd:E.desc dst=some .string)(h8:N4 (E.desc e)=true)(hr:yB st.rt xv=some es)(hb:rl es=some bs):eJ P a.eval o w ρ st.rt (.str ⟨bs.toArray⟩):=by
 obtain⟨ns,rfl,rfl⟩:=Bz hb
 have hde:E.desc e=some (.int .u8):=by
  unfold N4 at h8
  split at h8
  ·rename_i h;exact h
  ·cases h8
 have hxa:al xv=false:=by cases xv<;>first | rfl | simp[yB] at hr
 have hxr:=aM.one hxa (cg T hx)
 have key:∀(A0:Option Addr) (c:Nat),a.eval x=.slice A0 ns.length c→(A0=none→ns=[])→(∀ad,A0=some ad→∀(j:Nat) n,ns[j]?=some n→w.cell? (ad.add j)=some (.int .u8 n))→eJ P a.eval o w ρ st.rt (.str ⟨(ns.map fun n=>UInt8.ofNat n.toNat).toArray⟩):=by
  intro A0 c h1 h2 h3
  refine⟨_,?_,BM _⟩
  simp only[execOp,ho,h1,convert,Sem.run_bind,run_underlying (A.desc hs),run_underlying (A.desc hd),Result.andThen,run_underlying (A.desc hde)]
  cases A0 with
  | none=>
   have:=h2 rfl
   subst this
   simp[Conv.bytesToString]
   rfl
  | some ad=>
   have hl:=run_loadCells_list (P:=P) w ad (ns.map (Value.int .u8)) (fun j v hv=>by
    simp only[List.getElem?_map,aI] at hv
    obtain⟨n,hn,rfl⟩:=hv
    exact h3 ad rfl j n hn)
   rw[List.length_map] at hl
   have:=run_bytesToString (P:=P) w ad ns.length c ns hl
   rw[this,BZ]
   simp
 cases xv<;>simp only[yB] at hr<;>first | (cases hr;done) | skip
 case isl nl es0=>
  cases hr
  generalize hev:a.eval x=u at hxr
  generalize hes:ns.map (V.int .u8)=es at hxr
  cases hxr with
  | isl0 _ _ A0 c hn=>
   have:ns=[]:=by simpa using hes
   subst this
   exact key A0 c hev (fun _=>rfl) (fun ad _ j n h=>by simp at h)
  | isl _ _ b off c s g hl h0 hρ hb' hs' hc h=>
   subst hes
   refine key _ c (by rw[hev,List.length_map]) (fun h=>by cases h) fun ad had j n hn=>?_
   cases had
   have hj:(ns.map (V.int .u8))[j]?=some (.int .u8 n):=by simp[hn]
   have hs1:s=1:=by have:=hs' j _ hj;simpa[cells] using this.symm
   subst hs1
   have h1:=hc j _ 0 _ hj rfl
   have h2:=h j _ 0 _ hj rfl
   generalize g j 0=z at h1 h2
   cases h2
   rw[Addr.add_lit]
   simpa using h1
 case hs o1 nv p s off len=>
  simp only[aG] at hr
  obtain⟨⟨s1,row⟩,hlk,hr⟩:=hr
  simp only at hr
  split at hr
  ·rename_i hc
   obtain⟨rfl,hfit⟩:=hc
   have hlive:b8 st.rt o1 nv p:=by simp[b8,hlk]
   have hlen:ns.length=len:=by
    have:=congrArg List.length (Option.some.inj hr)
    simp at this
    omega
   have hrow:=nu H hlk
   generalize hev:a.eval x=u at hxr
   cases hxr with
   | hs _ _ _ _ _ _ _ _ hh _=>
    obtain⟨c,A0,rfl,hlc,hcc⟩:=hh hlive
    by_cases hl0:len=0
    ·have:ns=[]:=List.length_eq_zero_iff.1 (by omega)
     subst this
     subst hl0
     exact key A0 c hev (fun _=>rfl) (fun ad _ j n h=>by simp at h)
    ·obtain⟨b,n,hb1,hbl,rfl,hle⟩:=hcc (by omega)
     refine key _ c (by rw[hev,hlen]) (fun h=>by cases h) fun ad had j n hn=>?_
     cases had
     have hj:row[off+j]?=some (.int .u8 n):=by
      have h1:(ns.map (V.int .u8))[j]?=some (.int .u8 n):=by simp[hn]
      rw[←Option.some.inj hr,List.getElem?_take] at h1
      split at h1
      ·rwa[List.getElem?_drop] at h1
      ·cases h1
     rcases hrow with h0 | ⟨b',arr,T',g,i1,i2,i3,i4,i5⟩
     ·rw[h0] at hj;simp at hj
     ·have:=J b b' _ hb1 i1
      subst this
      have hs1:s=1:=by have:=i3 _ _ hj;simpa[cells] using this.symm
      subst hs1
      have h1:=i4 _ _ 0 _ hj rfl
      have h2:=i5 _ _ 0 _ hj rfl
      generalize g (off+j) 0=z at h1 h2
      cases h2
      simp only[Nat.mul_one,Nat.add_zero] at h1
      rw[Addr.add_lit]
      simp[World.cell?,i2,h1]
  ·cases hr
end
end
section
variable {w : World} {ρ : bg} {rt : ai} {N : Nat→Nat→Prop}
theorem BT {c:Value}{v:V}(h:jr c=some v):nh v:=by
 unfold jr at h
 split at h<;>cases h<;>simp[nh,nhs]
theorem wJ:∀{cs:List Value} {vs:List V},gw cs=some vs→nhs vs
 | [],vs,h=>by simp[gw] at h;subst h;simp[nhs]
 | c::cs,vs,h=>by
  simp only[gw,aG,aI] at h
  obtain⟨x,hx,r,hr,rfl⟩:=h
  exact⟨BT hx,wJ hr⟩
theorem nB {c:Value}{v:V}(h:gU c=some v):nh v:=by
 unfold gU at h
 split at h
 ·simp only[aI] at h
  obtain⟨vs,hvs,rfl⟩:=h
  simpa[nh] using wJ hvs
 ·exact BT h
def wu (N:Nat→Nat→Prop)(tm:List V):Prop:=∀(i:Nat) v,tm[i]?=some v→an N v
def gE (rt:ai):Prop:=∀o r,rt o=some r→nhs r.es
theorem gf {st:St}(h:wu N st.tm){x:Operand}{v:V}(e:ev st x=some v):an N v:=by
 cases x with
 | tmp t=>exact h t v e
 | const c=>exact cz (nB (c:=c) e)
 | global g=>simp[ev] at e
 | func f=>simp[ev] at e;subst e;simp[an,cJ]
theorem F2 {st:St}(h:wu N st.tm):∀{xs:List Operand} {vs:List V},gQ st xs=some vs→cJ N vs
 | [],vs,e=>by simp[gQ] at e;subst e;simp[cJ]
 | x::xs,vs,e=>by
  simp only[gQ,aG,aI] at e
  obtain⟨v,hv,ys,hys,rfl⟩:=e
  exact⟨gf h hv,F2 h hys⟩
theorem iY:∀{p:List (Nat×Nat)} {s s':Nat} {es es':List V},nhs es→aU p s es=some (s',es')→nhs es'
 | [],s,s',es,es',h,e=>by simp[aU] at e;exact e.2▸h
 | (i,k)::p,s,s',es,es',h,e=>by
  simp only[aU] at e
  split at e
  ·cases e
  ·rename_i v hv
   have hvn:=cp h hv
   split at e
   ·rename_i s1 x hx
    have:=bC hvn hx
    exact iY (by simpa[nh] using this) e
   ·rename_i x hx
    have:=bC hvn hx
    exact iY (by simpa[nh,nhs] using this) e
   ·cases e
theorem CO (h:gE rt){o nv path s}{es:List V}(e:bD rt o nv path=some (s,es)):nhs es:=by
 unfold bD at e
 simp only[aG] at e
 obtain⟨r,hr,hrow⟩:=e
 exact iY (h o r (d8 hr).1) hrow
theorem QI {o nv:Nat}{path}{i k:Nat}{x:V}(ho:¬N o nv)(h:nh x):an N (GS o nv path i k x):=by
 cases x<;>simp only[GS]<;>first | (simp only[an];exact ho) | exact cz h
theorem HM (hr:gE rt)(hN:∀o r,rt o=some r→¬N o r.nv){p:V}{cs:List V}(hp:an N p)(h:jE rt p=some cs):cJ N cs:=by
 unfold jE at h
 split at h
 ·rename_i e k
  cases h
  have:nh e:=by simpa[an] using hp
  exact dJ.2 fun v hv=>cz (cZ.1 (sN this) v (List.mem_of_mem_drop hv))
 ·rename_i o nv path s i k
  simp only[aG] at h
  obtain⟨r,hr',x,hx,h⟩:=h
  split at h
  ·simp only[aI] at h
   obtain⟨e,he,rfl⟩:=h
   have hes:=iY (hr o r (d8 hr').1) hx
   have hen:=cp hes he
   refine dJ.2 fun v hv=>?_
   obtain⟨j,hj⟩:=List.mem_iff_getElem?.1 hv
   obtain⟨y,hy,rfl⟩:=qJ hj
   rw[List.getElem?_drop] at hy
   exact QI (hN o r (d8 hr').1) (bC hen hy)
  ·cases h
 ·cases h
theorem yq {a:Bool}{cs:List V}{v:V}(h:jH a cs=some v)(hn:cJ N cs):an N v:=by
 unfold jH at h
 split at h
 ·cases h;simpa[an] using hn
 ·split at h
  ·split at h<;>cases h
   exact hn.1
  ·cases h
theorem wa {vs:List V}{n:Nat}(h:cJ N vs):cJ N (vs.take n):=dJ.2 fun v hv=>dJ.1 h v (List.mem_of_mem_take hv)
theorem HJ {vs:List V}{n:Nat}(h:cJ N vs):cJ N (vs.drop n):=dJ.2 fun v hv=>dJ.1 h v (List.mem_of_mem_drop hv)
theorem pN {v:V}(h:cl v=true)(hn:an N v):nh v:=by
 unfold cl at h
 split at h<;>first | (simp[nh,nhs];done) | (simpa[nh,an] using hn) | cases h
theorem Md {v:V}(h:(cells v).all cl=true)(hn:an N v):nh v:=by
 by_cases ha:al v=true
 ·cases v<;>simp[al] at ha
  rename_i cs
  simp only[nh]
  refine cZ.2 fun x hx=>pN (List.all_eq_true.1 h x hx) (dJ.1 (by simpa[an] using hn) x hx)
 ·have hc:cells v=[v]:=by cases v<;>simp_all[cells,al]
  rw[hc] at h
  exact pN (by simpa using h) hn
theorem CJ {place:Nat→Option (Nat×Nat)}:∀{pv:List (Nat×V)} {cs cs':List V},cJ N cs→(∀p∈pv,an N p.2)→lL place cs pv=some cs'→cJ N cs'
 | [],cs,cs',h,_,e=>by simp[lL] at e;exact e▸h
 | (i,v)::pv,cs,cs',h,hp,e=>by
  simp only[lL] at e
  split at e
  ·cases e
  ·rename_i off size hpl
   split at e
   ·refine CJ ?_ (fun p hp'=>hp p (by simp[hp'])) e
    refine dJ.2 fun x hx=>?_
    simp only[List.mem_append] at hx
    rcases hx with (hx | hx) | hx
    ·exact dJ.1 (wa h) x hx
    ·exact dJ.1 (qA (hp (i,v) (by simp))) x hx
    ·exact dJ.1 (HJ h) x hx
   ·cases e
theorem oT {st:St}(h:wu N st.tm):∀{ps:List (Nat×Operand)} {pv:List (Nat×V)},fj st ps=some pv→∀p∈pv,an N p.2
 | [],pv,e=>by simp[fj] at e;subst e;simp
 | (i,x)::ps,pv,e=>by
  simp only[fj,aG,aI] at e
  obtain⟨v,hv,r,hr,rfl⟩:=e
  intro p hp
  simp only[List.mem_cons] at hp
  rcases hp with rfl | hp
  ·exact gf h hv
  ·exact oT h hr p hp
def rC:Op→Bool
 | .move _ | .assign _ | .pick .. | .build .. | .load .. | .nilCheck _ | .unOp .. | .convert .. | .makeInterface .. | .makeFunc .. | .slice .. | .fieldAddr .. | .field .. | .indexAddr .. | .index .. | .extract ..=>true
 | .binOp ..=>true
 | .call { callee:=.builtin b,.. }=>match b with
  | .len=>true
  | .min=>true
  | .max=>true
  | _=>false
 | _=>false
section
variable {P : Program} {E : Env} (A : Agree P E) {st : St} {a : Act} {o : Oper} (H : et w ρ st.rt) (J : eM ρ) (T : ji w ρ st.rt st.tm a.tmps) (hm : wu N st.tm) (hr : gE st.rt)
include A H J T hm hr
omit hm hr in
theorem Jc {op:BinOp}{t t':TypeId}{x y:Operand}{xs:List V}{n v:V}{lit:Bool}(ho:o.op=.binOp op t x y t')(hx:ev st x=some (.agg xs))(hy:ev st y=some n)(h:qs E op t (.agg xs) n lit=some v):eJ P a.eval o w ρ st.rt v∧nh v:=by
 have agg:∀{ys:List V} {b:Bool} {ti:TI} {fs:Array Field},n=.agg ys→E.ty t=some ti→ti.desc=.struct fs→E.eqs.contains t=true→jP E.ty 0 fs.toList xs ys=some b→((op=.eql∧v=.bool b)∨(op=.neq∧v=.bool !b))→eJ P a.eval o w ρ st.rt v∧nh v:=by
  intro ys b ti fs hn ht hd hq hf hv
  subst hn
  obtain⟨g,hxu,hxg⟩:=sW (cg T hx)
  obtain⟨g',hyu,hyg⟩:=sW (cg T hy)
  obtain⟨h1,h2⟩:=Lq A ht hd hq hf hxg hyg
  have hgd:(eqGuard op t x y (.agg (cT xs.length g)) (.agg (cT ys.length g'))).run P w=.ok () w:=run_eqGuard_agg w op t x y _ _ h2
  rcases hv with⟨rfl,rfl⟩ | ⟨rfl,rfl⟩
  ·exact⟨⟨.bool b,by simp[execOp,ho,hxu,hyu,hgd,binOp,h1],iG _⟩,by simp[nh]⟩
  ·exact⟨⟨.bool !b,by simp[execOp,ho,hxu,hyu,hgd,binOp,h1],iG _⟩,by simp[nh]⟩
 cases n<;>simp only[qs] at h
 case agg ys=>
  split at h
  ·rename_i fs hti
   split at h
   ·rename_i hc
    simp only[aI] at h
    obtain⟨b,hb,rfl⟩:=h
    exact agg rfl hti rfl hc hb (.inl ⟨rfl,rfl⟩)
   ·cases h
  ·rename_i fs hti
   split at h
   ·rename_i hc
    simp only[aI] at h
    obtain⟨b,hb,rfl⟩:=h
    exact agg rfl hti rfl hc hb (.inr ⟨rfl,rfl⟩)
   ·cases h
  ·cases h
 all_goals
  split at h
  ·split at h
   ·rename_i hc
    simp only[Bool.and_eq_true] at hc
    rename_i d _
    have:=hc.1
    cases d<;>simp[rA] at this
   ·cases h
  ·cases h
theorem NK {op:BinOp}{t t':TypeId}{x y:Operand}{m n v:V}(ho:o.op=.binOp op t x y t')(hx:ev st x=some m)(hy:ev st y=some n)(h:qs E op t m n (nJ x||nJ y)=some v)(hna:al m=false):eJ P a.eval o w ρ st.rt v∧nh v:=by
 unfold qs at h
 split at h
 ·rename_i k m k' n
  refine⟨NX A H J T ho hx hy h,?_⟩
  unfold uY at h
  split at h
  ·split at h<;>cases h;simp[nh]
  ·split at h<;>cases h;simp[nh]
  ·split at h
   ·unfold vU at h
    split at h<;>first | (cases h;simp[nh];done) | (split at h<;>cases h;simp[nh];done) | skip
    simp only[intBits] at h
    split at h<;>cases h<;>simp[nh]
   ·cases h
 ·refine⟨NY A H J T ho hx hy h,?_⟩
  unfold v8 at h
  split at h<;>first | (cases h;simp[nh];done) | (cases h;done) | (split at h<;>cases h;simp[nh];done)
 ·split at h
  ·cases h
   rename_i hd
   exact⟨DD A H J T ho hx hy hd (.inl ⟨rfl,rfl⟩),by simp[nh]⟩
  ·cases h
   rename_i hd
   exact⟨DD A H J T ho hx hy hd (.inr ⟨rfl,rfl⟩),by simp[nh]⟩
  ·cases h
 ·simp[al] at hna
 ·split at h
  ·rename_i d hd
   split at h
   ·rename_i hc
    simp only[Bool.and_eq_true,Bool.or_eq_true] at hc
    split at h
    ·simp only[aI] at h
     obtain⟨b,hb,rfl⟩:=h
     exact⟨F9 A H J T ho hx hy hd hc.1 hb (fun hi=>by rcases hc.2 with h2 | h2<;>first | simpa using h2 | simp[hi] at h2) (.inl ⟨rfl,rfl⟩),by simp[nh]⟩
    ·simp only[aI] at h
     obtain⟨b,hb,rfl⟩:=h
     exact⟨F9 A H J T ho hx hy hd hc.1 hb (fun hi=>by rcases hc.2 with h2 | h2<;>first | simpa using h2 | simp[hi] at h2) (.inr ⟨rfl,rfl⟩),by simp[nh]⟩
    ·cases h
   ·cases h
  ·cases h
theorem Mi {t:TypeId}{x v:V}{lo hi:Option V}(h:jS E st.rt t x lo hi=some v)(hx:an N x):an N v:=by
 unfold jS at h
 split at h
 ·simp only[aG] at h
  obtain⟨_,_,_,_,h⟩:=h
  split at h<;>cases h
  simp[an]
 ·simp only[aG] at h
  obtain⟨_,_,_,_,_,_,h⟩:=h
  split at h<;>cases h
  simp only[an] at hx ⊢
  exact cZ.2 fun v hv=>cZ.1 hx v (List.mem_of_mem_drop (List.mem_of_mem_take hv))
 ·split at h
  ·simp only[aG] at h
   obtain⟨_,_,_,_,h⟩:=h
   split at h<;>cases h
   simpa[an] using hx
  ·cases h
 ·cases h
theorem Jq {t:TypeId}{x v:V}{i:Int}(h:iE E t x i=some v)(hx:an N x):an N v:=by
 unfold iE at h
 split at h
 ·split at h
  ·simp only[aG] at h
   obtain⟨el,hel,h⟩:=h
   split at h<;>cases h
   simp only[an] at hx ⊢
   exact cp hx hel
  ·cases h
 ·split at h<;>cases h
  simpa[an] using hx
 ·simp only[aG] at h
  obtain⟨_,_,h⟩:=h
  split at h<;>cases h
  simpa[an] using hx
 ·simp only[aG] at h
  obtain⟨_,_,h⟩:=h
  split at h<;>cases h
  simpa[an] using hx
 ·cases h
theorem Ss (hN:∀o r,st.rt o=some r→¬N o r.nv){id:Nat}{v:V}{rt':ai}(hp:rC o.op=true)(h:aX E id st o.op=some (v,rt')):rt'=st.rt∧eJ P a.eval o w ρ st.rt v∧an N v:=by
 cases hop:o.op with
 | move x=>
  rw[hop] at h
  simp only[aX,aI] at h
  obtain⟨u,hu,h⟩:=h
  cases h
  exact⟨rfl,Sg A H J T hop hu,gf hm hu⟩
 | assign x=>
  rw[hop] at h
  simp only[aX,aI] at h
  obtain⟨u,hu,h⟩:=h
  cases h
  exact⟨rfl,NW A H J T hop hu,gf hm hu⟩
 | pick c x y=>
  rw[hop] at h
  simp only[aX,aG,aI] at h
  obtain⟨cv,hcv,u,hu,h⟩:=h
  cases h
  split at hu
  ·exact⟨rfl,LI A H J T (b:=true) hop hcv (by simpa using hu),gf hm hu⟩
  ·exact⟨rfl,LI A H J T (b:=false) hop hcv (by simpa using hu),gf hm hu⟩
  ·cases hu
 | build t ps=>
  rw[hop] at h
  simp only[aX,aG,aI] at h
  obtain⟨pv,hpv,u,hu,h⟩:=h
  cases h
  refine⟨rfl,Qc A T hop hpv hu,?_⟩
  unfold Bx at hu
  split at hu
  ·simp only[aG] at hu
   obtain⟨z,hz,hu⟩:=hu
   have hzn:cJ N (cells z):=qA (cz (nB hz))
   split at hu
   ·simp only[aG,aI] at hu
    obtain⟨_,_,cs,hcs,rfl⟩:=hu
    simpa[an] using CJ hzn (oT hm hpv) hcs
   ·simp only[aG,aI] at hu
    obtain⟨_,_,cs,hcs,rfl⟩:=hu
    simpa[an] using CJ hzn (oT hm hpv) hcs
   ·cases hu
  ·cases hu
 | load t p=>
  rw[hop] at h
  simp only[aX,aG] at h
  obtain⟨ti,hti,pv,hpv,cs,hcs,h⟩:=h
  split at h
  ·rename_i hc
   simp only[aI] at h
   obtain⟨u,hu,h⟩:=h
   cases h
   exact⟨rfl,Sf A H J T hop hti hpv hcs hc.2 hc.1 hu,yq hu (wa (HM hr hN (gf hm hpv) hcs))⟩
  ·cases h
 | nilCheck x=>
  rw[hop] at h
  simp only[aX,aG] at h
  obtain⟨u,hu,h⟩:=h
  split at h
  ·split at h<;>cases h
   rename_i hl
   exact⟨rfl,BE A H J T hop hu hl,gf hm hu⟩
  ·cases h
   exact⟨rfl,BE A H J T hop hu trivial,gf hm hu⟩
  ·cases h
 | unOp op t x=>
  rw[hop] at h
  simp only[aX,aG,aI] at h
  obtain⟨u,hu,v',hv,h⟩:=h
  cases h
  refine⟨rfl,Sh A H J T hop hu hv,?_⟩
  unfold Pf at hv
  split at hv
  ·split at hv<;>cases hv;simp[an]
  ·split at hv
   ·cases hv;simp[an]
   ·simp only[intBits] at hv;cases hv;simp[an]
   ·cases hv
  ·cases hv
 | convert s d x=>
  rw[hop] at h
  simp only[aX,aG,aI] at h
  obtain⟨u,hu,v',hv,h⟩:=h
  cases h
  unfold qc at hv
  split at hv
  ·rename_i hs hd
   cases hv
   exact⟨rfl,LF A H J T hop hu hs hd,by simp[an]⟩
  ·rename_i hs hd
   cases hv
   exact⟨rfl,LG A H J T hop hu hs hd,by simp[an]⟩
  ·rename_i e0 hs hd
   split at hv
   ·rename_i h8
    simp only[aG,aI] at hv
    obtain⟨es,hes,bs,hbs,rfl⟩:=hv
    exact⟨rfl,Hc A H J T hop hu hs hd h8 hes hbs,by simp[an]⟩
   ·cases hv
  ·cases hv
 | makeInterface t x=>
  rw[hop] at h
  simp only[aX,aG] at h
  obtain⟨u,hu,h⟩:=h
  split at h
  ·rename_i hpl
   split at h
   ·cases h
   ·rename_i d hd' hd
    cases h
    have hi:nr d=false:=by cases d<;>first | rfl | exact (hd' _ rfl).elim
    exact⟨rfl,BD A H J T hop hu hd hi,by simpa[an] using Md hpl (gf hm hu)⟩
   ·cases h
  ·cases h
 | makeFunc fn first caps=>
  rw[hop] at h
  cases fn<;>simp only[aX] at h<;>first | (cases h;done) | skip
  rename_i f
  split at h
  ·rename_i h0
   simp only[aG] at h
   obtain⟨vs,hvs,h⟩:=h
   split at h
   ·rename_i hall
    cases h
    exact⟨rfl,Jn A H J T hop h0 hvs (fun v hv=>by simpa using List.all_eq_true.1 hall v hv),by simpa[an] using F2 hm hvs⟩
   ·cases h
  ·cases h
 | slice t x lo hi mx=>
  rw[hop] at h
  cases mx with
  | some m=>simp[aX] at h
  | none=>
   simp only[aX,aG] at h
   obtain⟨xv,hx,l,hl,hh,hhh,h⟩:=h
   split at h
   ·rename_i hal
    simp only[aI] at h
    obtain⟨u,hu,h⟩:=h
    cases h
    exact⟨rfl,Qe A H J T hop hx hl hhh hal hu,Mi A H J T hm hr hu (gf hm hx)⟩
   ·cases h
 | fieldAddr s x f=>
  rw[hop] at h
  simp only[aX,aG] at h
  obtain⟨xv,hx,fl,hf,h⟩:=h
  split at h
  ·split at h<;>cases h
   rename_i hc
   exact⟨rfl,wD A H J T hop hx hf hc.1 ⟨rfl,rfl⟩,by simpa[an] using gf hm hx⟩
  ·split at h<;>cases h
   rename_i hc
   exact⟨rfl,wD A H J T hop hx hf hc.1 ⟨rfl,rfl,rfl,rfl,rfl,rfl,hc.2.2⟩,by simpa[an] using gf hm hx⟩
  ·cases h
 | field s x f=>
  rw[hop] at h
  simp only[aX,aG] at h
  obtain⟨xv,hx,fl,hf,h⟩:=h
  split at h
  ·split at h
   ·rename_i hc
    simp only[aI] at h
    obtain⟨u,hu,h⟩:=h
    cases h
    have hn:=gf hm hx
    exact⟨rfl,Qd A H J T hop hx hf rfl hc hu,yq hu (wa (HJ (by simpa[an] using hn)))⟩
   ·cases h
  ·cases h
 | indexAddr t x i=>
  rw[hop] at h
  simp only[aX,aG] at h
  obtain⟨xv,hx,iv,hi,h⟩:=h
  split at h
  ·split at h
   ·rename_i hal
    simp only[aI] at h
    obtain⟨u,hu,h⟩:=h
    cases h
    exact⟨rfl,Hd A H J T hop hx hi hal hu,Jq A H J T hm hr hu (gf hm hx)⟩
   ·cases h
  ·cases h
 | index t x i=>
  rw[hop] at h
  simp only[aX,aG] at h
  obtain⟨xv,hx,iv,hi,h⟩:=h
  split at h
  ·simp only[aI] at h
   obtain⟨u,hu,h⟩:=h
   cases h
   unfold Ge at hu
   split at hu
   ·rename_i hti
    split at hu
    ·rename_i h0
     simp only[aI] at hu
     obtain⟨c,hc,rfl⟩:=hu
     exact⟨rfl,Jm A H J T hop hx hi (by simp[Env.desc,hti]) h0 hc,by simp[an]⟩
    ·cases hu
   ·cases hu
  ·cases h
 | extract x i=>
  rw[hop] at h
  simp only[aX,aG] at h
  obtain⟨xv,hx,h⟩:=h
  split at h
  ·simp only[aI] at h
   obtain⟨u,hu,h⟩:=h
   cases h
   exact⟨rfl,LH A H J T hop hx hu,ga (by simpa[an] using gf hm hx) hu⟩
  ·cases h
 | binOp op t x y t'=>
  rw[hop] at h
  simp only[aX,aG,aI] at h
  obtain⟨xv,hx,yv,hy,u,hu,h⟩:=h
  cases h
  by_cases hna:al xv=true
  ·cases xv<;>first | (simp[al] at hna;done) | skip
   have:=Jc A H J T hop hx hy hu
   exact⟨rfl,this.1,cz this.2⟩
  ·have:=NK A H J T hm hr hop hx hy hu (by simpa using hna)
   exact⟨rfl,this.1,cz this.2⟩
 | call c=>
  obtain⟨cal,args,ts⟩:=c
  rw[hop] at h hp
  cases cal<;>simp only[rC] at hp<;>first | (cases hp;done) | skip
  rename_i b
  simp only[aX,lw,aG] at h
  obtain⟨vs,hvs,h⟩:=h
  cases b<;>first | (simp only[Bool.false_eq_true] at hp;done) | skip
  case len=>
   match vs,hvs,h with
   | [xv],hvs,h=>
    simp only[eU] at h
    split at h
    ·rename_i hal
     simp only[aG,aI] at h
     obtain⟨t,ht,u,hu,h⟩:=h
     cases h
     obtain⟨hl,_⟩:=ro T hvs
     obtain⟨x0,hx0⟩:∃x0,args=#[x0]:=by
      have:args.size=1:=by simpa using hl.symm
      exact⟨args[0],Array.ext (by simp[this]) (fun i h1 h2=>by
       have:i=0:=by simp at h2;exact h2
       subst this;rfl)⟩
     subst hx0
     simp only[gQ,aG,aI] at hvs
     obtain⟨x1,hx1,_,hq,hvs⟩:=hvs
     cases hq
     cases hvs
     refine⟨rfl,Tb A H J T hop ht hx1 hal hu,?_⟩
     unfold qy at hu
     split at hu<;>first | (split at hu<;>cases hu;simp[an];done) | cases hu
    ·cases h
   | [],_,h=>simp[eU] at h
   | _::_::_,_,h=>simp[eU] at h
  case min=>
   simp only[eU,aI] at h
   obtain⟨u,hu,h⟩:=h
   cases h
   refine⟨rfl,Ga T hop (.inl ⟨rfl,rfl⟩) hvs hu,?_⟩
   unfold vR at hu
   split at hu
   ·simp only[aI] at hu
    obtain⟨m,_,rfl⟩:=hu
    simp[an]
   ·cases hu
  case max=>
   simp only[eU,aI] at h
   obtain⟨u,hu,h⟩:=h
   cases h
   refine⟨rfl,Ga T hop (.inr ⟨rfl,rfl⟩) hvs hu,?_⟩
   unfold vR at hu
   split at hu
   ·simp only[aI] at hu
    obtain⟨m,_,rfl⟩:=hu
    simp[an]
   ·cases hu
 | _=>rw[hop] at hp;simp[rC] at hp
end
end
section
variable {w w' : World} {ρ ρ' : bg} {rt rt' : ai} {New : Nat→Nat→Prop}
theorem bw {v:V}(hv:al v=false):cells v=[v]:=by cases v<;>simp_all[cells,al]
theorem pR {e v:V}{k:Nat}(he:al e=false):cH e k v=v:=by cases e<;>simp_all[cH,al]
theorem gm {e v x:V}{k k':Nat}(hx:(cells e)[k]?=some x)(hv:al v=false):(cells (cH e k v))[k']?=if k'=k then some v else (cells e)[k']?:=by
 have hk:=(cd.1 hx).1
 by_cases he:al e=true
 ·cases e<;>simp[al] at he
  rename_i cs
  simp only[cH,cells] at hk ⊢
  by_cases h:k'=k
  ·subst h;simp[hk]
  ·rw[if_neg h,List.getElem?_set_ne (by omega)]
 ·have he':al e=false:=by simpa using he
  rw[bw he'] at hk ⊢
  have hk0:k=0:=by simpa using hk
  subst hk0
  rw[pR he',bw hv]
  cases k'<;>simp
theorem jl {e v:V}{k:Nat}(hk:k<(cells e).length)(hv:al v=false):(cells (cH e k v)).length=(cells e).length:=by
 by_cases he:al e=true
 ·cases e<;>simp[al] at he
  simp[cH,cells]
 ·have he':al e=false:=by simpa using he
  rw[pR he',bw hv,bw he']
  rfl
theorem oD {new:List V}:∀{p:List (Nat×Nat)} {s s1:Nat} {es es' old:List V},aU p s es=some (s1,old)→setRow new p es=some es'→new.length=old.length→es'.length=es.length
 | [],s,s1,es,es',old,h,e,hl=>by simp[aU] at h;simp[setRow] at e;rw[←e,hl,←h.2]
 | (i,k)::p,s,s1,es,es',old,h,e,hl=>by
  simp only[setRow] at e
  split at e
  ·cases e
  ·split at e
   ·simp only[aI] at e
    obtain⟨y,_,rfl⟩:=e
    simp
   ·simp only[aG] at e
    obtain⟨y,_,e⟩:=e
    split at e<;>cases e
    simp
   ·cases e
theorem RepV.under (K:Keep New w ρ rt w' ρ' rt'){o:Nat}{q:List (Nat×Nat)}(hU:∀b l,ρ b=some (o,l)→q <+: l→ρ' b=some (o,l)∧w'.heap[b]?=w.heap[b]?){v:V}{u:Value}(h:RepV w ρ rt (some (o,q)) v u)(hn:nh v):RepV w' ρ' rt' (some (o,q)) v u:=by
 have:=h.mono K id (fun l=>l.1=o∧q <+: l.2) (fun _ _ _ _=>rfl) (fun l i k hl=>⟨hl.1,hl.2.trans (by simp[cS.at])⟩) (fun b l hl hb=>by
  obtain⟨l1,l2⟩:=l
  obtain⟨rfl,hl2⟩:=hl
  exact hU b l2 hb hl2) (fun l hl=>by cases hl;exact⟨rfl,List.prefix_refl _⟩) (cz hn)
 simpa using this
theorem Me {q p0:List (Nat×Nat)}{x y:Nat×Nat}{l p:List (Nat×Nat)}(h1:p0++[x] <+: l)(hne:x≠y):¬p0++y::p <+: l:=by
 rintro⟨t,ht⟩
 obtain⟨t',ht'⟩:=h1
 rw[←ht'] at ht
 simp only[List.append_assoc,List.cons_append,List.append_cancel_left_eq,List.nil_append] at ht
 injection ht with h _
 exact hne h.symm
theorem oh (K:Keep New w ρ rt w' ρ' rt')(J':eM ρ'){o s1:Nat}{new old:List V}(hlen:new.length=old.length):∀{p p0:List (Nat×Nat)} {s:Nat} {es es':List V},bW w ρ rt (o,p0) s es→nhs es→
  aU p s es=some (s1,old)→setRow new p es=some es'→
  (∀b l,ρ b=some (o,l)→p0 <+: l→¬(p0++p) <+: l→ρ' b=some (o,l)∧w'.heap[b]?=w.heap[b]?)→
  (∀b arr T,ρ b=some (o,p0++p)→w.heap[b]?=some (.cells arr T (0,0))→ρ' b=some (o,p0++p)∧∃arr' T',w'.heap[b]?=some (.cells arr' T' (0,0))∧arr'.size=arr.size)→
  bW w' ρ' rt' (o,p0++p) s1 new→bW w' ρ' rt' (o,p0) s es'
 | [],p0,s,es,es',h,hn,hr,he,hU,hS,hR=>by
  simp[aU] at hr
  simp[setRow] at he
  obtain⟨rfl,rfl⟩:=hr
  subst he
  simpa using hR
 | (i,k)::p,p0,s,es,es',h,hn,hr,he,hU,hS,hR=>by
  simp only[aU] at hr
  simp only[setRow] at he
  cases hei:es[i]? with
  | none=>simp[hei] at he
  | some e=>
   simp only[hei] at he hr
   rcases h with rfl | ⟨b,arr,T,g,h1,h2,h3,h4,h5⟩
   ·simp at hei
   have hen:=cp hn hei
   have hb:=hU b p0 h1 (List.prefix_refl _) (by rintro⟨t,ht⟩;have:=congrArg List.length ht;simp at this)
   have hil:=(cd.1 hei).1
   -- the new element,and what it holds at the cell
   have main:∀(x v:V) ,(cells e)[k]?=some x→al v=false→RepV w' ρ' rt' (some (o,p0++[(i,k)])) v (g i k)→bW w' ρ' rt' (o,p0) s (es.set i (cH e k v)):=by
    intro x v hx hva hv
    refine .inr ⟨b,arr,T,g,hb.1,by rw[hb.2];exact h2,?_,?_,?_⟩
    ·intro i' e' he'
     by_cases hi:i'=i
     ·subst hi
      rw[List.getElem?_set_self hil] at he'
      cases he'
      rw[jl (cd.1 hx).1 hva]
      exact h3 _ _ hei
     ·rw[List.getElem?_set_ne (by omega)] at he'
      exact h3 _ _ he'
    ·intro i' e' k' y he' hy
     by_cases hi:i'=i
     ·subst hi
      rw[List.getElem?_set_self hil] at he'
      cases he'
      have hk':k'<(cells e).length:=by
       have:=(cd.1 hy).1
       rwa[jl (cd.1 hx).1 hva] at this
      exact h4 i' e k' _ hei (d5 hk')
     ·rw[List.getElem?_set_ne (by omega)] at he'
      exact h4 _ _ _ _ he' hy
    ·intro i' e' k' y he' hy
     have other:∀z,(i',k')≠(i,k)→RepV w ρ rt (some ((o,p0) |> fun l:cS=>l.at i' k')) z (g i' k')→nh z→RepV w' ρ' rt' (some (cS.at (o,p0) i' k')) z (g i' k'):=by
      intro z hne hz hzn
      refine RepV.under K (fun b l hb hl=>hU b l hb ((List.prefix_append _ _).trans hl) (Me (q:=p0) hl hne)) hz hzn
     by_cases hi:i'=i
     ·subst hi
      rw[List.getElem?_set_self hil] at he'
      cases he'
      rw[gm hx hva] at hy
      split at hy
      ·rename_i hk
       cases hy
       subst hk
       exact hv
      ·rename_i hk
       exact other y (by intro hq;cases hq;exact hk rfl) (h5 i' e k' y hei hy) (bC hen hy)
     ·rw[List.getElem?_set_ne (by omega)] at he'
      exact other y (by intro hq;cases hq;exact hi rfl) (h5 i' e' k' y he' hy) (bC (cp hn he') hy)
   have hassoc:p0++(i,k)::p=(p0++[(i,k)])++p:=by simp
   rw[hassoc] at hU hS hR
   have hU':∀b l,ρ b=some (o,l)→(p0++[(i,k)]) <+: l→¬((p0++[(i,k)])++p) <+: l→ρ' b=some (o,l)∧w'.heap[b]?=w.heap[b]?:=fun b l hb hl hl'=>hU b l hb ((List.prefix_append _ _).trans hl) hl'
   -- the block of the nested row
   have blk:∀b2 arr2 T2,ρ b2=some (o,p0++[(i,k)])→w.heap[b2]?=some (.cells arr2 T2 (0,0))→ρ' b2=some (o,p0++[(i,k)])∧∃arr' T',w'.heap[b2]?=some (.cells arr' T' (0,0))∧arr'.size=arr2.size:=by
    intro b2 arr2 T2 hb2 hh2
    by_cases hp:p=[]
    ·subst hp
     have:=hS b2 arr2 T2 (by simpa using hb2) hh2
     simpa using this
    ·have:=hU' b2 _ hb2 (List.prefix_refl _) (by rintro⟨t,ht⟩;have:=congrArg List.length ht;simp at this;exact hp this.1)
     exact⟨this.1,arr2,T2,by rw[this.2];exact hh2,rfl⟩
   cases hc:(cells e)[k]? with
   | none=>simp[hc] at hr
   | some x=>
    have hxn:=bC hen hc
    have hxr:=h5 i e k x hei hc
    cases x<;>simp only[hc] at hr he<;>first | (cases hr;done) | skip
    case uptr z=>
     simp only[aG] at he
     obtain⟨y,hy,he⟩:=he
     have hzn:nh z:=by simpa[nh] using hxn
     have ih:=oh K J' hlen (mM hxr) (by simpa[nhs] using hzn) hr hy hU' hS hR
     have hyl:=oD hr hy hlen
     split at he
     ·rename_i z'
      cases he
      refine main (.uptr z) (.uptr z') hc rfl ?_
      generalize hgu:g i k=gu at hxr ⊢
      cases hxr with
      | uptr _ _ b2 arr2 T2 g2 hρ2 hh2 hc2 hr2=>
       obtain⟨q1,arr',T',q2,q3⟩:=blk b2 arr2 T2 hρ2 hh2
       rcases ih with ih | ⟨b',arr'',T',g',i1,i2,i3,i4,i5⟩
       ·cases ih
       ·have hbb:=J' b2 b' _ q1 i1
        subst hbb
        exact .uptr _ _ b2 arr'' T' (g' 0) i1 i2 (fun k x hx=>by simpa using i4 0 z' k x rfl hx) (fun k x hx=>i5 0 z' k x rfl hx)
     ·cases he
    case usl s2 z=>
     simp only[aI] at he
     obtain⟨y,hy,rfl⟩:=he
     have hzn:nhs z:=by simpa[nh] using hxn
     have ih:=oh K J' hlen (ol hxr) hzn hr hy hU' hS hR
     have hyl:=oD hr hy hlen
     refine main (.usl s2 z) (.usl s2 y) hc rfl ?_
     generalize hgu:g i k=gu at hxr ⊢
     cases hxr with
     | usl0=>
      have:y=[]:=List.length_eq_zero_iff.1 (by simpa using hyl)
      subst this
      exact .usl0 _ _ _
     | usl _ _ _ b2 A2 c2 arr2 T2 g2 hρ2 hh2 hl2 hA2 hcap2 hs2 hc2 hr2=>
      obtain⟨q1,arr',T',q2,q3⟩:=blk b2 arr2 T2 hρ2 hh2
      rw[←hyl]
      rcases ih with ih | ⟨b',arr'',T'',g',i1,i2,i3,i4,i5⟩
      ·subst ih
       exact .usl _ s2 [] b2 A2 c2 arr' T' g2 q1 q2 (by simp) hA2 (by rw[q3];exact hcap2) (by simp) (by simp) (by simp)
      ·have hbb:=J' b2 b' _ q1 i1
       subst hbb
       rw[q2] at i2
       cases i2
       exact .usl _ s2 y b2 A2 c2 arr' T' g' q1 q2 (by rw[hyl];exact hl2) hA2 (by rw[q3];exact hcap2) i3 i4 i5
end
section
variable {w w' : World} {ρ ρ' : bg} {rt rt' : ai} {New : Nat→Nat→Prop}
theorem CR:∀{p:List (Nat×Nat)} {s s':Nat} {es:List V},(aU p s es).isSome=(aU p s' es).isSome
 | [],s,s',es=>by simp[aU]
 | (i,k)::p,s,s',es=>by simp[aU]
theorem vk:∀{p t:List (Nat×Nat)} {s s1:Nat} {es es1:List V},aU p s es=some (s1,es1)→aU (p++t) s es=aU t s1 es1
 | [],t,s,s1,es,es1,h=>by simp[aU] at h;simp[h.1,h.2]
 | (i,k)::p,t,s,s1,es,es1,h=>by
  simp only[aU,List.cons_append] at h ⊢
  cases hei:es[i]? with
  | none=>simp[hei] at h
  | some v=>
   simp only[hei] at h ⊢
   cases hc:(cells v)[k]? with
   | none=>simp[hc] at h
   | some x=>cases x<;>simp only[hc] at h ⊢<;>first | (cases h;done) | exact vk h
theorem jK {new:List V}:∀{q t:List (Nat×Nat)} {s sy:Nat} {es es' old:List V},aU q s es=some (sy,old)→setRow new q es=some es'→(aU (q++t) s es').isSome=(aU t sy new).isSome
 | [],t,s,sy,es,es',old,h,e=>by simp[aU] at h;simp[setRow] at e;subst e;simp[CR (s:=s) (s':=sy)]
 | (i,k)::q,t,s,sy,es,es',old,h,e=>by
  simp only[aU] at h
  simp only[setRow] at e
  cases hei:es[i]? with
  | none=>simp[hei] at e
  | some v=>
   simp only[hei] at e h
   have hil:=(cd.1 hei).1
   cases hc:(cells v)[k]? with
   | none=>simp[hc] at h
   | some x=>
    cases x<;>simp only[hc] at h e<;>first | (cases h;done) | skip
    case uptr z=>
     simp only[aG] at e
     obtain⟨y,hy,e⟩:=e
     split at e
     ·rename_i z'
      cases e
      simp only[aU,List.cons_append,List.getElem?_set_self hil,gm (v:=.uptr z') hc rfl,if_true]
      rw[CR (s':=(cells z).length)]
      exact jK h hy
     ·cases e
    case usl s2 z=>
     simp only[aI] at e
     obtain⟨y,hy,rfl⟩:=e
     simp only[aU,List.cons_append,List.getElem?_set_self hil,gm (v:=.usl s2 y) hc rfl,if_true]
     exact jK h hy
theorem sJ {new:List V}{sy:Nat}{old:List V}(hnew:∀t,(aU t sy new).isSome=true→(aU t sy old).isSome=true):∀{q p:List (Nat×Nat)} {s:Nat} {es es':List V},aU q s es=some (sy,old)→setRow new q es=some es'→(aU p s es').isSome=true→(aU p s es).isSome=true
 | [],p,s,es,es',h,e,hl=>by
  simp[aU] at h
  simp[setRow] at e
  obtain⟨rfl,rfl⟩:=h
  subst e
  exact hnew p hl
 | (i,k)::q,[],s,es,es',h,e,hl=>by simp[aU]
 | (i,k)::q,(i',k')::p,s,es,es',h,e,hl=>by
  simp only[aU] at h hl ⊢
  simp only[setRow] at e
  cases hei:es[i]? with
  | none=>simp[hei] at e
  | some v=>
   simp only[hei] at e h
   have hil:=(cd.1 hei).1
   cases hc:(cells v)[k]? with
   | none=>simp[hc] at h
   | some x=>
    have go:∀(x':V),al x'=false→(x' matches .usl _ _)=(x' matches .usl _ _)→True:=fun _ _ _=>trivial
    cases x<;>simp only[hc] at h e<;>first | (cases h;done) | skip
    case uptr z=>
     simp only[aG] at e
     obtain⟨y,hy,e⟩:=e
     split at e
     ·rename_i z'
      cases e
      by_cases hi:i'=i
      ·subst hi
       simp only[List.getElem?_set_self hil,gm (v:=.uptr z') hc rfl] at hl
       simp only[hei]
       by_cases hk:k'=k
       ·subst hk
        simp only[if_true] at hl
        simp only[hc]
        rw[CR (s':=(cells z).length)] at hl
        exact sJ hnew h hy hl
       ·simp only[hk,if_false] at hl
        exact hl
      ·rw[List.getElem?_set_ne (by omega)] at hl
       exact hl
     ·cases e
    case usl s2 z=>
     simp only[aI] at e
     obtain⟨y,hy,rfl⟩:=e
     by_cases hi:i'=i
     ·subst hi
      simp only[List.getElem?_set_self hil,gm (v:=.usl s2 y) hc rfl] at hl
      simp only[hei]
      by_cases hk:k'=k
      ·subst hk
       simp only[if_true] at hl
       simp only[hc]
       exact sJ hnew h hy hl
      ·simp only[hk,if_false] at hl
       exact hl
     ·rw[List.getElem?_set_ne (by omega)] at hl
      exact hl
def eB (ρ:bg)(o:Nat)(path:List (Nat×Nat))(q:Nat)(dst:List (Nat×Nat)):bg:=fun b=>
 match ρ b with
 | some (o',l)=>if o'=o∧path <+: l then some (q,dst++l.drop path.length) else some (o',l)
 | none=>none
theorem mI {o path q dst b}:eB ρ o path q dst b=none↔ρ b=none:=by
 unfold eB
 cases ρ b with
 | none=>simp
 | some l=>simp;split<;>simp
theorem dN {o path q dst b o' l}(h:ρ b=some (o',l))(hn:¬(o'=o∧path <+: l)):eB ρ o path q dst b=some (o',l):=by
 unfold eB
 rw[h]
 exact if_neg hn
theorem jQ {o path q dst b l}(h:ρ b=some (o,path++l)):eB ρ o path q dst b=some (q,dst++l):=by
 unfold eB
 rw[h]
 simp
theorem fT {o path q dst b o' l}(h:eB ρ o path q dst b=some (o',l)):(ρ b=some (o',l)∧¬(o'=o∧path <+: l))∨(o'=q∧∃t,l=dst++t∧ρ b=some (o,path++t)):=by
 unfold eB at h
 cases hb:ρ b with
 | none=>simp[hb] at h
 | some x=>
  obtain⟨o1,l1⟩:=x
  simp only[hb] at h
  split at h
  ·rename_i hc
   obtain⟨rfl,t,rfl⟩:=hc
   cases h
   exact .inr ⟨rfl,t,by simp,rfl⟩
  ·rename_i hc
   cases h
   exact .inl ⟨rfl,hc⟩
theorem qz (J:eM ρ){o path q dst}(hq:∀b l,ρ b≠some (q,dst++l)):eM (eB ρ o path q dst):=by
 intro b b' ⟨o',l⟩ h h'
 rcases fT h with⟨h1,_⟩ | ⟨rfl,t,rfl,h1⟩<;>rcases fT h' with⟨h2,_⟩ | ⟨e,t',e',h2⟩
 ·exact J _ _ _ h1 h2
 ·subst e;subst e';exact absurd h1 (hq _ _)
 ·exact absurd h2 (hq _ _)
 ·rw[List.append_cancel_left_eq] at e'
  subst e'
  exact J _ _ _ h1 h2
end
section
variable {w w' : World} {ρ ρ' : bg} {rt rt' : ai} {New : Nat→Nat→Prop}
theorem bW.under (K:Keep New w ρ rt w' ρ' rt'){o:Nat}{q:List (Nat×Nat)}(hU:∀b l,ρ b=some (o,l)→q <+: l→ρ' b=some (o,l)∧w'.heap[b]?=w.heap[b]?){s:Nat}{es:List V}(h:bW w ρ rt (o,q) s es)(hn:nhs es):bW w' ρ' rt' (o,q) s es:=by
 rcases h with h | ⟨b,arr,T,g,h1,h2,h3,h4,h5⟩
 ·exact .inl h
 ·have hb:=hU b q h1 (List.prefix_refl _)
  exact .inr ⟨b,arr,T,g,hb.1,by rw[hb.2];exact h2,h3,h4,fun i e k x he hx=>RepV.under K (fun b l hl hp=>hU b l hl ((List.prefix_append _ _).trans hp)) (h5 i e k x he hx) (bC (cp hn he) hx)⟩
theorem bW.move (K:Keep New w ρ rt w' ρ' rt'){o q:Nat}{path dst:List (Nat×Nat)}(hU:∀b l,ρ b=some (o,path++l)→ρ' b=some (q,dst++l)∧w'.heap[b]?=w.heap[b]?){s:Nat}{es:List V}(h:bW w ρ rt (o,path) s es)(hn:nhs es):bW w' ρ' rt' (q,dst) s es:=by
 rcases h with h | ⟨b,arr,T,g,h1,h2,h3,h4,h5⟩
 ·exact .inl h
 ·have hb:=hU b [] (by simpa using h1)
  refine .inr ⟨b,arr,T,g,by simpa using hb.1,by rw[hb.2];exact h2,h3,h4,fun i e k x he hx=>?_⟩
  have:=(h5 i e k x he hx).mono K (fun l=>(q,dst++l.2.drop path.length)) (fun l=>l.1=o∧path <+: l.2)
   (fun l i k hl=>by
    obtain⟨_,t,ht⟩:=hl
    simp[cS.at,←ht])
   (fun l i k hl=>⟨hl.1,hl.2.trans (by simp[cS.at])⟩)
   (fun b l hl hb=>by
    obtain⟨l1,l2⟩:=l
    obtain⟨rfl,t,rfl⟩:=hl
    have:=hU b t hb
    simpa using this)
   (fun l hl=>by cases hl;exact⟨rfl,by simp[cS.at]⟩) (cz (bC (cp hn he) hx))
  simpa[cS.at] using this
theorem D9 (K:Keep New w ρ rt w' ρ' rt'){o:Nat}{p0:List (Nat×Nat)}{s:Nat}{es:List V}{i k:Nat}{e x v:V}(h:bW w ρ rt (o,p0) s es)(hn:nhs es)(hei:es[i]?=some e)(hx:(cells e)[k]?=some x)(hva:al v=false)(hU:∀b l,ρ b=some (o,l)→p0 <+: l→l≠p0→¬(p0++[(i,k)]) <+: l→ρ' b=some (o,l)∧w'.heap[b]?=w.heap[b]?)(hB:∀b arr T,ρ b=some (o,p0)→w.heap[b]?=some (.cells arr T (0,0))→∃arr' u,ρ' b=some (o,p0)∧w'.heap[b]?=some (.cells arr' T (0,0))∧(∀j,j≠i*s+k→arr'[j]?=arr[j]?)∧arr'[i*s+k]?=some u∧
   (∀y,arr[i*s+k]?=some y→RepV w ρ rt (some (o,p0++[(i,k)])) x y→RepV w' ρ' rt' (some (o,p0++[(i,k)])) v u)) :
  bW w' ρ' rt' (o,p0) s (es.set i (cH e k v)):=by
 rcases h with rfl | ⟨b,arr,T,g,h1,h2,h3,h4,h5⟩
 ·simp at hei
 have hen:=cp hn hei
 obtain⟨arr',u,b1,b2,b3,b4,b5⟩:=hB b arr T h1 h2
 have hil:=(cd.1 hei).1
 have hkl:=(cd.1 hx).1
 have hs:=h3 i e hei
 have hne:∀(i' k':Nat) (e':V),es[i']?=some e'→k'<(cells e').length→(i',k')≠(i,k)→i'*s+k'≠i*s+k:=by
  intro i' k' e' he' hk' hne hq
  have hk2:k'<s:=by rw[←h3 i' e' he'];exact hk'
  have hk1:k<s:=by rw[←hs];exact hkl
  have e1:(i'*s+k') / s=i':=by rw[Nat.mul_comm,Nat.mul_add_div (by omega)];simp[Nat.div_eq_of_lt hk2]
  have e2:(i*s+k) / s=i:=by rw[Nat.mul_comm,Nat.mul_add_div (by omega)];simp[Nat.div_eq_of_lt hk1]
  have:i'=i:=by rw[←e1,←e2,hq]
  subst this
  exact hne (by congr 1;omega)
 have g':∀(i':Nat) (e':V) k' y,(es.set i (cH e k v))[i']?=some e'→(cells e')[k']?=some y→∃z,arr'[i'*s+k']?=some z∧RepV w' ρ' rt' (some (cS.at (o,p0) i' k')) y z:=by
  intro i' e' k' y he' hy
  have other:∀(e'':V),es[i']?=some e''→(cells e'')[k']?=some y→(i',k')≠(i,k)→∃z,arr'[i'*s+k']?=some z∧RepV w' ρ' rt' (some (cS.at (o,p0) i' k')) y z:=by
   intro e'' he'' hy'' hnn
   have hk'':=(cd.1 hy'').1
   refine⟨g i' k',by rw[b3 _ (hne i' k' e'' he'' hk'' hnn)];exact h4 i' e'' k' y he'' hy'',?_⟩
   refine RepV.under K (fun b l hb hl=>hU b l hb ((List.prefix_append _ _).trans hl) ?_ (Me (q:=[]) (p:=[]) hl hnn)) (h5 i' e'' k' y he'' hy'') (bC (cp hn he'') hy'')
   rintro rfl
   obtain⟨t,ht⟩:=hl
   have:=congrArg List.length ht
   simp at this
  by_cases hi:i'=i
  ·subst hi
   rw[List.getElem?_set_self hil] at he'
   cases he'
   rw[gm hx hva] at hy
   split at hy
   ·rename_i hk
    cases hy
    subst hk
    exact⟨u,b4,b5 _ (h4 _ _ _ _ hei hx) (h5 _ _ _ _ hei hx)⟩
   ·rename_i hk
    exact other e hei hy (by intro hq;cases hq;exact hk rfl)
  ·rw[List.getElem?_set_ne (by omega)] at he'
   exact other e' he' hy (by intro hq;cases hq;exact hi rfl)
 refine .inr ⟨b,arr',T,fun i' k'=>arr'.getD (i'*s+k') undef,b1,b2,?_,?_,?_⟩
 ·intro i' e' he'
  by_cases hi:i'=i
  ·subst hi
   rw[List.getElem?_set_self hil] at he'
   cases he'
   rw[jl hkl hva]
   exact hs
  ·rw[List.getElem?_set_ne (by omega)] at he'
   exact h3 _ _ he'
 ·intro i' e' k' y he' hy
  obtain⟨z,hz,_⟩:=g' i' e' k' y he' hy
  have hlt:=(pW.1 hz).1
  simp[Array.getD,hlt]
 ·intro i' e' k' y he' hy
  obtain⟨z,hz,hr⟩:=g' i' e' k' y he' hy
  obtain⟨hlt,hz'⟩:=pW.1 hz
  simpa[Array.getD,hlt,hz'] using hr
theorem qF {e v:V}{k:Nat}(he:nh e)(hv:nh v):nh (cH e k v):=by
 by_cases ha:al e=true
 ·cases e<;>simp[al] at ha
  rename_i cs
  simp only[cH,nh] at he ⊢
  refine cZ.2 fun x hx=>?_
  rcases List.mem_or_eq_of_mem_set hx with h | h
  ·exact cZ.1 he x h
  ·exact h▸hv
 ·rw[pR (by simpa using ha)];exact hv
theorem B7 {es:List V}{i:Nat}{v:V}(he:nhs es)(hv:nh v):nhs (es.set i v):=cZ.2 fun x hx=>by
 rcases List.mem_or_eq_of_mem_set hx with h | h
 ·exact cZ.1 he x h
 ·exact h▸hv
theorem ml {new:List V}(hnew:nhs new):∀{p:List (Nat×Nat)} {es es':List V},nhs es→setRow new p es=some es'→nhs es'
 | [],es,es',h,e=>by simp[setRow] at e;exact e▸hnew
 | (i,k)::p,es,es',h,e=>by
  simp only[setRow] at e
  split at e
  ·cases e
  ·rename_i v hv
   have hvn:=cp h hv
   split at e
   ·rename_i s x hx
    simp only[aI] at e
    obtain⟨y,hy,rfl⟩:=e
    have hxn:=bC hvn hx
    exact B7 h (qF hvn (by simp only[nh] at hxn ⊢;exact ml hnew hxn hy))
   ·rename_i x hx
    simp only[aG] at e
    obtain⟨y,hy,e⟩:=e
    split at e<;>cases e
    have hxn:=bC hvn hx
    have:=ml hnew (by simpa[nhs,nh] using hxn) hy
    exact B7 h (qF hvn (by simpa[nh,nhs] using this))
   ·cases e
structure Taken (New:Nat→Nat→Prop) (w:World) (ρ:bg) (rt:ai) (ρ':bg) (rt':ai) (o q:Nat) (dst:List (Nat×Nat)) (s:Nat) (es:List V):Prop where
 rok:et w ρ' rt'
 inj:eM ρ'
 rtn:gE rt'
 row:bW w ρ' rt' (q,dst) s es
 keep:Keep New w ρ rt w ρ' rt'
 cell:∀q' d v u,q'≠o→RepV w ρ rt (some (q',d)) v u→nh v→RepV w ρ' rt' (some (q',d)) v u
 lab:∀b o' l,ρ' b=some (o',l)→(o'=q∧dst <+: l)∨(ρ b=some (o',l)∧(o'=o→∃r,rt' o=some r))
 low:∀x,rt x=none→rt' x=none
 oth:∀x,x≠o→rt' x=rt x
theorem Cc (H:et w ρ rt)(J:eM ρ)(hr:gE rt){o nv q:Nat}{path dst:List (Nat×Nat)}{r:Root}{s:Nat}{es:List V}(hv:bA rt o nv path=some r)(hrow:aU path r.s r.es=some (s,es))(hq:∀b l,ρ b≠some (q,dst++l))(hz:rt 0=none)(h:eD rt o r path=some rt'):Taken New w ρ rt (eB ρ o path q dst) rt' o q dst s es:=by
 obtain⟨hro,hvv⟩:=d8 hv
 have ho0:0≠o:=by rintro rfl;rw[hz] at hro;cases hro
 have hR:=jL (p0:=[]) (H o r hro) hrow
 simp only[List.nil_append] at hR
 have hesn:nhs es:=iY (hr o r hro) hrow
 unfold eD at h
 rcases List.eq_nil_or_concat path with rfl | ⟨q0,ik,rfl⟩
 ·simp only[List.reverse_nil] at h
  cases h
  have K:Keep New w ρ rt w (eB ρ o [] q dst) (upd rt o none):=⟨fun b hb _=>⟨mI.2 hb,rfl⟩,fun o' nv' p' _ hl=>by
   have hne:o'≠o:=by
    rintro rfl
    simp[b8,bD,bA,upd] at hl
   refine⟨by simpa[b8,bD,bA,upd,hne] using hl,fun b n hb hn=>⟨dN hb (by simp[hne]),hn⟩⟩,fun b l hb=>⟨dN hb (by simp[ho0]),rfl⟩⟩
  refine⟨?_,qz J hq,?_,?_,K,?_,?_,?_,?_⟩
  ·intro o' r' h'
   by_cases hne:o'=o
   ·simp[upd,hne] at h'
   ·simp only[upd,hne,if_false] at h'
    exact bW.under K (fun b l hb _=>⟨dN hb (by simp[hne]),rfl⟩) (H o' r' h') (hr o' r' h')
  ·intro o' r' h'
   by_cases hne:o'=o
   ·simp[upd,hne] at h'
   ·simp only[upd,hne,if_false] at h'
    exact hr o' r' h'
  ·exact bW.move K (fun b l hb=>⟨by simpa using jQ (path:=[]) hb,rfl⟩) hR hesn
  ·intro q' d v u hne hrow' hn'
   exact RepV.under K (fun b l hb _=>⟨dN hb (by simp[hne]),rfl⟩) hrow' hn'
  ·intro b o' l hb
   rcases fT hb with⟨h1,h2⟩ | ⟨rfl,t,rfl,h1⟩
   ·exact .inr ⟨h1,fun he=>absurd ⟨he,List.nil_prefix⟩ h2⟩
   ·exact .inl ⟨rfl,by simp⟩
  ·intro x hx
   simp only[upd]
   split<;>simp_all
  ·intro x hx
   simp[upd,hx]
 ·obtain⟨i,k⟩:=ik
  rw[List.concat_eq_append] at *
  simp only[List.reverse_append,List.reverse_cons,List.reverse_nil,List.nil_append,List.singleton_append,List.reverse_reverse,aG,aI] at h
  obtain⟨⟨sy,y⟩,hy,e,he,es',hes',rfl⟩:=h
  simp only at he hes'
  have hyn:nhs y:=iY (hr o r hro) hy
  have hen:=cp hyn he
  have hcell:∃x,(cells e)[k]?=some x:=by
   have h1:=vk (t:=[(i,k)]) hy
   rw[hrow] at h1
   simp only[aU,he] at h1
   cases hc:(cells e)[k]? with
   | none=>simp[hc] at h1
   | some x=>exact⟨x,rfl⟩
  obtain⟨x,hx⟩:=hcell
  have hil:=(cd.1 he).1
  have hnewlive:∀t,(aU t sy (y.set i (cH e k .dead))).isSome=true→(aU t sy y).isSome=true∧¬[(i,k)] <+: t:=by
   intro t ht
   match t,ht with
   | [],_=>exact⟨by simp[aU],by rintro⟨t,ht⟩;simp at ht⟩
   | (i',k')::t',ht=>
    simp only[aU] at ht ⊢
    by_cases hi:i'=i
    ·subst hi
     simp only[List.getElem?_set_self hil,gm hx (v:=.dead) rfl] at ht
     by_cases hk:k'=k
     ·subst hk
      simp at ht
     ·simp only[hk,if_false] at ht
      refine⟨by simpa[he] using ht,?_⟩
      rintro⟨t,ht⟩
      simp at ht
      exact hk ht.1.symm
    ·rw[List.getElem?_set_ne (by omega)] at ht
     refine⟨ht,?_⟩
     rintro⟨t,ht⟩
     simp at ht
     exact hi ht.1.1.symm
  have K:Keep New w ρ rt w (eB ρ o (q0++[(i,k)]) q dst) (upd rt o (some { r with es:=es' })):=⟨fun b hb _=>⟨mI.2 hb,rfl⟩,fun o' nv' p' _ hl=>by
   by_cases hne:o'=o
   ·subst hne
    have hl':(p'=[]∨r.nv=nv')∧(aU p' r.s es').isSome=true:=by
     unfold b8 bD at hl
     cases hvv':bA (upd rt o' (some { r with es:=es' })) o' nv' p' with
     | none=>simp[hvv'] at hl
     | some r2=>
      obtain⟨h1,h2⟩:=d8 hvv'
      simp[upd] at h1
      subst h1
      simp only[hvv',cm] at hl
      exact⟨h2,hl⟩
    have h1:=sJ (fun t ht=>(hnewlive t ht).1) hy hes' hl'.2
    have h2:¬(q0++[(i,k)]) <+: p':=by
     rintro⟨t,rfl⟩
     have:=hl'.2
     rw[List.append_assoc,jK hy hes'] at this
     exact (hnewlive _ this).2 (by simp)
    refine⟨?_,fun b n hb hn=>⟨dN hb (by simp[h2]),hn⟩⟩
    unfold b8 bD bA
    have:(p'.isEmpty||r.nv==nv')=true:=by
     rcases hl'.1 with h | h<;>simp[h]
    simp[hro,this,h1]
   ·refine⟨by simpa[b8,bD,bA,upd,hne] using hl,fun b n hb hn=>⟨dN hb (by simp[hne]),hn⟩⟩,fun b l hb=>⟨dN hb (by simp[ho0]),rfl⟩⟩
  have hRy:=jL (p0:=[]) (H o r hro) hy
  simp only[List.nil_append] at hRy
  have hnew:bW w (eB ρ o (q0++[(i,k)]) q dst) (upd rt o (some { r with es:=es' })) (o,q0) sy (y.set i (cH e k .dead)):=by
   refine D9 K hRy hyn he hx rfl (fun b l hb hl hne hnp=>⟨dN hb (by simp[hnp]),rfl⟩) (fun b arr T hb hh=>?_)
   obtain⟨b',arr2,T2,z,g1,g2,g3,g4,g5⟩:=o7 hRy he hx
   have:=J _ _ _ hb g1
   subst this
   rw[hh] at g2
   cases g2
   refine⟨arr,z,dN hb ?_,hh,fun j _=>rfl,g4,fun _ _ _=>.dead _ _⟩
   rintro⟨_,t,ht⟩
   have:=congrArg List.length ht
   simp at this
  refine⟨?_,qz J hq,?_,?_,K,?_,?_,?_,?_⟩
  ·intro o' r' h'
   by_cases hne:o'=o
   ·subst hne
    simp only[upd,if_true,Option.some.injEq] at h'
    subst h'
    refine oh (p0:=[]) K (qz J hq) (by simp) (H o' r hro) (hr o' r hro) hy hes' (fun b l hb _ hl=>⟨dN hb ?_,rfl⟩) (fun b arr T hb hh=>⟨dN (by simpa using hb) ?_,arr,T,hh,rfl⟩) (by simpa using hnew)
    ·rintro⟨_,h2⟩
     exact hl (by simpa using (List.prefix_append q0 [(i,k)]).trans h2)
    ·rintro⟨_,t,ht⟩
     have:=congrArg List.length ht
     simp at this
   ·simp only[upd,hne,if_false] at h'
    exact bW.under K (fun b l hb _=>⟨dN hb (by simp[hne]),rfl⟩) (H o' r' h') (hr o' r' h')
  ·intro o' r' h'
   by_cases hne:o'=o
   ·simp only[upd,hne,if_true,Option.some.injEq] at h'
    subst h'
    exact ml (B7 hyn (qF hen (by simp[nh]))) (hr o r hro) hes'
   ·simp only[upd,hne,if_false] at h'
    exact hr o' r' h'
  ·exact bW.move K (fun b l hb=>⟨jQ hb,rfl⟩) hR hesn
  ·intro q' d v u hne hrow' hn'
   exact RepV.under K (fun b l hb _=>⟨dN hb (by simp[hne]),rfl⟩) hrow' hn'
  ·intro b o' l hb
   rcases fT hb with⟨h1,h2⟩ | ⟨rfl,t,rfl,h1⟩
   ·exact .inr ⟨h1,fun he=>⟨{ r with es:=es' },by simp[upd]⟩⟩
   ·exact .inl ⟨rfl,by simp⟩
  ·intro x' hx'
   simp only[upd]
   split
   ·rename_i hxo
    subst hxo
    rw[hro] at hx'
    cases hx'
   ·exact hx'
  ·intro x' hx'
   simp[upd,hx']
end
section
variable {w w' : World} {ρ ρ' ρ'' : bg} {rt rt' rt'' : ai} {N : Nat→Nat→Prop}
abbrev Pl:=Nat→List (Nat×Nat)→Prop
structure Lab (w:World) (ρ:bg) (rt:ai) (U:Pl):Prop where
 l:∀b o l,ρ b=some (o,l)→b<w.heap.size∧(U o l∨∃r,rt o=some r)
 z:rt 0=none
 f:∀b l,ρ b=some (0,l)→l=[(b,0)]
instance {w:World}{ρ:bg}{rt:ai}{U:Pl}:CoeFun (Lab w ρ rt U) (fun _=>∀b o l,ρ b=some (o,l)→b<w.heap.size∧(U o l∨∃r,rt o=some r)):=⟨Lab.l⟩
structure Abs (N:Nat→Nat→Prop) (w:World) (ρ:bg) (rt:ai) (ρ':bg) (rt':ai) (U':Pl):Prop where
 rok:et w ρ' rt'
 inj:eM ρ'
 rtn:gE rt'
 keep:Keep N w ρ rt w ρ' rt'
 tr:∀q d v u,rt q=none→RepV w ρ rt (some (q,d)) v u→nh v→RepV w ρ' rt' (some (q,d)) v u
 lab:Lab w ρ' rt' U'
 nv:∀o r',rt' o=some r'→∃r,rt o=some r∧r'.nv=r.nv∧r'.s=r.s∧r'.es.length=r.es.length
 f0:∀b l,ρ' b=some (0,l)→ρ b=some (0,l)
theorem Keep.refl:Keep N w ρ rt w ρ rt:=⟨fun _ h _=>⟨h,rfl⟩,fun _ _ _ _ h=>⟨h,fun _ _ h1 h2=>⟨h1,h2⟩⟩,fun _ _ h=>⟨h,rfl⟩⟩
theorem Keep.trans {w'':World}(K:Keep N w ρ rt w' ρ' rt')(K':Keep N w' ρ' rt' w'' ρ'' rt'')(hs:w.heap.size≤w'.heap.size):Keep N w ρ rt w'' ρ'' rt'':=by
 refine⟨fun b hb hl=>?_,fun o nv p hN hl=>?_,fun b l h=>⟨(K'.k0 b l (K.k0 b l h).1).1,(K'.k0 b l (K.k0 b l h).1).2.trans (K.k0 b l h).2⟩⟩
 ·have h1:=K.k1 b hb hl
  have h2:=K'.k1 b h1.1 (by omega)
  exact⟨h2.1,h2.2.trans h1.2⟩
 ·have h2:=K'.k2 o nv p hN hl
  have h1:=K.k2 o nv p hN h2.1
  exact⟨h1.1,fun b n hb hn=>by
   obtain⟨h3,h4⟩:=h1.2 b n hb hn
   exact h2.2 b n h3 h4⟩
theorem Abs.refl (H:et w ρ rt)(J:eM ρ)(hr:gE rt){U:Pl}(hL:Lab w ρ rt U):Abs N w ρ rt ρ rt U:=
 ⟨H,J,hr,Keep.refl,fun _ _ _ _ _ h _=>h,hL,fun o r h=>⟨r,h,rfl,rfl,rfl⟩,fun _ _ h=>h⟩
theorem Abs.gone {U:Pl}(a:Abs N w ρ rt ρ' rt' U){x:Nat}(h:rt x=none):rt' x=none:=by
 cases hx:rt' x with
 | none=>rfl
 | some r=>
  obtain⟨r',h',_⟩:=a.nv x r hx
  rw[h] at h'
  cases h'
theorem Abs.trans {U U':Pl}(a:Abs N w ρ rt ρ' rt' U)(b:Abs N w ρ' rt' ρ'' rt'' U'):Abs N w ρ rt ρ'' rt'' U':=
 ⟨b.rok,b.inj,b.rtn,a.keep.trans b.keep (Nat.le_refl _),fun q d v u hq h hn=>b.tr q d v u (a.gone hq) (a.tr q d v u hq h hn) hn,b.lab,fun o r h=>by
  obtain⟨r1,h1,e1,e2,e3⟩:=b.nv o r h
  obtain⟨r2,h2,e4,e5,e6⟩:=a.nv o r1 h1
  exact⟨r2,h2,e1.trans e4,e2.trans e5,e3.trans e6⟩,fun x l h=>a.f0 x l (b.f0 x l h)⟩
theorem Abs.weaken {U U':Pl}(a:Abs N w ρ rt ρ' rt' U)(h:∀o l,U o l→U' o l):Abs N w ρ rt ρ' rt' U':=
 { a with lab:=⟨fun b o l hb=>⟨(a.lab b o l hb).1,(a.lab b o l hb).2.imp (h o l) id⟩,a.lab.z,a.lab.f⟩ }
def Tk (U:Pl)(q:Nat)(dst:List (Nat×Nat)):Pl:=fun o l=>U o l∨(o=q∧dst <+: l)
theorem JO {o:Nat}{r:Root}{path:List (Nat×Nat)}(hro:rt o=some r)(h:eD rt o r path=some rt'):∀o' r',rt' o'=some r'→∃r,rt o'=some r∧r'.nv=r.nv∧r'.s=r.s∧r'.es.length=r.es.length:=by
 unfold eD at h
 intro o' r' h'
 split at h
 ·cases h
  by_cases he:o'=o
  ·simp[upd,he] at h'
  ·simp[upd,he] at h';exact⟨r',h',rfl,rfl,rfl⟩
 ·simp only[aG,aI] at h
  obtain⟨y,hy,e,he',es,hes,rfl⟩:=h
  by_cases he:o'=o
  ·simp[upd,he] at h';subst h';subst he
   exact⟨r,hro,rfl,rfl,oD hy hes (by simp)⟩
  ·simp[upd,he] at h';exact⟨r',h',rfl,rfl,rfl⟩
theorem wQ (H:et w ρ rt)(J:eM ρ)(hr:gE rt){U:Pl}(hL:Lab w ρ rt U){o nv q:Nat}{path dst:List (Nat×Nat)}{r:Root}{s:Nat}{es:List V}(hv:bA rt o nv path=some r)(hrow:aU path r.s r.es=some (s,es))(hq:∀l,¬U q (dst++l))(hq0:q≠0)(hq':rt q=none)(h:eD rt o r path=some rt'):Abs N w ρ rt (eB ρ o path q dst) rt' (Tk U q dst)∧bW w (eB ρ o path q dst) rt' (q,dst) s es∧nhs es:=by
 have hro:=(d8 hv).1
 have t:=Cc (New:=N) H J hr hv hrow (q:=q) (dst:=dst) (fun b l hb=>by
  rcases (hL b q _ hb).2 with h | ⟨r,h⟩
  ·exact hq _ h
  ·rw[hq'] at h;cases h) hL.z h
 refine⟨⟨t.rok,t.inj,t.rtn,t.keep,fun q' d v u hq1 hv hn=>t.cell q' d v u (by rintro rfl;rw[hro] at hq1;cases hq1) hv hn,⟨fun b o' l hb=>?_,t.low 0 hL.z,fun b l hb=>?_⟩,JO hro h,fun b l hb=>?_⟩,t.row,iY (hr o r hro) hrow⟩
 ·rcases t.lab b o' l hb with⟨h1,h2⟩ | ⟨h1,h2⟩
  ·refine⟨?_,.inl (.inr ⟨h1,h2⟩)⟩
   rcases fT hb with⟨h3,_⟩ | ⟨_,_,_,h3⟩
   ·exact (hL _ _ _ h3).1
   ·exact (hL _ _ _ h3).1
  ·refine⟨(hL _ _ _ h1).1,?_⟩
   rcases (hL _ _ _ h1).2 with h3 | ⟨r',h3⟩
   ·exact .inl (.inl h3)
   ·by_cases he:o'=o
    ·subst he;exact .inr (h2 rfl)
    ·exact .inr ⟨r',by rw[t.oth _ he];exact h3⟩
 ·rcases fT hb with⟨h3,_⟩ | ⟨h3,_⟩
  ·exact hL.f _ _ h3
  ·exact absurd h3.symm hq0
 ·rcases fT hb with⟨h3,_⟩ | ⟨h3,_⟩
  ·exact h3
  ·exact absurd h3.symm hq0
theorem lI (H:et w ρ rt)(J:eM ρ)(hr:gE rt){U:Pl}(hL:Lab w ρ rt U){q:Nat}{dst:List (Nat×Nat)}(hq:∀l,¬U q (dst++l))(hq0:q≠0)(hq':rt q=none){v v':V}{u:Value}(hv:RepV w ρ rt none v u)(hn:an N v)(h:bX rt v=some (v',rt')):∃ρ',Abs N w ρ rt ρ' rt' (Tk U q dst)∧RepV w ρ' rt' (some (q,dst)) v' u∧nh v'∧eP v'=true:=by
 unfold bX at h
 split at h
 ·rename_i o nv path s off len
  simp only[aG] at h
  obtain⟨r,hval,⟨s1,es⟩,hrow,h⟩:=h
  split at h
  ·rename_i hc
   simp only[aI] at h
   obtain⟨rt1,ht,h⟩:=h
   cases h
   obtain⟨h0,hlen,rfl⟩:=hc
   subst h0
   obtain⟨a,hrok,hesn⟩:=wQ (N:=N) H J hr hL hval hrow hq hq0 hq' ht
   refine⟨_,a,?_,?_,rfl⟩
   ·have hlive:b8 rt o nv path:=by simp[b8,bD,hval,hrow]
    cases hv with
    | hs _ _ _ _ _ _ _ _ hh h1=>
     obtain⟨c,A,rfl,hlc,hcc⟩:=hh hlive
     by_cases hc0:c=0
     ·subst hc0
      have:len=0:=by omega
      subst this
      simpa using RepV.usl0 (w:=w) (ρ:=eB ρ o path q dst) (rt:=rt') (q,dst) s A
     ·obtain⟨b,n,hb,⟨arr,T,hbb,rfl⟩,rfl,hle⟩:=hcc hc0
      have hb':eB ρ o path q dst b=some (q,dst):=by simpa using jQ (q:=q) (dst:=dst) (l:=[]) (by simpa using hb)
      have hlen':len≤es.length:=hlen
      obtain⟨ts,hts⟩:∃ts,ts=es.take len:=⟨_,rfl⟩
      have hlt:ts.length=len:=by rw[hts,List.length_take];omega
      have ht':∀(i:Nat) (e:V),ts[i]?=some e→es[i]?=some e:=fun i e he=>by
       rw[hts,List.getElem?_take] at he
       split at he
       ·exact he
       ·cases he
      rw[←hts]
      rw[←hlt] at hlc ⊢
      rw[Nat.zero_add] at hle
      rcases hrok with rfl | ⟨b2,arr2,T2,g2,i1,i2,i3,i4,i5⟩
      ·have:ts=[]:=by simpa using hts
       subst this
       exact .usl _ s [] b (some ⟨b,0*s,none⟩) c arr T (fun _ _=>undef) hb' hbb hlc (fun _=>by rw[Nat.zero_mul]) hle (by simp) (by simp) (by simp)
      ·have:=a.inj b b2 _ hb' i1
       subst this
       rw[hbb] at i2
       cases i2
       exact .usl _ _ _ b _ c arr T g2 hb' hbb hlc (fun _=>by rw[Nat.zero_mul]) hle (fun i e he=>i3 i e (ht' i e he)) (fun i e k x he hx=>i4 i e k x (ht' i e he) hx) (fun i e k x he hx=>i5 i e k x (ht' i e he) hx)
   ·simp only[nh]
    exact cZ.2 fun x hx=>cZ.1 hesn x (List.mem_of_mem_take hx)
  ·cases h
 ·rename_i o nv path s i k
  simp only[aG] at h
  obtain⟨r,hval,⟨s1,es⟩,hrow,h⟩:=h
  simp only at h
  split at h
  ·rename_i e
   split at h
   ·rename_i hc
    obtain⟨rfl,rfl⟩:=hc
    simp only[aI] at h
    obtain⟨rt1,ht,h⟩:=h
    cases h
    obtain⟨a,hrok,hesn⟩:=wQ (N:=N) H J hr hL hval hrow hq hq0 hq' ht
    refine⟨_,a,?_,by simpa[nh,nhs] using hesn,rfl⟩
    have hlive:b8 rt o nv path:=by simp[b8,bD,hval,hrow]
    cases hv with
    | hp _ _ _ _ _ _ _ _ hh h1=>
     obtain⟨b,n,hb,⟨arr,T,hbb,rfl⟩,rfl⟩:=hh hlive
     have hb':eB ρ o path q dst b=some (q,dst):=by simpa using jQ (q:=q) (dst:=dst) (l:=[]) (by simpa using hb)
     rcases hrok with h | ⟨b2,arr2,T2,g2,i1,i2,i3,i4,i5⟩
     ·cases h
     ·have:=a.inj b b2 _ hb' i1
      subst this
      rw[hbb] at i2
      cases i2
      simp only[Nat.zero_mul,Nat.add_zero]
      exact .uptr _ e b arr T (g2 0) hb' hbb (fun k x hx=>by simpa using i4 0 e k x rfl hx) (fun k x hx=>i5 0 e k x rfl hx)
   ·cases h
  ·cases h
 ·split at h
  ·rename_i hp
   cases h
   refine⟨ρ,(Abs.refl H J hr hL).weaken fun o l h=>.inl h,?_,pN hp hn,?_⟩
   ·exact hv.place (by cases v<;>first | trivial | exact absurd hp (by simp[cl]))
   ·cases v<;>first | rfl | exact absurd hp (by simp[cl])
  ·cases h
def R3 (U:Pl)(q i k0 n:Nat):Pl:=fun o l=>U o l∨(o=q∧∃j,j<n∧[(i,k0+j)] <+: l)
theorem Sv {x y:Nat×Nat}{l:List (Nat×Nat)}(h:[x] <+: [y]++l):x=y:=by
 obtain⟨t,ht⟩:=h
 simp at ht
 exact ht.1
theorem Bs {q i:Nat}:∀{vs vs':List V} {k0:Nat} {w:World} {ρ:bg} {rt rt':ai} {U:Pl} {g:Nat→Value},et w ρ rt→eM ρ→gE rt→Lab w ρ rt U→(∀j l,k0≤j→¬U q ([(i,j)]++l))→q≠0→rt q=none→
  (∀(k:Nat) x,vs[k]?=some x→RepV w ρ rt none x (g k))→cJ N vs→fh rt vs=some (vs',rt')→
  ∃ρ',Abs N w ρ rt ρ' rt' (R3 U q i k0 vs.length)∧vs'.length=vs.length∧∀(k:Nat) x,vs'[k]?=some x→RepV w ρ' rt' (some (q,[(i,k0+k)])) x (g k)∧nh x∧eP x=true
 | [],vs',k0,w,ρ,rt,rt',U,g,H,J,hr,hL,hq,hq0,hq',hv,hn,h=>by
  simp[fh] at h
  obtain⟨rfl,rfl⟩:=h
  exact⟨ρ,(Abs.refl H J hr hL).weaken fun o l h=>.inl h,rfl,by simp⟩
 | v::vs,vs',k0,w,ρ,rt,rt',U,g,H,J,hr,hL,hq,hq0,hq',hv,hn,h=>by
  simp only[fh,aG,aI] at h
  obtain⟨⟨x,rt1⟩,hx,⟨ys,rt2⟩,hys,h⟩:=h
  cases h
  simp only at hys
  obtain⟨ρ1,a1,r1,n1,c1⟩:=lI (N:=N) H J hr hL (q:=q) (dst:=[(i,k0)]) (fun l=>hq k0 l (Nat.le_refl _)) hq0 hq' (hv 0 v rfl) hn.1 hx
  obtain⟨ρ2,a2,l2,r2⟩:=Bs (k0:=k0+1) (g:=fun k=>g (k+1)) a1.rok a1.inj a1.rtn a1.lab (fun j l hj hu=>by
   rcases hu with hu | ⟨_,hu⟩
   ·exact hq j l (by omega) hu
   ·have:=Sv hu
    cases this
    omega) hq0 (a1.gone hq') (fun k x hx=>(hv (k+1) x (by simpa using hx)).keep a1.keep (ga hn.2 hx)) hn.2 hys
  refine⟨ρ2,(a1.trans a2).weaken fun o l h=>?_,by simp[l2],fun k y hy=>?_⟩
  ·rcases h with (h | ⟨h,h'⟩) | ⟨h,j,hj,h'⟩
   ·exact .inl h
   ·exact .inr ⟨h,0,by simp,by simpa using h'⟩
   ·exact .inr ⟨h,j+1,by simp;omega,by rw[show k0+(j+1)=k0+1+j by omega];exact h'⟩
  ·cases k with
   | zero=>
    simp at hy
    subst hy
    exact⟨a2.tr _ _ _ _ (a1.gone hq') r1 n1,n1,c1⟩
   | succ k=>
    have:=r2 k y (by simpa using hy)
    rwa[show k0+1+k=k0+(k+1) by omega] at this
theorem uE (H:et w ρ rt)(J:eM ρ)(hr:gE rt){U:Pl}(hL:Lab w ρ rt U){q i:Nat}(hq:∀j l,¬U q ([(i,j)]++l))(hq0:q≠0)(hq':rt q=none){v v':V}{u:Value}(hv:aM w ρ rt bq v u)(hn:an N v)(h:gF rt v=some (v',rt')):∃ρ',Abs N w ρ rt ρ' rt' (R3 U q i 0 (cells v).length)∧aM w ρ' rt' (fun k=>some (q,[(i,k)])) v' u∧nh v'∧al v'=al v∧(cells v').length=(cells v).length∧(cells v').all eP=true:=by
 by_cases ha:al v=true
 ·cases v<;>simp[al] at ha
  rename_i cs
  simp only[gF,aI] at h
  obtain⟨⟨ys,rt1⟩,hys,h⟩:=h
  cases h
  obtain⟨g,rfl,hg⟩:=sW hv
  obtain⟨ρ',a,l,r⟩:=Bs (N:=N) (i:=i) (k0:=0) H J hr hL (fun j l _=>hq j l) hq0 hq' hg (by simpa[an] using hn) hys
  refine⟨ρ',a,⟨g,by simp[fc,al,cells,l],fun k x hx=>by simpa using (r k x hx).1⟩,?_,rfl,l,?_⟩
  ·simp only[nh]
   refine cZ.2 fun x hx=>?_
   obtain⟨k,hk⟩:=List.mem_iff_getElem?.1 hx
   exact (r k x hk).2.1
  ·refine List.all_eq_true.2 fun x hx=>?_
   obtain⟨k,hk⟩:=List.mem_iff_getElem?.1 hx
   exact (r k x hk).2.2
 ·have ha':al v=false:=by simpa using ha
  have h':bX rt v=some (v',rt'):=by
   cases v<;>first | exact h | exact absurd rfl ha
  obtain⟨ρ',a,r,n,c⟩:=lI (N:=N) H J hr hL (q:=q) (dst:=[(i,0)]) (hq 0) hq0 hq' (aM.one ha' hv) hn h'
  have hc:al v'=false:=by cases v'<;>first | rfl | exact absurd c (by simp[eP])
  refine⟨ρ',a.weaken fun o l h=>?_,aM.mk1 hc r,n,by rw[hc,ha'],by rw[bw hc,bw ha'];rfl,by simp[bw hc,c]⟩
  rcases h with h | ⟨h,h'⟩
  ·exact .inl h
  ·exact .inr ⟨h,0,by simp[bw ha'],by simpa using h'⟩
def Ts (U:Pl)(q i0 n:Nat):Pl:=fun o l=>U o l∨(o=q∧∃i k,i<n∧[(i0+i,k)] <+: l)
theorem aM.tr {U:Pl}(a:Abs N w ρ rt ρ' rt' U){q i:Nat}{v:V}{u:Value}(hq:rt q=none)(h:aM w ρ rt (fun k=>some (q,[(i,k)])) v u)(hn:nh v):aM w ρ' rt' (fun k=>some (q,[(i,k)])) v u:=by
 obtain⟨g,hu,hg⟩:=h
 exact⟨g,hu,fun k x hx=>a.tr _ _ _ _ hq (hg k x hx) (bC hn hx)⟩
theorem ov {q:Nat}:∀{vs vs':List V} {i0:Nat} {w:World} {ρ:bg} {rt rt':ai} {U:Pl} {g:Nat→Value},et w ρ rt→eM ρ→gE rt→Lab w ρ rt U→(∀i j l,i0≤i→¬U q ([(i,j)]++l))→q≠0→rt q=none→
  (∀(i:Nat) x,vs[i]?=some x→aM w ρ rt bq x (g i))→cJ N vs→du rt vs=some (vs',rt')→
  ∃ρ',Abs N w ρ rt ρ' rt' (Ts U q i0 vs.length)∧vs'.length=vs.length∧∀(i:Nat) x y,vs'[i]?=some x→vs[i]?=some y→aM w ρ' rt' (fun k=>some (q,[(i0+i,k)])) x (g i)∧nh x∧al x=al y∧(cells x).length=(cells y).length∧(cells x).all eP=true
 | [],vs',i0,w,ρ,rt,rt',U,g,H,J,hr,hL,hq,hq0,hq',hv,hn,h=>by
  simp[du] at h
  obtain⟨rfl,rfl⟩:=h
  exact⟨ρ,(Abs.refl H J hr hL).weaken fun o l h=>.inl h,rfl,by simp⟩
 | v::vs,vs',i0,w,ρ,rt,rt',U,g,H,J,hr,hL,hq,hq0,hq',hv,hn,h=>by
  simp only[du,aG,aI] at h
  obtain⟨⟨x,rt1⟩,hx,⟨ys,rt2⟩,hys,h⟩:=h
  cases h
  simp only at hys
  obtain⟨ρ1,a1,r1,n1,c1,d1,e1⟩:=uE (N:=N) H J hr hL (q:=q) (i:=i0) (fun j l=>hq i0 j l (Nat.le_refl _)) hq0 hq' (hv 0 v rfl) hn.1 hx
  obtain⟨ρ2,a2,l2,r2⟩:=ov (i0:=i0+1) (g:=fun k=>g (k+1)) a1.rok a1.inj a1.rtn a1.lab (fun i j l hi hu=>by
   rcases hu with hu | ⟨_,j',_,hu⟩
   ·exact hq i j l (by omega) hu
   ·have:=Sv hu
    cases this
    omega) hq0 (a1.gone hq') (fun k x hx=>(hv (k+1) x (by simpa using hx)).keep a1.keep (ga hn.2 hx)) hn.2 hys
  refine⟨ρ2,(a1.trans a2).weaken fun o l h=>?_,by simp[l2],fun k y z hy hz=>?_⟩
  ·rcases h with (h | ⟨h,j,_,h'⟩) | ⟨h,i,k,hj,h'⟩
   ·exact .inl h
   ·exact .inr ⟨h,0,j,by simp,by simpa using h'⟩
   ·exact .inr ⟨h,i+1,k,by simp;omega,by rw[show i0+(i+1)=i0+1+i by omega];exact h'⟩
  ·cases k with
   | zero=>
    simp at hy hz
    subst hy hz
    exact⟨aM.tr a2 (a1.gone hq') r1 n1,n1,c1,d1,e1⟩
   | succ k=>
    have:=r2 k y z (by simpa using hy) (by simpa using hz)
    rwa[show i0+1+k=i0+(k+1) by omega] at this
end
section
variable {w w' : World} {ρ ρ' ρ'' : bg} {rt rt' rt'' : ai} {N : Nat→Nat→Prop}
def gW (ρ:bg)(b:Nat)(L:cS):bg:=fun x=>if x=b then some L else ρ x
structure Wk (w w':World):Prop where
 os:w'.os=w.os
 out:w'.output=w.output
 tape:w'.tape=w.tape
 size:w.heap.size≤w'.heap.size
 blk:∀b n,km w b n→km w' b n
theorem Wk.refl:Wk w w:=⟨rfl,rfl,rfl,Nat.le_refl _,fun _ _ h=>h⟩
theorem Wk.push {arr:Array Value}{T:TypeId}(hw:w'.heap=w.heap.push (.cells arr T (0,0)))(hos:w'.os=w.os)(hout:w'.output=w.output)(htape:w'.tape=w.tape):Wk w w':=
 ⟨hos,hout,htape,by rw[hw];simp,fun b n ⟨a,t,h1,h2⟩=>⟨a,t,by rw[hw,Array.getElem?_push,if_neg (by have:=oW h1;omega)];exact h1,h2⟩⟩
theorem Wk.trans {w'':World}(a:Wk w w')(b:Wk w' w''):Wk w w'':=⟨b.os.trans a.os,b.out.trans a.out,b.tape.trans a.tape,Nat.le_trans a.size b.size,fun c n h=>b.blk c n (a.blk c n h)⟩
def jA:Pl:=fun o _=>o=0
structure Eff (N:Nat→Nat→Prop) (w:World) (ρ:bg) (rt:ai) (w':World) (ρ':bg) (rt':ai) (id:Nat):Prop where
 rok:et w' ρ' rt'
 inj:eM ρ'
 rtn:gE rt'
 keep:Keep N w ρ rt w' ρ' rt'
 lab:Lab w' ρ' rt' jA
 wk:Wk w w'
 nv:∀o r',rt' o=some r'→(∃r,rt o=some r∧r.nv≤r'.nv)∨(id≤o∧o<id+bO)
 f0:∀b l,ρ' b=some (0,l)→ρ b=some (0,l)
theorem Mj {at_:Nat→Option cS}{x y:V}{g:Nat→Value}(h:aM w ρ rt at_ x (fc y g))(ha:al x=al y)(hl:(cells x).length=(cells y).length):∀(k:Nat) z,(cells x)[k]?=some z→RepV w ρ rt (at_ k) z (g k):=by
 obtain⟨g',hu,hg⟩:=h
 intro k z hz
 have hk:=(cd.1 hz).1
 have:g k=g' k:=by
  unfold fc at hu
  rw[ha] at hu
  split at hu
  ·injection hu with hu
   have h1:=congrArg (fun a:Array Value=>a[k]?) hu
   have e1:(cT (cells y).length g)[k]?=some (g k):=iI (by omega)
   have e2:(cT (cells x).length g')[k]?=some (g' k):=iI hk
   simp only[e1,e2] at h1
   simpa using h1
  ·rename_i hna
   have hx:al x=false:=by rw[ha];simpa using hna
   rw[bw hx] at hk
   have:k=0:=by simpa using hk
   subst this
   exact hu
 rw[this]
 exact hg k z hz
theorem newRoot (H:et w ρ rt)(J:eM ρ)(hr:gE rt){U:Pl}(hL:Lab w ρ rt U){id:Nat}(hp:0<id)(hU:∀o l,U o l→o=0∨(o=id∧l≠[]))(dA:rt id=none)(hN:∀nv,N id nv){arr:Array Value}{T:TypeId}(hw:w'.heap=w.heap.push (.cells arr T (0,0))){es:List V}{s:Nat}{g:Nat→Nat→Value}(hs:∀(i:Nat) (e:V),es[i]?=some e→(cells e).length=s)(hc:∀(i:Nat) (e:V) k x,es[i]?=some e→(cells e)[k]?=some x→arr[i*s+k]?=some (g i k))(hR:∀(i:Nat) (e:V) k x,es[i]?=some e→(cells e)[k]?=some x→RepV w ρ rt (some (id,[(i,k)])) x (g i k))(hn:nhs es) :
  et w' (gW ρ w.heap.size (id,[])) (upd rt id (some ⟨0,s,es⟩))∧eM (gW ρ w.heap.size (id,[]))∧gE (upd rt id (some ⟨0,s,es⟩))∧Keep N w ρ rt w' (gW ρ w.heap.size (id,[])) (upd rt id (some ⟨0,s,es⟩))∧
   Lab w' (gW ρ w.heap.size (id,[])) (upd rt id (some ⟨0,s,es⟩)) jA:=by
 have hnew:w'.heap[w.heap.size]?=some (.cells arr T (0,0)):=by rw[hw];simp
 have hold:∀b,b<w.heap.size→w'.heap[b]?=w.heap[b]?:=fun b hb=>by
  rw[hw,Array.getElem?_push,if_neg (by omega)]
 have hoth:∀b l,ρ b=some l→gW ρ w.heap.size (id,[]) b=some l∧w'.heap[b]?=w.heap[b]?:=fun b l hb=>by
  have:=(hL b l.1 l.2 hb).1
  exact⟨by simp[gW,Nat.ne_of_lt this,hb],hold b this⟩
 have K:Keep N w ρ rt w' (gW ρ w.heap.size (id,[])) (upd rt id (some ⟨0,s,es⟩)):=by
  refine⟨fun b hb hl=>⟨by simp[gW,Nat.ne_of_lt hl,hb],hold b hl⟩,fun o nv p hNo hl=>?_,fun b l hb=>hoth b _ hb⟩
  have hne:o≠id:=by rintro rfl;exact hNo (hN nv)
  refine⟨by simpa[b8,bD,bA,upd,hne] using hl,fun b n hb hbl=>?_⟩
  have:=hoth b _ hb
  refine⟨this.1,?_⟩
  obtain⟨arr',T',h1,h2⟩:=hbl
  exact⟨arr',T',by rw[this.2];exact h1,h2⟩
 refine⟨?_,?_,?_,K,?_⟩
 ·intro o r h
  by_cases ho:o=id
  ·subst ho
   simp[upd] at h
   subst h
   refine .inr ⟨w.heap.size,arr,T,g,by simp[gW],hnew,hs,hc,fun i e k x he hx=>?_⟩
   exact RepV.under K (fun b l hb _=>hoth b _ hb) (hR i e k x he hx) (bC (cp hn he) hx)
  ·simp[upd,ho] at h
   exact bW.under K (fun b l hb _=>hoth b _ hb) (H o r h) (hr o r h)
 ·intro b b' L h h'
  unfold gW at h h'
  split at h<;>split at h'
  ·simp_all
  ·cases h
   exfalso
   rcases (hL b' _ _ h').2 with hu | ⟨r,hu⟩
   ·rcases hU _ _ hu with h | h
    ·omega
    ·exact h.2 rfl
   ·rw[dA] at hu;cases hu
  ·cases h'
   exfalso
   rcases (hL b _ _ h).2 with hu | ⟨r,hu⟩
   ·rcases hU _ _ hu with h | h
    ·omega
    ·exact h.2 rfl
   ·rw[dA] at hu;cases hu
  ·exact J _ _ _ h h'
 ·intro o r h
  by_cases ho:o=id
  ·simp[upd,ho] at h
   subst h
   exact hn
  ·simp[upd,ho] at h
   exact hr o r h
 ·refine⟨fun b o l h=>?_,by simp[upd,Nat.ne_of_lt hp,hL.z],fun b l h=>?_⟩
  rotate_left
  ·unfold gW at h
   split at h
   ·cases h;exact absurd hp (Nat.lt_irrefl _)
   ·exact hL.f b l h
  unfold gW at h
  split at h
  ·cases h
   rename_i hb
   subst hb
   exact⟨by rw[hw];simp,.inr ⟨⟨0,s,es⟩,by simp[upd]⟩⟩
  ·have:=hL b o l h
   refine⟨by rw[hw];simp;omega,?_⟩
   by_cases ho:o=id
   ·exact .inr ⟨⟨0,s,es⟩,by simp[upd,ho]⟩
   ·rcases this.2 with hu | ⟨r,hu⟩
    ·rcases hU _ _ hu with h | h
     ·exact .inl h
     ·exact absurd h.1 ho
    ·exact .inr ⟨r,by simp[upd,ho,hu]⟩
theorem Abs.newRoot {U:Pl}(a:Abs N w ρ rt ρ' rt' U){id:Nat}(hp:0<id)(hU:∀o l,U o l→o=0∨(o=id∧l≠[]))(dA:rt id=none)(hN:∀nv,N id nv){arr:Array Value}{T:TypeId}(hw:w'.heap=w.heap.push (.cells arr T (0,0)))(hos:w'.os=w.os)(hout:w'.output=w.output)(htape:w'.tape=w.tape){es:List V}{s:Nat}{g:Nat→Nat→Value}(hs:∀(i:Nat) (e:V),es[i]?=some e→(cells e).length=s)(hc:∀(i:Nat) (e:V) k x,es[i]?=some e→(cells e)[k]?=some x→arr[i*s+k]?=some (g i k))(hR:∀(i:Nat) (e:V) k x,es[i]?=some e→(cells e)[k]?=some x→RepV w ρ' rt' (some (id,[(i,k)])) x (g i k))(hn:nhs es) :
  Eff N w ρ rt w' (gW ρ' w.heap.size (id,[])) (upd rt' id (some ⟨0,s,es⟩)) id:=by
 obtain⟨h1,h2,h3,h4,h5⟩:=Ln.newRoot a.rok a.inj a.rtn a.lab hp hU (a.gone dA) hN hw hs hc hR hn
 refine⟨h1,h2,h3,a.keep.trans h4 (Nat.le_refl _),h5,Wk.push hw hos hout htape,fun o r h=>?_,fun b l h=>?_⟩
 rotate_left
 ·unfold gW at h
  split at h
  ·cases h;exact absurd hp (Nat.lt_irrefl _)
  ·exact a.f0 b l h
 by_cases ho:o=id
 ·subst ho;exact .inr ⟨Nat.le_refl _,by simp[bO]⟩
 ·simp[upd,ho] at h
  obtain⟨r',h',e,_⟩:=a.nv o r h
  exact .inl ⟨r',h',by omega⟩
theorem HE {arr:Array Value}{T:TypeId}(hw:w'.heap=w.heap.push (.cells arr T (0,0))):km w' w.heap.size arr.size:=⟨arr,T,by rw[hw];simp,rfl⟩
theorem L5 {id nv s:Nat}{arr:Array Value}{T:TypeId}(hw:w'.heap=w.heap.push (.cells arr T (0,0))):RepV w' (gW ρ w.heap.size (id,[])) rt none (.hp id nv [] s 0 0) (.pointer (some ⟨w.heap.size,0,none⟩)):=
 .hp _ _ _ _ _ _ _ _ (fun _=>⟨w.heap.size,_,by simp[gW],HE hw,by simp⟩) trivial
theorem Gn {id nv s len c:Nat}{arr:Array Value}{T:TypeId}(hw:w'.heap=w.heap.push (.cells arr T (0,0)))(hlc:len≤c)(hcs:c*s≤arr.size):RepV w' (gW ρ w.heap.size (id,[])) rt none (.hs id nv [] s 0 len) (.slice (some ⟨w.heap.size,0,none⟩) len c):=
 .hs _ _ _ _ _ _ _ _ (fun _=>⟨c,_,rfl,hlc,fun _=>⟨w.heap.size,_,by simp[gW],HE hw,by simp,by simpa using hcs⟩⟩) trivial
theorem nO {at_:Nat→Option cS}{v:V}{u:Value}(h:aM w ρ rt at_ v u)(hp:(cells v).all eP=true):∃g,u=fc v g∧u.cells=cT (cells v).length g∧∀k x,(cells v)[k]?=some x→RepV w ρ rt (at_ k) x (g k):=by
 obtain⟨g,rfl,hg⟩:=h
 refine⟨g,rfl,?_,hg⟩
 by_cases ha:al v=true
 ·simp[fc,ha,Value.cells]
 ·have ha':al v=false:=by simpa using ha
  have hc:=bw ha'
  have h1:=rD (hg 0 v (by simp[hc])) (by rw[hc] at hp;simpa using hp)
  rw[show fc v g=g 0 by simp[fc,ha'],h1.cells,hc]
  rfl
end
section
variable {w w' : World} {ρ ρ' ρ'' : bg} {rt rt' rt'' : ai} {N : Nat→Nat→Prop}
structure Fresh (Un:Nat→Prop) (rt:ai) (id:Nat):Prop where
 f:∀o,Un o→rt o=none
 u:∀o,id≤o→o<id+bO→Un o
 p:0<id
theorem Fresh.uid {Un:Nat→Prop}{rt:ai}{id:Nat}(h:Fresh Un rt id):Un id:=h.u id (Nat.le_refl _) (by unfold bO;omega)
theorem Fresh.at {Un:Nat→Prop}{rt:ai}{id:Nat}(h:Fresh Un rt id):rt id=none:=h.f id h.uid
structure Fresh0 (rt:ai) (id:Nat):Prop where
 at':rt id=none
 p:0<id
theorem Fresh.one {Un:Nat→Prop}{rt:ai}{id:Nat}(h:Fresh Un rt id):Fresh0 rt id:=⟨h.at,h.p⟩
def sH (Un:Nat→Prop)(id:Nat):Nat→Prop:=fun o=>Un o∧¬(id≤o∧o<id+bO)
def bG (Un:Nat→Prop)(rt:ai)(o nv:Nat):Prop:=Un o∨∃r,rt o=some r∧r.nv<nv
def pD (Un:Nat→Prop)(w:World)(ρ:bg)(rt:ai)(id:Nat)(v:V)(rt':ai)(u:Value)(w':World):Prop:=
 ∃ρ',Eff (bG Un rt) w ρ rt w' ρ' rt' id∧aM w' ρ' rt' bq v u∧an (bG (sH Un id) rt') v
theorem NV {i s:Nat}{v:V}:∀{es:List V},(∀e∈es,(cells e).length=s)→i<es.length→(es.set i v).flatMap cells=(es.flatMap cells).take (i*s)++cells v++(es.flatMap cells).drop (i*s+s):=by
 induction i with
 | zero=>
  intro es hs hi
  cases es with
  | nil=>simp at hi
  | cons e es=>
   have he:=hs e (by simp)
   simp[←he]
 | succ i ih=>
  intro es hs hi
  cases es with
  | nil=>simp at hi
  | cons e es=>
   have he:=hs e (by simp)
   have:=ih (es:=es) (fun e he=>hs e (by simp[he])) (by simpa using hi)
   simp only[List.set_cons_succ,List.flatMap_cons,this]
   have h1:((i+1)*s)=(cells e).length+i*s:=by rw[he,Nat.succ_mul];omega
   rw[h1,List.take_length_add_append,Nat.add_assoc,List.drop_length_add_append]
   simp[List.append_assoc]
theorem yh {s:Nat}:∀{es:List V} {i k:Nat} {e x:V},(∀e∈es,(cells e).length=s)→es[i]?=some e→(cells e)[k]?=some x→(es.flatMap cells)[i*s+k]?=some x
 | [],i,k,e,x,hs,he,hx=>by simp at he
 | e0::es,0,k,e,x,hs,he,hx=>by
  simp at he
  subst he
  have hk:=(cd.1 hx).1
  simp only[List.flatMap_cons,Nat.zero_mul,Nat.zero_add]
  rw[lm hk]
  exact hx
 | e0::es,i+1,k,e,x,hs,he,hx=>by
  have ih:=yh (es:=es) (i:=i) (fun e he=>hs e (by simp[he])) (by simpa using he) hx
  have h0:=hs e0 (by simp)
  simp only[List.flatMap_cons]
  rw[mY (by rw[h0,Nat.succ_mul];omega),←ih]
  congr 1
  rw[h0,Nat.succ_mul]
  omega
theorem pH {s:Nat}:∀{es:List V},(∀e∈es,(cells e).length=s)→(es.flatMap cells).length=es.length*s
 | [],h=>by simp
 | e::es,h=>by
  simp only[List.flatMap_cons,List.length_append,List.length_cons]
  rw[pH fun e he=>h e (by simp[he]),h e (by simp),Nat.succ_mul]
  omega
theorem wK {s:Nat}{a:Bool}:∀{pv:List (Nat×V)} {es es':List V},(∀e∈es,(cells e).length=s)→js s a es pv=some es'→lL (fun i=>some (i*s,s)) (es.flatMap cells) pv=some (es'.flatMap cells)
 | [],es,es',hs,h=>by simp[js] at h;simp[lL,h]
 | (i,v)::pv,es,es',hs,h=>by
  simp only[js] at h
  split at h
  ·rename_i hc
   obtain⟨h1,h2,h3,h4⟩:=hc
   have hs':∀e∈es.set i v,(cells e).length=s:=fun e he=>by
    rcases List.mem_or_eq_of_mem_set he with h | h
    ·exact hs e h
    ·rw[h];exact h2
   have:=wK hs' h
   simp only[lL]
   rw[if_pos,←NV hs h1]
   ·exact this
   ·refine⟨h2,?_,h4⟩
    rw[pH hs]
    have:i*s+s=(i+1)*s:=by rw[Nat.succ_mul]
    rw[this]
    exact Nat.mul_le_mul_right _ h1
  ·cases h
theorem B0 {s:Nat}{a:Bool}:∀{pv:List (Nat×V)} {es es':List V},js s a es pv=some es'→es'.length=es.length∧∀e∈es',e∈es∨((cells e).length=s∧al e=a∧∃p∈pv,p.2=e)
 | [],es,es',h=>by simp[js] at h;subst h;exact⟨rfl,fun e he=>.inl he⟩
 | (i,v)::pv,es,es',h=>by
  simp only[js] at h
  split at h
  ·rename_i hc
   obtain⟨l,ih⟩:=B0 h
   refine⟨by simpa using l,fun e he=>?_⟩
   rcases ih e he with h1 | ⟨h1,h2,p,hp,h3⟩
   ·rcases List.mem_or_eq_of_mem_set h1 with h | h
    ·exact .inl h
    ·exact .inr ⟨by rw[h];exact hc.2.1,by rw[h];exact hc.2.2.1,(i,v),by simp,h.symm⟩
   ·exact .inr ⟨h1,h2,p,by simp[hp],h3⟩
  ·cases h
theorem N9 {n s k i:Nat}(hk:k<s):(i*s+k) % s=k:=by rw[Nat.mul_comm,Nat.mul_add_mod,Nat.mod_eq_of_lt hk]
theorem qo {z:Array Value}{n s i k:Nat}(hz:z.size=s)(hi:i<n)(hk:k<s):(madeCells z (n*s))[i*s+k]?=z[k]?:=by
 have hlt:i*s+k<n*s:=by
  have:(i+1)*s≤n*s:=Nat.mul_le_mul_right _ hi
  rw[Nat.succ_mul] at this
  omega
 simp[madeCells,hlt,hz,N9 (n:=0) hk,hk]
theorem B9 {at_:Nat→Option cS}{v:V}{u:Value}(h:aM w ρ rt at_ v u)(hp:(cells v).all eP=true){k:Nat}{x:V}(hx:(cells v)[k]?=some x):u.cells[k]?=some (u.cells.getD k undef)∧RepV w ρ rt (at_ k) x (u.cells.getD k undef):=by
 obtain⟨g,_,hg2,hg3⟩:=nO h hp
 have hk:=(cd.1 hx).1
 have:u.cells[k]?=some (g k):=by rw[hg2];exact iI hk
 obtain⟨hlt,e⟩:=pW.1 this
 have hgd:u.cells.getD k undef=g k:=by simp[Array.getD,hlt,e]
 rw[hgd]
 exact⟨this,hg3 k x hx⟩
section
variable {P : Program} {E : Env} (A : Agree P E) {st : St} {a : Act} {o : Oper} (H : et w ρ st.rt) (J : eM ρ) (T : ji w ρ st.rt st.tm a.tmps) (hr : gE st.rt) (hL : Lab w ρ st.rt jA) {Un : Nat→Prop} {id : Nat} (hm : wu (bG Un st.rt) st.tm) (hi : Fresh Un st.rt id)
include A H J T hr hL hm hi
theorem BP {s:Nat}{es:List V}:an (bG (sH Un id) (upd rt id (some ⟨0,s,es⟩))) (.hp id 0 [] s 0 0):=by
 simp only[an,bG,sH,bO]
 rintro (⟨_,h⟩ | ⟨r,h,h'⟩)
 ·omega
 ·omega
theorem jI {s n m:Nat}{es:List V}:an (bG (sH Un id) (upd rt id (some ⟨0,s,es⟩))) (.hs id 0 [] s n m):=by
 simp only[an,bG,sH,bO]
 rintro (⟨_,h⟩ | ⟨r,h,h'⟩)
 ·omega
 ·omega
theorem Qn {t:TypeId}{v:V}{rt':ai}(ho:o.op=.alloc t)(h:aX E id st o.op=some (v,rt')) :
  ∃u w',(execOp a.eval o).run P w=.ok (.value u) w'∧pD Un w ρ st.rt id v rt' u w':=by
 rw[ho] at h
 simp only[aX,aG,aI] at h
 obtain⟨ti,hti,z,hz,h⟩:=h
 cases h
 have hzr:=lh A hti w
 obtain⟨g,hg1,hg2,hg3⟩:=nO (iR (w:=w) (ρ:=ρ) (rt:=st.rt) hz (fun k=>some (id,[(0,k)]))) (ie hz)
 have hN:∀nv,bG Un st.rt id nv:=fun nv=>.inl hi.uid
 refine⟨.pointer (some ⟨w.heap.size,0,none⟩),w.alloc (.cells ti.zv.cells t),?_,gW ρ w.heap.size (id,[]),?_,aM.mk1 rfl (L5 rfl),BP A H J T hr hL hm hi⟩
 ·simp[execOp,ho,Instr.alloc,Sem.run_bind,hzr,Result.andThen,newVar,newRow]
 ·refine Abs.newRoot (w':=w.alloc (.cells ti.zv.cells t)) (es:=[z]) (T:=t) (g:=fun _ k=>g k) (Abs.refl H J hr hL) hi.p (fun o l h=>.inl h) (hi.at) hN rfl rfl rfl rfl ?_ ?_ ?_ (by simpa[nhs] using nB hz)
  ·intro i e he
   cases i<;>simp at he
   rw[he]
  ·intro i e k x he hx
   cases i<;>simp at he
   subst he
   rw[hg2,Nat.zero_mul,Nat.zero_add]
   exact iI (cd.1 hx).1
  ·intro i e k x he hx
   cases i<;>simp at he
   subst he
   exact hg3 k x hx
theorem Tf {t:TypeId}{x:Operand}{v:V}{rt':ai}(ho:o.op=.box t x)(h:aX E id st o.op=some (v,rt')) :
  ∃u w',(execOp a.eval o).run P w=.ok (.value u) w'∧pD Un w ρ st.rt id v rt' u w':=by
 rw[ho] at h
 simp only[aX,aG,aI] at h
 obtain⟨xv,hx,⟨y,rt1⟩,hy,h⟩:=h
 cases h
 have dA:=hi.at
 obtain⟨ρ1,ab,sl,yn,ya,yl,yc⟩:=uE (N:=bG Un st.rt) (i:=0) H J hr hL (q:=id) (fun j l h=>absurd hi.p (by simp only[jA] at h;omega)) (Nat.ne_of_gt hi.p) dA (cg T hx) (gf hm hx) hy
 obtain⟨g,hg1,hg2,hg3⟩:=nO sl yc
 have hN:∀nv,bG Un st.rt id nv:=fun nv=>.inl hi.uid
 refine⟨.pointer (some ⟨w.heap.size,0,none⟩),w.alloc (.cells (a.eval x).cells t),?_,gW ρ1 w.heap.size (id,[]),?_,aM.mk1 rfl (L5 rfl),BP A H J T hr hL hm hi⟩
 ·simp[execOp,ho,Instr.box,Sem.run_bind,Result.andThen,newVar,newRow]
 ·refine Abs.newRoot (w':=w.alloc (.cells (a.eval x).cells t)) (es:=[y]) (T:=t) (g:=fun _ k=>g k) ab hi.p ?_ dA hN rfl rfl rfl rfl ?_ ?_ ?_ (by simpa[nhs] using yn)
  ·rintro o l (h | ⟨h,j,_,h'⟩)
   ·exact .inl h
   ·refine .inr ⟨h,?_⟩
    rintro rfl
    simp at h'
  ·intro i e he
   cases i<;>simp at he
   rw[he]
  ·intro i e k x he hx
   cases i<;>simp at he
   subst he
   rw[hg2,Nat.zero_mul,Nat.zero_add]
   exact iI (cd.1 hx).1
  ·intro i e k x he hx
   cases i<;>simp at he
   subst he
   exact hg3 k x hx
theorem Hi {t:TypeId}{x y:Operand}{v:V}{rt':ai}(ho:o.op=.makeSlice t x y)(h:aX E id st o.op=some (v,rt')) :
  ∃u w',(execOp a.eval o).run P w=.ok (.value u) w'∧pD Un w ρ st.rt id v rt' u w':=by
 rw[ho] at h
 simp only[aX,aG] at h
 obtain⟨lv,hlv,cv,hcv,h⟩:=h
 split at h
 ·rename_i e sz bt zv l c htt
  simp only[aG] at h
  obtain⟨ei,hei,z,hz,h⟩:=h
  split at h
  ·rename_i hc
   cases h
   obtain⟨c1,c2,c3,c4,c5,c6,c7⟩:=hc
   obtain⟨i,hi1,hi2,hi3,hi4⟩:=A.info e ei hei
   have hu:=A.und t _ htt
   simp only at hu
   have e1:=iw (cg T hlv)
   have e2:=iw (cg T hcv)
   have hzc:ei.zv.cells.size=ei.size:=by
    have:=(rE (iR (w:=w) (ρ:=ρ) (rt:=st.rt) hz bq) (ie hz)).1
    rw[←this];exact c6
   have hc0:0≤c:=by omega
   have hcc:((c.toNat:Nat):Int)=c:=by omega
   have hrun:=run_make (P:=P) w t e i ei.zv hu hi1 hi4 .i64 .i64 l c c1 c2 (by rw[hi3,Int.mul_comm];have:(mF:Int)=1099511627776:=rfl;omega) (by have:(mF:Int)=1099511627776:=rfl;omega)
   have hN:∀nv,bG Un st.rt id nv:=fun nv=>.inl hi.uid
   refine⟨.slice (some ⟨w.heap.size,0,none⟩) l.toNat c.toNat,w.alloc (.cells (madeCells ei.zv.cells (c.toNat*i.size)) e),?_,gW ρ w.heap.size (id,[]),?_,aM.mk1 rfl (Gn rfl (by omega) (by rw[size_madeCells,hi2];exact Nat.le_refl _)),jI A H J T hr hL hm hi⟩
   ·simp only[execOp,ho,Sem.run_bind,e1,e2,hrun,Result.andThen,Sem.run_pure]
   ·refine Abs.newRoot (w':=w.alloc (.cells (madeCells ei.zv.cells (c.toNat*i.size)) e)) (es:=List.replicate l.toNat z) (T:=e) (g:=fun i k=>ei.zv.cells.getD k undef) (Abs.refl H J hr hL) hi.p (fun o l h=>.inl h) (hi.at) hN rfl rfl rfl rfl ?_ ?_ ?_ ?_
    ·intro i e he
     have:=List.eq_of_mem_replicate (ii he)
     rw[this];exact c6
    ·intro j e k x he hx
     have hj:=(cd.1 he).1
     have:=List.eq_of_mem_replicate (ii he)
     subst this
     have hk:=(cd.1 hx).1
     rw[hi2,qo hzc (by simp at hj;omega) (by omega)]
     exact (B9 (iR (w:=w) (ρ:=ρ) (rt:=st.rt) hz bq) (ie hz) hx).1
    ·intro j e k x he hx
     have:=List.eq_of_mem_replicate (ii he)
     subst this
     exact (B9 (iR (w:=w) (ρ:=ρ) (rt:=st.rt) hz (fun k=>some (id,[(j,k)]))) (ie hz) hx).2
    ·refine cZ.2 fun x hx=>?_
     rw[List.eq_of_mem_replicate hx]
     exact nB hz
  ·cases h
 ·cases h
theorem Gl {t:TypeId}{n:Nat}{ps:Array (Nat×Operand)}{v:V}{rt':ai}(ho:o.op=.buildSlice t n ps)(h:aX E id st o.op=some (v,rt')) :
  ∃u w',(execOp a.eval o).run P w=.ok (.value u) w'∧pD Un w ρ st.rt id v rt' u w':=by
 rw[ho] at h
 simp only[aX,aG] at h
 obtain⟨pv,hpv,h⟩:=h
 split at h
 ·rename_i e sz bt zv htt
  simp only[aG] at h
  obtain⟨ei,hei,z,hz,h⟩:=h
  split at h
  ·rename_i hc
   obtain⟨c1,c2,c3,c4⟩:=hc
   simp only[aG,aI] at h
   obtain⟨es,hes,⟨ys,rt1⟩,hys,h⟩:=h
   cases h
   obtain⟨i,hi1,hi2,hi3,hi4⟩:=A.info e ei hei
   have hu:=A.und t _ htt
   simp only at hu
   have hzs:=rE (iR (w:=w) (ρ:=ρ) (rt:=st.rt) hz bq) (ie hz)
   have hzc:ei.zv.cells.size=ei.size:=by rw[←hzs.1];exact c3
   have hrep:∀e∈List.replicate n z,(cells e).length=ei.size:=fun e he=>by rw[List.eq_of_mem_replicate he];exact c3
   have hcs0:Cs w ρ st.rt ((List.replicate n z).flatMap cells) (madeCells ei.zv.cells (n*ei.size)):=by
    refine⟨by rw[pH hrep,size_madeCells];simp,fun k x y hx hy=>?_⟩
    have hk:=(cd.1 hx).1
    rw[pH hrep,List.length_replicate] at hk
    have hd:k / ei.size<n:=Nat.div_lt_of_lt_mul (by rw[Nat.mul_comm];exact hk)
    have hm':k % ei.size<ei.size:=Nat.mod_lt _ c2
    have hdm:k / ei.size*ei.size+k % ei.size=k:=by rw[Nat.mul_comm];exact Nat.div_add_mod k ei.size
    have h1:=yh (i:=k / ei.size) (k:=k % ei.size) (e:=z) hrep (by simp[hd]) (d5 (by omega))
    rw[hdm,hx] at h1
    have h2:=qo (n:=n) hzc hd hm'
    rw[hdm,hy] at h2
    cases h1
    exact hzs.2 _ _ _ (d5 _) h2.symm
   obtain⟨hlen,hpr⟩:=qv T hpv
   obtain⟨fl,ff⟩:=B0 hes
   have hses:∀e∈es,(cells e).length=ei.size:=fun e he=>by
    rcases ff e he with h | h
    ·exact hrep e h
    ·exact h.1
   obtain⟨arr,hf1,hf2⟩:=sB hcs0 (wK hrep hes) (pu:=ps.toList.map fun x=>(x.1,a.eval x.2)) (by simp[hlen]) hpr
   have hparts:(ps.map fun (x:Nat×Operand)=>(x.1,a.eval x.2)).toList=ps.toList.map fun x=>(x.1,a.eval x.2):=by simp
   have hslot:∀(i:Nat) x,es[i]?=some x→∀(k:Nat) y,(cells x)[k]?=some y→arr[i*ei.size+k]?=some (arr.getD (i*ei.size+k) undef)∧RepV w ρ st.rt none y (arr.getD (i*ei.size+k) undef):=by
    intro i x hx k y hy
    have h1:=yh hses hx hy
    have hlt:=(cd.1 h1).1
    rw[hf2.1] at hlt
    have h2:arr[i*ei.size+k]?=some (arr.getD (i*ei.size+k) undef):=by simp[Array.getD,hlt]
    exact⟨h2,hf2.2 _ _ _ h1 h2⟩
   have hnn:cJ (bG Un st.rt) es:=dJ.2 fun x hx=>by
    rcases ff x hx with h | ⟨_,_,p,hp,rfl⟩
    ·rw[List.eq_of_mem_replicate h];exact cz (nB hz)
    ·exact oT hm hpv p hp
   have dA:=hi.at
   obtain⟨ρ1,ab,yl,yr⟩:=ov (N:=bG Un st.rt) (q:=id) (i0:=0) (g:=fun i=>fc (es.getD i .und) (fun k=>arr.getD (i*ei.size+k) undef)) H J hr hL (fun i j l _ h=>absurd hi.p (by simp only[jA] at h;omega)) (Nat.ne_of_gt hi.p) dA (fun i x hx=>by
    refine⟨fun k=>arr.getD (i*ei.size+k) undef,by rw[List.getD_eq_getElem?_getD,hx];rfl,fun k y hy=>(hslot i x hx k y hy).2⟩) hnn hys
   have hN:∀nv,bG Un st.rt id nv:=fun nv=>.inl hi.uid
   have hnl:n=es.length:=by simpa using fl.symm
   have harr:arr.size=n*ei.size:=by rw[←hf2.1,pH hses,hnl]
   have hyg:∀(j:Nat) x,ys[j]?=some x→∃y,es[j]?=some y:=fun j x hx=>by
    have:=(cd.1 hx).1
    exact⟨_,d5 (by omega)⟩
   have hyr:∀(i:Nat) (x y:V),ys[i]?=some x→es[i]?=some y→aM w ρ1 rt1 (fun k=>some (id,[(i,k)])) x (fc y (fun k=>arr.getD (i*ei.size+k) undef))∧nh x∧al x=al y∧(cells x).length=(cells y).length:=by
    intro i x y hx hy
    have:=yr i x y hx hy
    rw[List.getD_eq_getElem?_getD,hy,Nat.zero_add] at this
    exact⟨this.1,this.2.1,this.2.2.1,this.2.2.2.1⟩
   refine⟨.slice (some ⟨w.heap.size,0,none⟩) n n,w.alloc (.cells arr e),?_,gW ρ1 w.heap.size (id,[]),?_,aM.mk1 rfl (Gn rfl (Nat.le_refl _) (by rw[harr];exact Nat.le_refl _)),jI A H J T hr hL hm hi⟩
   ·have hnot:¬(16777216<n*ei.size):=by omega
    simp only[execOp,ho,Instr.buildSlice,Sem.run_bind,run_underlying hu,Result.andThen,eR A hei,Sem.run_pure,hparts]
    rw[if_neg (by simpa using hnot)]
    by_cases h0:n*ei.size=0
    ·have hf1':Instr.fill (fun i=>some (i*ei.size,ei.size)) (Array.map (fun x=>(#[]:Array Value)[x % 0]!) (Array.range (n*ei.size))) (List.map (fun x=>(x.fst,a.eval x.snd)) ps.toList)=some arr:=by
      rw[←hf1]
      congr 1
      simp[h0,madeCells]
     simp only[if_pos h0,Sem.run_bind,Sem.run_pure,Result.andThen,Array.size_empty,hf1',newRow,run_newObj,World.alloc]
    ·have hf1':Instr.fill (fun i=>some (i*ei.size,ei.size)) (Array.map (fun x=>ei.zv.cells[x % ei.zv.cells.size]!) (Array.range (n*ei.size))) (List.map (fun x=>(x.fst,a.eval x.snd)) ps.toList)=some arr:=hf1
     simp only[if_neg h0,Sem.run_bind,lh A hei w,Sem.run_pure,Result.andThen,hf1',newRow,run_newObj,World.alloc]
   ·refine Abs.newRoot (w':=w.alloc (.cells arr e)) (es:=ys) (T:=e) (g:=fun i k=>arr.getD (i*ei.size+k) undef) ab hi.p ?_ dA hN rfl rfl rfl rfl ?_ ?_ ?_ ?_
    ·rintro o l (h | ⟨h,i,k,_,h'⟩)
     ·exact .inl h
     ·refine .inr ⟨h,?_⟩
      rintro rfl
      simp at h'
    ·intro j x hx
     obtain⟨y,hy⟩:=hyg j x hx
     rw[(hyr j x y hx hy).2.2.2]
     exact hses y (ii hy)
    ·intro j x k c hx hcx
     obtain⟨y,hy⟩:=hyg j x hx
     have hk:=(cd.1 hcx).1
     rw[(hyr j x y hx hy).2.2.2] at hk
     exact (hslot j y hy k _ (d5 hk)).1
    ·intro j x k c hx hcx
     obtain⟨y,hy⟩:=hyg j x hx
     obtain⟨h1,h2,h3,h4⟩:=hyr j x y hx hy
     exact Mj h1 h3 h4 k c hcx
    ·refine cZ.2 fun x hx=>?_
     obtain⟨j,hj⟩:=List.mem_iff_getElem?.1 hx
     obtain⟨y,hy⟩:=hyg j x hj
     exact (hyr j x y hj hy).2.1
  ·cases h
 ·cases h
end
end
section
variable {w w' : World} {ρ ρ' ρ'' : bg} {rt rt' rt'' : ai} {N : Nat→Nat→Prop}
theorem DV {o:Nat}{p0:List (Nat×Nat)}{s:Nat}{es es':List V}(h:bW w ρ rt (o,p0) s es)(hl:es'.length=es.length)(hs:∀(i:Nat) (e':V),es'[i]?=some e'→(cells e').length=s)(hB:∀b arr T,ρ b=some (o,p0)→w.heap[b]?=some (.cells arr T (0,0))→∃arr',ρ' b=some (o,p0)∧w'.heap[b]?=some (.cells arr' T (0,0))∧∀(i:Nat) (e':V) k y,es'[i]?=some e'→(cells e')[k]?=some y→∃z,arr'[i*s+k]?=some z∧RepV w' ρ' rt' (some (o,p0++[(i,k)])) y z) :
  bW w' ρ' rt' (o,p0) s es':=by
 rcases h with rfl | ⟨b,arr,T,g,h1,h2,h3,h4,h5⟩
 ·exact .inl (List.length_eq_zero_iff.1 (by simpa using hl))
 ·obtain⟨arr',q1,q2,q3⟩:=hB b arr T h1 h2
  refine .inr ⟨b,arr',T,fun i k=>arr'.getD (i*s+k) undef,q1,q2,hs,fun i e k x he hx=>?_,fun i e k x he hx=>?_⟩
  ·obtain⟨z,hz,_⟩:=q3 i e k x he hx
   have hlt:=(pW.1 hz).1
   simp[Array.getD,hlt]
  ·obtain⟨z,hz,hr⟩:=q3 i e k x he hx
   obtain⟨hlt,e1⟩:=pW.1 hz
   simp only[Array.getD,hlt,dif_pos,cS.at]
   rw[show arr'.getInternal (i*s+k) hlt=z from e1]
   exact hr
def under (p:List (Nat×Nat))(i k n:Nat)(l:List (Nat×Nat)):Prop:=∃j t,j<n∧l=p++(i,k+j)::t
open Classical in
noncomputable def jt (ρ:bg)(q o:Nat)(p:List (Nat×Nat))(i k n:Nat):bg:=fun b=>
 match ρ b with
 | none=>none
 | some (o',l)=>if o'=q then (match l with
  | (_,j)::t=>some (o,p++(i,k+j)::t)
  | []=>none) else if o'=o∧under p i k n l then none else some (o',l)
theorem Hl {q o p i k n b}(h:ρ b=none):jt ρ q o p i k n b=none:=by simp[jt,h]
theorem GF {q o p i k n b i0 j t}(h:ρ b=some (q,(i0,j)::t)):jt ρ q o p i k n b=some (o,p++(i,k+j)::t):=by simp[jt,h]
theorem gL {q o p i k n b o' l}(h:ρ b=some (o',l))(hq:o'≠q)(hu:¬(o'=o∧under p i k n l)):jt ρ q o p i k n b=some (o',l):=by
 simp only[jt,h,hq,if_false]
 rw[if_neg hu]
theorem mK {q o p i k n b o' l}(h:jt ρ q o p i k n b=some (o',l)):(∃i0 j t,ρ b=some (q,(i0,j)::t)∧o'=o∧l=p++(i,k+j)::t)∨(o'≠q∧ρ b=some (o',l)∧¬(o'=o∧under p i k n l)):=by
 unfold jt at h
 split at h
 ·cases h
 ·rename_i o1 l1 hb
  split at h
  ·rename_i hq
   subst hq
   split at h
   ·rename_i i0 j t
    cases h
    exact .inl ⟨i0,j,t,hb,rfl,rfl⟩
   ·cases h
  ·rename_i hq
   split at h
   ·cases h
   ·rename_i hu
    cases h
    exact .inr ⟨hq,hb,hu⟩
theorem Ii {xs ys:List V}{k n k':Nat}(hn:ys.length=n)(hk:k+n≤xs.length):(xs.take k++ys++xs.drop (k+n))[k']?=if k≤k'∧k'<k+n then ys[k' - k]? else xs[k']?:=by
 split
 ·rename_i h
  rw[List.append_assoc,mY (by simp;omega),lm (by simp;omega)]
  congr 1
  simp
  omega
 ·rename_i h
  by_cases h2:k'<k
  ·rw[List.append_assoc,lm (by simp;omega),List.getElem?_take,if_pos h2]
  ·rw[mY (by simp;omega),List.getElem?_drop]
   congr 1
   simp
   omega
theorem yF {xs ys:List Value}{k n k':Nat}(hn:ys.length=n)(hk:k+n≤xs.length):(xs.take k++ys++xs.drop (k+n))[k']?=if k≤k'∧k'<k+n then ys[k' - k]? else xs[k']?:=by
 split
 ·rename_i h
  rw[List.append_assoc,mY (by simp;omega),lm (by simp;omega)]
  congr 1
  simp
  omega
 ·rename_i h
  by_cases h2:k'<k
  ·rw[List.append_assoc,lm (by simp;omega),List.getElem?_take,if_pos h2]
  ·rw[mY (by simp;omega),List.getElem?_drop]
   congr 1
   simp
   omega
def kK (e:V)(k n:Nat)(ys:List V):V:=
 let cs':=(cells e).take k++ys++(cells e).drop (k+n)
 if al e then .agg cs' else cs'.headD .dead
theorem GC {e:V}{k n k':Nat}{ys:List V}(hn:ys.length=n)(hk:k+n≤(cells e).length)(h0:0<n)(hc:ys.all eP=true):(cells (kK e k n ys))[k']?=if k≤k'∧k'<k+n then ys[k' - k]? else (cells e)[k']?:=by
 unfold kK
 by_cases ha:al e=true
 ·simp only[ha,if_true]
  exact Ii hn hk
 ·have ha':al e=false:=by simpa using ha
  have hce:=bw ha'
  rw[hce] at hk
  have hk0:k=0:=by simp at hk;omega
  have hn1:n=1:=by simp at hk;omega
  subst hk0
  match ys,hn with
  | [y],hn=>
   subst hn1
   have hy:eP y=true:=by simpa using hc
   have hya:al y=false:=by cases y<;>first | rfl | exact absurd hy (by simp[eP])
   simp only[ha',hce]
   simp only[List.take_zero,List.nil_append,List.cons_append,Bool.false_eq_true,if_false,List.headD_cons,bw hya]
   cases k'<;>simp
  | [],hn=>simp at hn;omega
  | _::_::_,hn=>simp at hn;omega
theorem GD {e:V}{k n:Nat}{ys:List V}(hn:ys.length=n)(hk:k+n≤(cells e).length)(h0:0<n)(hc:ys.all eP=true):(cells (kK e k n ys)).length=(cells e).length:=by
 unfold kK
 by_cases ha:al e=true
 ·simp only[ha,if_true]
  rw[show ∀cs,cells (.agg cs)=cs from fun _=>rfl]
  simp[hn]
  omega
 ·have ha':al e=false:=by simpa using ha
  have hce:=bw ha'
  rw[hce] at hk
  have hk0:k=0:=by simp at hk;omega
  have hn1:n=1:=by simp at hk;omega
  subst hk0
  match ys,hn with
  | [y],hn=>
   subst hn1
   have hy:eP y=true:=by simpa using hc
   have hya:al y=false:=by cases y<;>first | rfl | exact absurd hy (by simp[eP])
   simp only[ha',hce]
   simp[bw hya]
  | [],hn=>simp at hn;omega
  | _::_::_,hn=>simp at hn;omega
theorem Hk {e:V}{k n:Nat}{ys:List V}(he:nh e)(hy:nhs ys):nh (kK e k n ys):=by
 have hcs:nhs ((cells e).take k++ys++(cells e).drop (k+n)):=cZ.2 fun x hx=>by
  have h1:=cZ.1 (sN he)
  simp only[List.mem_append] at hx
  rcases hx with (hx | hx) | hx
  ·exact h1 x (List.mem_of_mem_take hx)
  ·exact cZ.1 hy x hx
  ·exact h1 x (List.mem_of_mem_drop hx)
 unfold kK
 simp only
 split
 ·simpa[nh] using hcs
 ·cases h:((cells e).take k++ys++(cells e).drop (k+n)) with
  | nil=>simp[nh]
  | cons x xs=>rw[h] at hcs;exact hcs.1
section
variable {P : Program} {E : Env} (A : Agree P E) {st : St} {a : Act} {o : Oper} (H : et w ρ st.rt) (J : eM ρ) (T : ji w ρ st.rt st.tm a.tmps) (hr : gE st.rt) (hL : Lab w ρ st.rt jA) {Un : Nat→Prop} {id : Nat} (hm : wu (bG Un st.rt) st.tm) (hi : Fresh Un st.rt id)
include A H J T hr hL hm hi
theorem Qp {t:TypeId}{p x:Operand}{v:V}{rt':ai}(ho:o.op=.store t p x)(h:aX E id st o.op=some (v,rt')) :
  ∃w',(execOp a.eval o).run P w=.ok .skip w'∧pD Un w ρ st.rt id v rt' undef w':=by
 rw[ho] at h
 simp only[aX,aG,aI] at h
 obtain⟨pv,hp,xv,hx,rt2,h,hh⟩:=h
 cases hh
 unfold mP at h
 split at h
 ·rename_i o1 nv path s i k
  simp only[aG] at h
  obtain⟨ti,hti,⟨y,rt1⟩,hy,h⟩:=h
  split at h
  ·rename_i hc
   obtain⟨c1,c2,c0⟩:=hc
   simp only at c1 c2
   simp only[aG] at h
   obtain⟨r,hval,⟨s1,z⟩,hz,h⟩:=h
   split at h
   ·rename_i hs1
    simp only at hs1
    subst hs1
    simp only[aG] at h
    obtain⟨e,he,h⟩:=h
    split at h
    ·rename_i hk
     simp only[aI] at h
     obtain⟨es,hes,h⟩:=h
     have dA:=hi.at
     obtain⟨ρ1,ab,sl,yn,ya,yl,yc⟩:=uE (N:=bG Un st.rt) (i:=0) H J hr hL (q:=id) (fun j l h=>absurd hi.p (by simp only[jA] at h;omega)) (Nat.ne_of_gt hi.p) dA (cg T hx) (gf hm hx) hy
     have hnp:=gf hm hp
     simp only[an] at hnp
     obtain⟨hro,hvv⟩:=d8 hval
     have hlive1:b8 rt1 o1 nv path:=by simp[b8,bD,hval,hz]
     obtain⟨hlive,hkb⟩:=ab.keep.k2 o1 nv path hnp hlive1
     have hpr:=aM.one rfl (cg T hp)
     have hne:o1≠id:=by
      rintro rfl
      rw[ab.gone dA] at hro
      cases hro
     obtain⟨b,n,hb,hbl,hu⟩:∃b n,ρ b=some (o1,path)∧km w b n∧a.eval p=.pointer (some ⟨b,i*s1+k,none⟩):=by
      generalize a.eval p=up at hpr
      cases hpr with
      | hp _ _ _ _ _ _ _ _ hh _=>exact hh hlive
     obtain⟨hb1,arr,TT,hbb,hsz⟩:=hkb b n hb hbl
     have hrow:=jL (p0:=[]) (ab.rok o1 r hro) hz
     simp only[List.nil_append] at hrow
     have hzn:nhs z:=iY (ab.rtn o1 r hro) hz
     have hen:=cp hzn he
     have hil:=(cd.1 he).1
     obtain⟨g,hg⟩:∃g:Nat→Nat→Value,(∀(i:Nat) (e:V),z[i]?=some e→(cells e).length=s1)∧(∀(i:Nat) (e:V) k x,z[i]?=some e→(cells e)[k]?=some x→arr[i*s1+k]?=some (g i k))∧
       (∀(i:Nat) (e:V) k x,z[i]?=some e→(cells e)[k]?=some x→RepV w ρ1 rt1 (some (o1,path++[(i,k)])) x (g i k)):=by
      rcases hrow with rfl | ⟨b',arr',T',g,h1,h2,h3,h4,h5⟩
      ·simp at he
      ·have:=ab.inj b b' _ hb1 h1
       subst this
       rw[hbb] at h2
       cases h2
       exact⟨g,h3,h4,h5⟩
     obtain⟨hg1,hg2,hg3⟩:=hg
     have hes1:=hg1 i e he
     -- what is written
     have hcu:∀(j:Nat) c,(cells y)[j]?=some c→(a.eval x).cells[j]?=some ((a.eval x).cells.getD j undef)∧RepV w ρ1 rt1 (some (id,[(0,j)])) c ((a.eval x).cells.getD j undef):=fun j c hj=>B9 sl yc hj
     have hun:(a.eval x).cells.size=ti.size:=by
      obtain⟨g',_,hg',_⟩:=nO sl yc
      rw[hg',I9]
      exact c1
     have hone:∀u∈(a.eval x).cells.toList,u.oneCell'=true:=by
      intro u hu'
      obtain⟨j,hj⟩:=List.mem_iff_getElem?.1 hu'
      have hjl:=(cd.1 hj).1
      simp only[Array.length_toList,hun] at hjl
      have hcj:(cells y)[j]?=some ((cells y)[j]'(by omega)):=d5 _
      obtain⟨q1,q2⟩:=hcu j _ hcj
      simp only[Array.getElem?_toList] at hj
      rw[hj] at q1
      have:=rD q2 (List.all_eq_true.1 yc _ (ii hcj))
      rw[←Option.some.inj q1] at this
      cases u<;>first | rfl | exact this.elim
     have hfit:i*s1+k+ti.size≤arr.size:=by
      have:(cells e)[k+ti.size - 1]?=some ((cells e)[k+ti.size - 1]'(by omega)):=d5 _
      have:=(pW.1 (hg2 i e _ _ he this)).1
      omega
     have hrun:=run_storeCells_at P b (i*s1+k) TT (a.eval x).cells.toList 0 arr w hbb (by simp[hun];omega) hone
     simp only[Nat.add_zero,Array.length_toList,hun] at hrun
     generalize harr':(arr.toList.take (i*s1+k)++(a.eval x).cells.toList++arr.toList.drop (i*s1+k+ti.size)).toArray=arr' at hrun
     have hget':∀j,arr'[j]?=if i*s1+k≤j∧j<i*s1+k+ti.size then (a.eval x).cells[j - (i*s1+k)]? else arr[j]?:=fun j=>by
      rw[←harr',List.getElem?_toArray,yF (n:=ti.size) (by simp[hun]) (by simpa using hfit)]
      simp
     have hsz':arr'.size=arr.size:=by rw[←harr'];simp[hun];omega
     have hw1:=setRow_heap w b arr arr' TT (0,0) hbb
     have hw2:∀c,c≠b→(w.setRow b arr').heap[c]?=w.heap[c]?:=fun c hc=>setRow_other w b c arr' hc
     refine⟨w.setRow b arr',?_,jt ρ1 id o1 path i k ti.size,?_,aM.mk1 rfl (.und _),by simp[an]⟩
     ·have hsz2:(sizeOf t).run P w=.ok ti.size w:=eR A hti w
      simp only[execOp,ho,hu,Instr.storeAt,Instr.sureAddr,storeVar,Sem.run_bind,Sem.run_pure,Result.andThen,hsz2,hun]
      simp[hrun]
     -- the store behind it
     generalize hnv':(if (((((cells e).drop k).take ti.size).all cl&&(cells y).all cl)=true) then r.nv else r.nv+1)=nv' at h
     have hpc:(if al e=true then V.agg ((cells e).take k++cells y++(cells e).drop (k+ti.size)) else ((cells e).take k++cells y++(cells e).drop (k+ti.size)).headD .dead)=kK e k ti.size (cells y):=rfl
     simp only[hpc] at hes
     have hk':k+ti.size≤(cells e).length:=hk
     subst h
     generalize hE:kK e k ti.size (cells y)=e' at hes
     have hel:(cells e').length=(cells e).length:=by rw[←hE];exact GD c1 hk' c0 yc
     have heg:∀k',(cells e')[k']?=if k≤k'∧k'<k+ti.size then (cells y)[k' - k]? else (cells e)[k']?:=fun k'=>by rw[←hE];exact GC c1 hk' c0 yc
     have hen':nh e':=by rw[←hE];exact Hk hen (sN yn)
     have hlabid:∀c l,ρ1 c=some (id,l)→∃j t,l=(0,j)::t∧j<ti.size:=by
      intro c l hl
      rcases (ab.lab c id l hl).2 with (h1 | ⟨_,j,h1,t,h2⟩) | ⟨r,h1⟩
      ·exact absurd hi.p (by simp only[jA] at h1;omega)
      ·refine⟨j,t,by rw[←h2];simp,by rw[←c1,yl];exact h1⟩
      ·rw[ab.gone dA] at h1;cases h1
     have ho0:0≠o1:=by rintro rfl;rw[ab.lab.z] at hro;cases hro
     have hund:∀l,¬path <+: l→¬under path i k ti.size l:=by
      rintro l hl ⟨j,t,_,rfl⟩
      exact hl (List.prefix_append _ _)
     have hneb:∀c l,ρ1 c=some (o1,l)→l≠path→c≠b:=by
      rintro c l h1 h2 rfl
      rw[hb1] at h1
      cases h1
      exact h2 rfl
     have hneb':∀c o' l,ρ1 c=some (o',l)→o'≠o1→c≠b:=by
      rintro c o' l h1 h2 rfl
      rw[hb1] at h1
      cases h1
      exact h2 rfl
     have hselfu:¬under path i k ti.size path:=by
      rintro⟨j,t,_,h1⟩
      have:=congrArg List.length h1
      simp at this
     have blk:∀c n,km w c n→km (w.setRow b arr') c n:=by
      intro c n hcb
      by_cases hcb2:c=b
      ·subst hcb2
       obtain⟨arr2,T2,q1,q2⟩:=hcb
       rw[hbb] at q1
       cases q1
       exact⟨arr',_,hw1,by rw[hsz',q2]⟩
      ·obtain⟨arr2,T2,q1,q2⟩:=hcb
       exact⟨arr2,T2,by rw[hw2 c hcb2];exact q1,q2⟩
     have K:Keep (bG Un st.rt) w ρ1 rt1 (w.setRow b arr') (jt ρ1 id o1 path i k ti.size) (upd rt1 o1 (some { nv:=nv',s:=r.s,es:=es })):=by
      refine⟨fun c hc hlt=>⟨Hl hc,hw2 c (by rintro rfl;rw[hb1] at hc;cases hc)⟩,fun o' nv2 p' hN hl=>?_,fun c l hc=>⟨gL hc (by have:=hi.p;omega) (by simp[ho0]),hw2 c (hneb' _ _ _ hc ho0)⟩⟩
      by_cases ho':o'=o1
      ·subst ho'
       have hl2:(p'=[]∨nv'=nv2)∧(aU p' r.s es).isSome=true:=by
        unfold b8 bD at hl
        cases hvv':bA (upd rt1 o' (some { nv:=nv',s:=r.s,es:=es })) o' nv2 p' with
        | none=>simp[hvv'] at hl
        | some r2=>
         obtain⟨h1,h2⟩:=d8 hvv'
         simp[upd] at h1
         subst h1
         simp only[hvv',cm] at hl
         exact⟨h2,hl⟩
       have hnb:nv2≤r.nv:=by
        obtain⟨r0,h1,h2,_⟩:=ab.nv o' r hro
        rw[h2]
        exact Nat.le_of_not_lt fun hlt=>hN (.inr ⟨r0,h1,hlt⟩)
       have key:b8 rt1 o' nv2 p'∧¬under path i k ti.size p':=by
        by_cases hp':p'=[]
        ·subst hp'
         refine⟨by simp[b8,bD,bA,hro,aU],?_⟩
         rintro⟨j,t,_,h1⟩
         have:=congrArg List.length h1
         simp at this
        ·have hnv2:=hl2.1.resolve_left hp'
         split at hnv'
         ·rename_i hpl
          simp only[Bool.and_eq_true] at hpl
          have hyp:∀(j:Nat) c,(cells y)[j]?=some c→cl c=true:=fun j c hj=>List.all_eq_true.1 hpl.2 c (ii hj)
          have hnewrow:∀t,(aU t s1 (z.set i e')).isSome=true→(aU t s1 z).isSome=true∧¬under [] i k ti.size t:=by
           intro t ht
           match t,ht with
           | [],_=>exact⟨by simp[aU],by rintro⟨j,t,_,h1⟩;cases h1⟩
           | (i',k')::t',ht=>
            simp only[aU] at ht ⊢
            by_cases hii:i'=i
            ·subst hii
             simp only[List.getElem?_set_self hil,heg] at ht
             by_cases hin:k≤k'∧k'<k+ti.size
             ·simp only[hin,and_self,if_true] at ht
              cases hcy:(cells y)[k' - k]? with
              | none=>simp[hcy] at ht
              | some c=>
               simp only[hcy] at ht
               have:=hyp _ c hcy
               cases c<;>first | (simp at ht;done) | (simp[cl] at this;done)
             ·simp only[hin,if_false] at ht
              refine⟨by simpa[he] using ht,?_⟩
              rintro⟨j,t,hj,h1⟩
              simp at h1
              omega
            ·rw[List.getElem?_set_ne (by omega)] at ht
             refine⟨ht,?_⟩
             rintro⟨j,t,hj,h1⟩
             simp at h1
             exact hii h1.1.1
          have h1:=sJ (fun t ht=>(hnewrow t ht).1) hz hes hl2.2
          refine⟨by simp[b8,bD,bA,hro,hnv2▸hnv',h1],?_⟩
          rintro⟨j,t,hj,rfl⟩
          have:=hl2.2
          rw[jK hz hes] at this
          exact (hnewrow _ this).2 ⟨j,t,hj,rfl⟩
         ·exfalso
          omega
       refine⟨key.1,fun c n hc hcb=>⟨gL hc hne (by simp[key.2]),blk c n hcb⟩⟩
      ·refine⟨by simpa[b8,bD,bA,upd,ho'] using hl,fun c n hc hcb=>?_⟩
       have ho2:o'≠id:=by
        rintro rfl
        exact hN (.inl hi.uid)
       exact⟨gL hc ho2 (by simp[ho']),blk c n hcb⟩
     have hnewR:bW (w.setRow b arr') (jt ρ1 id o1 path i k ti.size) (upd rt1 o1 (some { nv:=nv',s:=r.s,es:=es })) (o1,path) s1 (z.set i e'):=by
      refine DV (jL (p0:=[]) (ab.rok o1 r hro) hz) (by simp) ?_ ?_
      ·intro i' x' hx'
       by_cases hii:i'=i
       ·subst hii
        rw[List.getElem?_set_self hil] at hx'
        cases hx'
        rw[hel];exact hes1
       ·rw[List.getElem?_set_ne (by omega)] at hx'
        exact hg1 _ _ hx'
      ·intro b2 arr2 T2 hb2 hh2
       have:=ab.inj b b2 _ hb1 hb2
       subst this
       rw[hbb] at hh2
       cases hh2
       refine⟨arr',gL hb1 hne (by simp[hselfu]),hw1,?_⟩
       have old:∀(i' k':Nat) x' c,z[i']?=some x'→(cells x')[k']?=some c→¬(i'=i∧k≤k'∧k'<k+ti.size)→∃u,arr'[i'*s1+k']?=some u∧RepV (w.setRow b arr') (jt ρ1 id o1 path i k ti.size) (upd rt1 o1 (some { nv:=nv',s:=r.s,es:=es })) (some (o1,path++[(i',k')])) c u:=by
        intro i' k' x' c hx' hc' hnin
        refine⟨g i' k',?_,?_⟩
        ·rw[hget',if_neg]
         ·exact hg2 i' x' k' c hx' hc'
         ·rintro⟨q1,q2⟩
          have hk1:=(cd.1 hc').1
          rw[hg1 i' x' hx'] at hk1
          by_cases hii:i'=i
          ·subst hii
           exact hnin ⟨rfl,by omega,by omega⟩
          ·rcases Nat.lt_or_gt_of_ne hii with h1 | h1
           ·have:(i'+1)*s1≤i*s1:=Nat.mul_le_mul_right _ h1
            rw[Nat.succ_mul] at this
            omega
           ·have:(i+1)*s1≤i'*s1:=Nat.mul_le_mul_right _ h1
            rw[Nat.succ_mul] at this
            omega
        ·refine RepV.under K (fun c' l hl hpre=>?_) (hg3 i' x' k' c hx' hc') (bC (cp hzn hx') hc')
         obtain⟨t,rfl⟩:=hpre
         refine⟨gL hl hne ?_,hw2 _ (hneb _ _ hl (by intro hq;have:=congrArg List.length hq;simp at this))⟩
         rintro⟨_,j,t',hj,h1⟩
         simp only[List.append_assoc,List.cons_append,List.nil_append,List.append_cancel_left_eq] at h1
         injection h1 with h1 _
         injection h1 with h1 h2
         exact hnin ⟨h1,by omega,by omega⟩
       intro i' x' k' c hx' hc'
       by_cases hii:i'=i
       ·subst hii
        rw[List.getElem?_set_self hil] at hx'
        cases hx'
        rw[heg] at hc'
        split at hc'
        ·rename_i hin
         obtain⟨q1,q2⟩:=hcu _ c hc'
         refine⟨_,by rw[hget',if_pos (by omega),show i'*s1+k' - (i'*s1+k)=k' - k by omega];exact q1,?_⟩
         have:=q2.mono K (fun l=>(o1,path++match l.2 with
           | (_,j)::t=>(i',k+j)::t
           | []=>[])) (fun l=>l.1=id∧∃t,l.2=(0,k' - k)::t)
          (fun l i2 k2 hl=>by
           obtain⟨_,t,ht⟩:=hl
           simp[cS.at,ht])
          (fun l i2 k2 hl=>⟨hl.1,by obtain⟨_,t,ht⟩:=hl;exact⟨t++[(i2,k2)],by simp[cS.at,ht]⟩⟩)
          (fun c' l hl hcl=>by
           obtain⟨l1,l2⟩:=l
           obtain⟨rfl,t,ht⟩:=hl
           simp only at ht
           subst ht
           exact⟨GF hcl,hw2 _ (hneb' _ _ _ hcl (Ne.symm hne))⟩)
          (fun l hl=>by cases hl;exact⟨rfl,[],rfl⟩) (cz (bC yn hc'))
         simp only[Option.map_some] at this
         rwa[show k+(k' - k)=k' by omega] at this
        ·rename_i hin
         exact old i' k' e c he hc' (by rintro⟨_,h2⟩;exact hin h2)
       ·rw[List.getElem?_set_ne (by omega)] at hx'
        exact old i' k' x' c hx' hc' (by rintro⟨h1,_⟩;exact hii h1)
     have J':eM (jt ρ1 id o1 path i k ti.size):=by
      rintro c c' ⟨o',l⟩ h1 h2
      rcases mK h1 with⟨i0,j,t,q1,q2,q3⟩ | ⟨q1,q2,q3⟩<;>rcases mK h2 with⟨i0',j',t',r1,r2,r3⟩ | ⟨r1,r2,r3⟩
      ·subst q3
       simp only[List.append_cancel_left_eq] at r3
       injection r3 with r3 r4
       injection r3 with r3 r5
       subst r4
       have:j=j':=by omega
       subst this
       obtain⟨_,_,e1,_⟩:=hlabid _ _ q1
       obtain⟨_,_,e2,_⟩:=hlabid _ _ r1
       cases e1
       cases e2
       exact ab.inj _ _ _ q1 r1
      ·exfalso
       obtain⟨j2,t2,e1,e2⟩:=hlabid _ _ q1
       cases e1
       exact r3 ⟨q2,j,t,e2,q3⟩
      ·exfalso
       obtain⟨j2,t2,e1,e2⟩:=hlabid _ _ r1
       cases e1
       exact q3 ⟨r2,j',t',e2,r3⟩
      ·exact ab.inj _ _ _ q2 r2
     refine⟨?_,J',?_,ab.keep.trans K (Nat.le_refl _),?_,⟨rfl,rfl,rfl,by simp,blk⟩,?_,fun c l hc=>ab.f0 c l (by
      rcases mK hc with⟨_,_,_,_,q2,_⟩ | ⟨_,q2,_⟩
      ·exact absurd q2 ho0
      ·exact q2)⟩
     ·intro o' r' hr'
      by_cases ho':o'=o1
      ·subst ho'
       simp[upd] at hr'
       subst hr'
       refine oh (p0:=[]) K J' (by simp) (ab.rok o' r hro) (ab.rtn o' r hro) hz hes (fun c l hc _ hl=>?_) (fun c arr2 T2 hc hh=>?_) (by simpa using hnewR)
       ·simp only[List.nil_append] at hl
        exact⟨gL hc hne (by rintro⟨_,h2⟩;exact hund l hl h2),hw2 _ (hneb _ _ hc (by rintro rfl;exact hl (List.prefix_refl _)))⟩
       ·simp only[List.nil_append] at hc
        have:=ab.inj b c _ hb1 hc
        subst this
        rw[hbb] at hh
        cases hh
        exact⟨gL hb1 hne (by simp[hselfu]),arr',_,hw1,hsz'⟩
      ·simp[upd,ho'] at hr'
       have ho2:o'≠id:=by
        rintro rfl
        rw[ab.gone dA] at hr'
        cases hr'
       exact bW.under K (fun c l hc _=>⟨gL hc ho2 (by simp[ho']),hw2 _ (hneb' _ _ _ hc ho')⟩) (ab.rok o' r' hr') (ab.rtn o' r' hr')
     ·intro o' r' hr'
      by_cases ho':o'=o1
      ·simp[upd,ho'] at hr'
       subst hr'
       exact ml (B7 hzn hen') (ab.rtn o1 r hro) hes
      ·simp[upd,ho'] at hr'
       exact ab.rtn o' r' hr'
     ·refine⟨fun c o' l hc=>?_,by simp[upd,ho0,ab.lab.z],fun c l hc=>?_⟩
      rotate_left
      ·rcases mK hc with⟨_,_,_,_,q2,_⟩ | ⟨_,q2,_⟩
       ·exact absurd q2 ho0
       ·exact ab.lab.f _ _ q2
      rcases mK hc with⟨i0,j,t,q1,q2,q3⟩ | ⟨q1,q2,q3⟩
      ·refine⟨by simpa using (ab.lab _ _ _ q1).1,.inr ?_⟩
       rw[q2]
       exact⟨{ nv:=nv',s:=r.s,es:=es },by simp[upd]⟩
      ·refine⟨by simpa using (ab.lab _ _ _ q2).1,?_⟩
       by_cases ho':o'=o1
       ·exact .inr ⟨{ nv:=nv',s:=r.s,es:=es },by simp[upd,ho']⟩
       ·rcases (ab.lab _ _ _ q2).2 with (h4 | ⟨h4,_⟩) | ⟨r2,h4⟩
        ·exact .inl h4
        ·exact absurd h4 q1
        ·exact .inr ⟨r2,by simp[upd,ho',h4]⟩
     ·intro o' r' hr'
      by_cases ho':o'=o1
      ·simp[upd,ho'] at hr'
       subst hr'
       subst ho'
       obtain⟨r0,h1,h2,_⟩:=ab.nv o' r hro
       refine .inl ⟨r0,h1,?_⟩
       have h2':r.nv=r0.nv:=h2
       have h3:r.nv≤nv':=by
        rw[←hnv']
        split
        ·exact Nat.le_refl _
        ·exact Nat.le_succ _
       exact h2'▸h3
      ·simp[upd,ho'] at hr'
       obtain⟨r0,h1,h2,_⟩:=ab.nv o' r' hr'
       exact .inl ⟨r0,h1,by omega⟩
    ·cases h
   ·cases h
  ·cases h
 ·cases h
end
end
section
variable {w w' : World} {ρ ρ' ρ'' : bg} {rt rt' rt'' : ai} {N : Nat→Nat→Prop}
theorem pK:∀{vs:List V},fB vs=vs.map ez
 | []=>rfl
 | v::vs=>by simp[fB,pK]
theorem uI {e:V}:cells (ez e)=(cells e).map ez:=by
 cases e<;>simp[ez,cells,pK]
theorem lY {vs:List V}{i:Nat}:(fB vs)[i]?=(vs[i]?).map ez:=by rw[pK,List.getElem?_map]
theorem sE {vs:List V}:(fB vs).length=vs.length:=by rw[pK,List.length_map]
theorem np {e:V}{k:Nat}:(cells (ez e))[k]?=((cells e)[k]?).map ez:=by rw[uI,List.getElem?_map]
mutual
theorem Gf:∀{v:V},nh v→nh (ez v)
 | .und,_=>by simp[ez,nh]
 | .dead,_=>by simp[ez,nh]
 | .bool _,_=>by simp[ez,nh]
 | .int _ _,_=>by simp[ez,nh]
 | .str _,_=>by simp[ez,nh]
 | .nilp,_=>by simp[ez,nh]
 | .nilfn,_=>by simp[ez,nh]
 | .nilif,_=>by simp[ez,nh]
 | .fn _ cs,h=>by simpa[ez] using h
 | .iface _ v,h=>by simpa[ez] using h
 | .agg cs,h=>by simp only[ez,nh] at h ⊢;exact vT h
 | .tup cs,h=>by simpa[ez] using h
 | .iptr e _,h=>by simpa[ez] using h
 | .isl _ es,h=>by simpa[ez] using h
 | .uptr e,h=>by simp only[ez,nh] at h ⊢;exact Gf h
 | .usl _ es,h=>by simp only[ez,nh] at h ⊢;exact vT h
 | .hp _ _ _ _ _ _,h=>by simp[nh] at h
 | .hs _ _ _ _ _ _,h=>by simp[nh] at h
theorem vT:∀{vs:List V},nhs vs→nhs (fB vs)
 | [],_=>by simp[fB,nhs]
 | v::vs,h=>by simp only[fB,nhs] at h ⊢;exact⟨Gf h.1,vT h.2⟩
end
def notOwn:V→Prop
 | .usl _ _=>False
 | .uptr _=>False
 | _=>True
theorem RepV.any {L L':Option cS}{v:V}{u:Value}(h:RepV w ρ rt L v u)(hv:notOwn v):RepV w ρ rt L' v u:=h.place (by cases v<;>first | trivial | exact hv.elim)
theorem RepV.notOwn {v:V}{u:Value}(h:RepV w ρ rt none v u):notOwn v:=by cases h<;>trivial
theorem RepV.anyN {L':Option cS}{v:V}{u:Value}(h:RepV w ρ rt none v u):RepV w ρ rt L' v u:=h.any h.notOwn
theorem RepV.freeze (K:Keep N w ρ rt w' ρ' rt'){o:Nat}{L:Option cS}{v:V}{u:Value}(h:RepV w ρ rt L v u):∀q,L=some (o,q)→(∀b l,ρ b=some (o,l)→q <+: l→ρ' b=none∧b<w'.heap.size∧w'.heap[b]?=w.heap[b]?)→nh v→RepV w' ρ' rt' none (ez v) u:=by
 induction h with
 | usl0 l s A=>exact fun q _ _ _=>by simpa[ez,fB] using RepV.isl0 (w:=w') (ρ:=ρ') (rt:=rt') none false A 0 (by simp)
 | usl l s es b A c arr T g hρ hb hl hA hcap hs hc h ih=>
  intro q hL hF hn
  cases hL
  by_cases h0:es=[]
  ·subst h0
   simpa[ez,fB] using RepV.isl0 (w:=w') (ρ:=ρ') (rt:=rt') none false A c (by simp)
  ·have hpos:0<es.length:=List.length_pos_iff.2 h0
   obtain⟨f1,f2,f3⟩:=hF b q hρ (List.prefix_refl _)
   rw[hA (by omega)]
   simp only[ez]
   rw[←sE (vs:=es)]
   refine .isl _ (fB es) b 0 c s g (by rw[sE];exact hl) (by rw[sE];exact hpos) f1 f2 ?_ ?_ ?_
   ·intro i e he
    rw[lY] at he
    obtain⟨e0,he0,rfl⟩:=aI.1 he
    rw[uI,List.length_map]
    exact hs i e0 he0
   ·intro i e k x he hx
    rw[lY] at he
    obtain⟨e0,he0,rfl⟩:=aI.1 he
    rw[np] at hx
    obtain⟨x0,hx0,rfl⟩:=aI.1 hx
    rw[kC f3]
    simp only[World.cell?,hb,Nat.zero_add]
    exact hc i e0 k x0 he0 hx0
   ·intro i e k x he hx
    rw[lY] at he
    obtain⟨e0,he0,rfl⟩:=aI.1 he
    rw[np] at hx
    obtain⟨x0,hx0,rfl⟩:=aI.1 hx
    exact ih i e0 k x0 he0 hx0 (q++[(i,k)]) rfl (fun b l hb hp=>hF b l hb ((List.prefix_append _ _).trans hp)) (bC (cp (by simpa[nh] using hn) he0) hx0)
 | uptr l e b arr T g hρ hb hc h ih=>
  intro q hL hF hn
  cases hL
  obtain⟨f1,f2,f3⟩:=hF b q hρ (List.prefix_refl _)
  simp only[ez]
  refine .iptr _ (ez e) 0 b 0 g f2 f1 ?_ ?_
  ·intro j x hx
   rw[Nat.zero_add,np] at hx
   obtain⟨x0,hx0,rfl⟩:=aI.1 hx
   rw[kC f3]
   simp only[World.cell?,hb,Nat.zero_add]
   exact hc j x0 hx0
  ·intro j x hx
   rw[Nat.zero_add,np] at hx
   obtain⟨x0,hx0,rfl⟩:=aI.1 hx
   exact ih j x0 hx0 (q++[(0,j)]) rfl (fun b l hb hp=>hF b l hb ((List.prefix_append _ _).trans hp)) (bC (by simpa[nh] using hn) hx0)
 | und L=>exact fun _ _ _ _=>by simpa[ez] using RepV.und none
 | dead L u=>exact fun _ _ _ _=>by simpa[ez] using RepV.dead none u
 | bool L b=>exact fun _ _ _ _=>by simpa[ez] using RepV.bool none b
 | int L k n=>exact fun _ _ _ _=>by simpa[ez] using RepV.int none k n
 | str L s=>exact fun _ _ _ _=>by simpa[ez] using RepV.str none s
 | nilp L=>exact fun _ _ _ _=>by simpa[ez] using RepV.nilp none
 | nilfn L=>exact fun _ _ _ _=>by simpa[ez] using RepV.nilfn none
 | nilif L=>exact fun _ _ _ _=>by simpa[ez] using RepV.nilif none
 | fn L f caps g h ih=>exact fun _ _ _ hn=>by simpa[ez] using (RepV.fn none f caps g h).keep K (cz hn)
 | iface L t v g h ih=>exact fun _ _ _ hn=>by simpa[ez] using (RepV.iface none t v g h).keep K (cz hn)
 | tup L vs p g hp h ih=>exact fun _ _ _ hn=>by simpa[ez] using (RepV.tup none vs p g hp h).keep K (cz hn)
 | iptr L e k b off g hb hρ hc h ih=>exact fun _ _ _ hn=>by simpa[ez] using (RepV.iptr none e k b off g hb hρ hc h).keep K (cz hn)
 | isl0 L nl A c hn=>exact fun _ _ _ _=>by simpa[ez] using RepV.isl0 none nl A c hn
 | isl L es b off c s g hl h0 hρ hb hs hc h ih=>exact fun _ _ _ hn=>by simpa[ez] using (RepV.isl none es b off c s g hl h0 hρ hb hs hc h).keep K (cz hn)
 | hp L o nv path s i k u h h1=>exact fun _ _ _ hn=>by simp[nh] at hn
 | hs L o nv path s off len u h h1=>exact fun _ _ _ hn=>by simp[nh] at hn
theorem bW.freeze (K:Keep N w ρ rt w' ρ' rt'){o:Nat}{q:List (Nat×Nat)}{s:Nat}{es:List V}(h:bW w ρ rt (o,q) s es)(hF:∀b l,ρ b=some (o,l)→q <+: l→ρ' b=none∧b<w'.heap.size∧w'.heap[b]?=w.heap[b]?)(hn:nhs es) :
  es=[]∨∃b,∃g:Nat→Nat→Value,ρ b=some (o,q)∧ρ' b=none∧b<w'.heap.size∧(∀(i:Nat) (e:V),(fB es)[i]?=some e→(cells e).length=s)∧
   (∀(i:Nat) (e:V) k x,(fB es)[i]?=some e→(cells e)[k]?=some x→w'.cell? ⟨b,i*s+k,none⟩=some (g i k))∧
   (∀(i:Nat) (e:V) k x,(fB es)[i]?=some e→(cells e)[k]?=some x→RepV w' ρ' rt' none x (g i k)):=by
 rcases h with h | ⟨b,arr,T,g,h1,h2,h3,h4,h5⟩
 ·exact .inl h
 ·obtain⟨f1,f2,f3⟩:=hF b q h1 (List.prefix_refl _)
  refine .inr ⟨b,g,h1,f1,f2,?_,?_,?_⟩
  ·intro i e he
   rw[lY] at he
   obtain⟨e0,he0,rfl⟩:=aI.1 he
   rw[uI,List.length_map]
   exact h3 i e0 he0
  ·intro i e k x he hx
   rw[lY] at he
   obtain⟨e0,he0,rfl⟩:=aI.1 he
   rw[np] at hx
   obtain⟨x0,hx0,rfl⟩:=aI.1 hx
   rw[kC f3]
   simp only[World.cell?,h2]
   exact h4 i e0 k x0 he0 hx0
  ·intro i e k x he hx
   rw[lY] at he
   obtain⟨e0,he0,rfl⟩:=aI.1 he
   rw[np] at hx
   obtain⟨x0,hx0,rfl⟩:=aI.1 hx
   exact (h5 i e0 k x0 he0 hx0).freeze K (q++[(i,k)]) rfl (fun b l hb hp=>hF b l hb ((List.prefix_append _ _).trans hp)) (bC (cp hn he0) hx0)
theorem N5 {b s c len off:Nat}{es:List V}{g:Nat→Nat→Value}{A:Option Addr}(f1:ρ b=none)(f2:b<w.heap.size)(h3:∀(i:Nat) (e:V),es[i]?=some e→(cells e).length=s)(h4:∀(i:Nat) (e:V) k x,es[i]?=some e→(cells e)[k]?=some x→w.cell? ⟨b,i*s+k,none⟩=some (g i k))(h5:∀(i:Nat) (e:V) k x,es[i]?=some e→(cells e)[k]?=some x→RepV w ρ rt none x (g i k))(hlen:off+len≤es.length)(hlc:len≤c)(hA:len≠0→A=some ⟨b,off*s,none⟩) :
  RepV w ρ rt none (.isl false ((es.drop off).take len)) (.slice A len c):=by
 have hl:((es.drop off).take len).length=len:=by simp;omega
 have hget:∀(i:Nat) (e:V),((es.drop off).take len)[i]?=some e→es[off+i]?=some e:=fun i e he=>by
  rw[List.getElem?_take] at he
  split at he
  ·rwa[List.getElem?_drop] at he
  ·cases he
 by_cases h0:len=0
 ·subst h0
  simpa using RepV.isl0 none false A c (by simp)
 ·rw[hA h0]
  have:=RepV.isl (w:=w) (ρ:=ρ) (rt:=rt) none ((es.drop off).take len) b (off*s) c s (fun i k=>g (off+i) k) (by rw[hl];exact hlc) (by rw[hl];omega) f1 f2
   (fun i e he=>h3 _ _ (hget i e he))
   (fun i e k x he hx=>by
    have:=h4 _ _ _ _ (hget i e he) hx
    rwa[Nat.add_mul,Nat.add_assoc] at this)
   (fun i e k x he hx=>h5 _ _ _ _ (hget i e he) hx)
  rwa[hl] at this
theorem LN {es:List V}{off len:Nat}:fB ((es.drop off).take len)=((fB es).drop off).take len:=by simp[pK]
theorem yG (H:et w ρ rt)(J:eM ρ)(hr:gE rt)(K:Keep N w ρ rt w ρ' rt'){v x:V}{u:Value}(h:fO rt v=some x)(hv:RepV w ρ rt none v u)(hn:an N v)(hF:∀b o l,o∈di v→ρ b=some (o,l)→ρ' b=none∧b<w.heap.size):RepV w ρ' rt' none x u∧nh x:=by
 unfold fO at h
 split at h
 ·rename_i o nv path s off len
  simp only[aG] at h
  obtain⟨⟨s1,es⟩,hl,h⟩:=h
  split at h
  ·rename_i hc
   cases h
   simp only at hc
   obtain⟨rfl,hc⟩:=hc
   have hes:=CO hr hl
   refine⟨?_,by simp only[nh];exact vT (cZ.2 fun x hx=>cZ.1 hes x (List.mem_of_mem_drop (List.mem_of_mem_take hx)))⟩
   have hlive:b8 rt o nv path:=by simp[b8,hl]
   cases hv with
   | hs _ _ _ _ _ _ _ _ hh h1=>
    obtain⟨c,A,rfl,hlc,hcc⟩:=hh hlive
    simp only[LN]
    rcases (nu H hl).freeze K (fun b l hb _=>⟨(hF b o l (by simp[di]) hb).1,(hF b o l (by simp[di]) hb).2,rfl⟩) hes with rfl | ⟨b,g,f0,f1,f2,f3,f4,f5⟩
    ·have:len=0:=by simp at hc;omega
     subst this
     simpa using RepV.isl0 none false A c (by simp)
    ·refine N5 (g:=g) f1 f2 f3 f4 f5 (by rw[sE];exact hc) hlc fun h0=>?_
     obtain⟨b',n,hb,_,hA,_⟩:=hcc (by omega)
     have:=J _ _ _ f0 hb
     subst this
     exact hA
  ·cases h
 ·rename_i o nv path s i k
  simp only[aG] at h
  obtain⟨⟨s1,es⟩,hl,h⟩:=h
  have hs1:s=s1:=by
   split at h
   ·assumption
   ·cases h
  subst hs1
  simp only[if_true,aI] at h
  obtain⟨e,he,rfl⟩:=h
  have hes:=CO hr hl
  refine⟨?_,by simp only[nh];exact Gf (cp hes he)⟩
  have hlive:b8 rt o nv path:=by simp[b8,hl]
  cases hv with
  | hp _ _ _ _ _ _ _ _ hh h1=>
   obtain⟨b',n,hb,_,rfl⟩:=hh hlive
   rcases (nu H hl).freeze K (fun b l hb _=>⟨(hF b o l (by simp[di]) hb).1,(hF b o l (by simp[di]) hb).2,rfl⟩) hes with rfl | ⟨b,g,f0,f1,f2,f3,f4,f5⟩
   ·simp at he
   ·have:=J _ _ _ f0 hb
    subst this
    have hei:(fB es)[i]?=some (ez e):=by rw[lY,he];rfl
    exact .iptr _ (ez e) k b (i*s+k) (fun j=>g i (k+j)) f2 f1 (fun j x hx=>by rw[Nat.add_assoc];exact f4 i _ (k+j) x hei hx) fun j x hx=>f5 i _ (k+j) x hei hx
 ·cases h
  have hv':=hv.keep K hn
  refine⟨?_,by simpa[nh,an] using hn⟩
  cases hv' with
  | isl0 _ _ A c _=>exact .isl0 _ _ A c (by simp)
  | isl _ _ b off c s g hl h0 hρ hb hs hc hh=>exact .isl _ _ b off c s g hl h0 hρ hb hs hc hh
 ·split at h
  ·rename_i hp
   cases h
   exact⟨hv.keep K hn,pN hp hn⟩
  ·cases h
end
section
variable {w w' : World} {ρ ρ' ρ'' : bg} {rt rt' rt'' : ai} {N : Nat→Nat→Prop}
theorem NU {es:List V}{s:Nat}{nv:Nat}{p:List (Nat×Nat)}(hf:es.all jb=true)(h:(aU p s es).isSome=true):p=[]:=by
 match p,h with
 | [],_=>rfl
 | (i,k)::p,h=>
  exfalso
  simp only[aU] at h
  cases he:es[i]? with
  | none=>simp[he] at h
  | some e=>
   simp only[he] at h
   have h1:=List.all_eq_true.1 hf e (ii he)
   cases hc:(cells e)[k]? with
   | none=>simp[hc] at h
   | some x=>
    have h2:=List.all_eq_true.1 (show (cells e).all cl=true from h1) x (ii hc)
    cases x<;>simp[hc] at h<;>simp[cl] at h2
theorem GB {L L':Option cS}{v:V}{u:Value}(K:Keep N w ρ rt w' ρ' rt')(h:RepV w ρ rt L v u)(hp:cl v=true)(hn:nh v):RepV w' ρ' rt' L' v u:=by
 have hno:Ln.notOwn v:=by cases v<;>first | trivial | (simp[cl] at hp)
 exact ((h.any (L':=none) hno).keep K (cz hn)).anyN
section
variable {P : Program} {E : Env} (A : Agree P E) {st : St} {a : Act} {o : Oper} (H : et w ρ st.rt) (J : eM ρ) (T : ji w ρ st.rt st.tm a.tmps) (hr : gE st.rt) (hL : Lab w ρ st.rt jA) {Un : Nat→Prop} {id : Nat} (hm : wu (bG Un st.rt) st.tm) (hi : Fresh Un st.rt id)
include A H J T hr hL hm hi
theorem Qo {x:Operand}{xv:V}{t:TypeId}{ts:Array TypeId}{rt':ai}(ho:o.op=.call { callee:=.builtin .clear,args:=#[x],argTypes:=ts })(ht:ts[0]?=some t)(hx:ev st x=some xv)(h:rm E st.rt t xv=some rt') :
  ∃u w',(execOp a.eval o).run P w=.ok (.value u) w'∧pD Un w ρ st.rt id (.tup []) rt' u w':=by
 have tup0:∀{w':World} {ρ':bg} {rt':ai},aM w' ρ' rt' bq (.tup []) (.tuple #[]):=fun {w' ρ' rt'}=>aM.mk1 rfl (.tup none [] (fun _=>undef) (fun _ _=>undef) (fun c v h=>by simp at h) (fun c v k x h=>by simp at h))
 have hxr:=cg T hx
 unfold rm at h
 split at h
 ·split at h
  ·rename_i hs
   cases h
   obtain⟨e,he⟩:∃e,E.desc t=some (.slice e):=by
    unfold fC at hs
    split at hs
    ·rename_i e he;exact⟨e,he⟩
    ·cases hs
   have hu:=A.desc he
   obtain⟨A1,l,c,hev,_⟩:=jz (aM.one rfl hxr)
   have hl:l=0:=by
    have:=aM.one rfl hxr
    rw[hev] at this
    cases this<;>first | rfl | (rename_i h0 _ _ _ _ _;simp at h0)
   subst hl
   refine⟨.tuple #[],w,?_,ρ,⟨H,J,hr,Keep.refl,hL,Wk.refl,fun o r h=>.inl ⟨r,h,Nat.le_refl _⟩,fun _ _ h=>h⟩,tup0,by simp[an,cJ]⟩
   cases A1<;>simp[execOp,ho,resolve,invoke,builtin,Builtin.clear_,ht,hev,run_underlying hu]
  ·cases h
 ·rename_i o1 nv s off len
  split at h
  ·rename_i e sz bt zv htt
   simp only[aG] at h
   obtain⟨ei,hei,z,hz,r,hro,h⟩:=h
   split at h
   ·rename_i hc
    obtain⟨⟨rfl,c2,c3,c4⟩,c5⟩:=hc
    simp only[Bool.and_eq_true] at c5
    cases h
    have hu:=A.und t _ htt
    simp only at hu
    have hp:=aM.one rfl hxr
    have hlive:b8 st.rt o1 nv []:=by simp[b8,bD,bA,hro,aU]
    obtain⟨c,AA,hev,hlc,hcc⟩:∃c AA,a.eval x=.slice AA len c∧len≤c∧(c≠0→∃b n,ρ b=some (o1,[])∧km w b n∧AA=some ⟨b,off*r.s,none⟩∧(off+c)*r.s≤n):=by
     generalize a.eval x=up at hp
     cases hp with
     | hs _ _ _ _ _ _ _ _ hh _=>exact hh hlive
    generalize hes:r.es.take off++List.replicate len z++r.es.drop (off+len)=es'
    by_cases hlen:len=0
    ·subst hlen
     have hee:es'=r.es:=by rw[←hes];simp
     subst hee
     have hst:upd st.rt o1 (some ⟨r.nv,r.s,r.es⟩)=st.rt:=by
      funext y
      by_cases hy:y=o1
      ·subst hy;simp[upd,hro]
      ·simp[upd,hy]
     rw[hst]
     refine⟨.tuple #[],w,?_,ρ,⟨H,J,hr,Keep.refl,hL,Wk.refl,fun o r h=>.inl ⟨r,h,Nat.le_refl _⟩,fun _ _ h=>h⟩,tup0,by simp[an,cJ]⟩
     cases AA<;>simp[execOp,ho,resolve,invoke,builtin,Builtin.clear_,ht,hev,run_underlying hu]
    obtain⟨b,n,hb,⟨arr,TT,hbb,hsz⟩,rfl,hfit⟩:=hcc (by omega)
    obtain⟨g,hg1,hg2,hg3⟩:∃g:Nat→Nat→Value,(∀(i:Nat) (e:V),r.es[i]?=some e→(cells e).length=r.s)∧(∀(i:Nat) (e:V) k x,r.es[i]?=some e→(cells e)[k]?=some x→arr[i*r.s+k]?=some (g i k))∧
      (∀(i:Nat) (e:V) k x,r.es[i]?=some e→(cells e)[k]?=some x→RepV w ρ st.rt (some (o1,[(i,k)])) x (g i k)):=by
     rcases H o1 r hro with h0 | ⟨b',arr',T',g,h1,h2,h3,h4,h5⟩
     ·rw[h0] at c2;simp at c2;omega
     ·have:=J b b' _ hb h1
      subst this
      rw[hbb] at h2
      cases h2
      exact⟨g,h3,h4,h5⟩
    have hzs:=rE (iR (w:=w) (ρ:=ρ) (rt:=st.rt) hz bq) (ie hz)
    have hzc:ei.zv.cells.size=r.s:=by rw[←hzs.1];exact c3
    have hzcells:Builtin.zeroCells ei.zv.cells len=madeCells ei.zv.cells (len*r.s):=by simp[Builtin.zeroCells,madeCells,hzc]
    have hnsz:(Builtin.zeroCells ei.zv.cells len).toList.length=len*r.s:=by rw[hzcells];simp[size_madeCells]
    have hone:∀u∈(Builtin.zeroCells ei.zv.cells len).toList,u.oneCell'=true:=by
     intro u hu'
     obtain⟨j,hj⟩:=List.mem_iff_getElem?.1 hu'
     have hjl:=(cd.1 hj).1
     rw[hnsz] at hjl
     have hd:j / r.s<len:=Nat.div_lt_of_lt_mul (by rw[Nat.mul_comm];exact hjl)
     have hm':j % r.s<r.s:=Nat.mod_lt _ c4
     have hdm:j / r.s*r.s+j % r.s=j:=by rw[Nat.mul_comm];exact Nat.div_add_mod j r.s
     have h2:=qo (n:=len) hzc hd hm'
     rw[hdm,←hzcells] at h2
     simp only[Array.getElem?_toList] at hj
     rw[hj] at h2
     have hcz:(cells z)[j % r.s]?=some ((cells z)[j % r.s]'(by omega)):=d5 _
     have hr2:=hzs.2 _ _ _ hcz h2.symm
     have:=rD hr2 (List.all_eq_true.1 (ie hz) _ (ii hcz))
     cases u<;>first | rfl | exact this.elim
    have hle:(off+len)*r.s≤arr.size:=by
     have:(off+len)*r.s≤(off+c)*r.s:=Nat.mul_le_mul_right _ (by omega)
     omega
    have hadd:(off+len)*r.s=off*r.s+len*r.s:=Nat.add_mul ..
    have hrun:=run_storeCells_at P b (off*r.s) TT (Builtin.zeroCells ei.zv.cells len).toList 0 arr w hbb (by rw[hnsz];omega) hone
    simp only[Nat.add_zero,hnsz] at hrun
    generalize harr':(arr.toList.take (off*r.s)++(Builtin.zeroCells ei.zv.cells len).toList++arr.toList.drop (off*r.s+len*r.s)).toArray=arr' at hrun
    have hget':∀j,arr'[j]?=if off*r.s≤j∧j<off*r.s+len*r.s then (Builtin.zeroCells ei.zv.cells len)[j - off*r.s]? else arr[j]?:=fun j=>by
     rw[←harr',List.getElem?_toArray,yF (n:=len*r.s) hnsz (by simp;omega)]
     simp
    have hsz':arr'.size=arr.size:=by
     rw[←harr']
     have:=hnsz
     simp only[List.size_toArray,List.length_append,List.length_take,List.length_drop,this,Array.length_toList]
     omega
    have hw1:=setRow_heap w b arr arr' TT (0,0) hbb
    have hw2:∀c,c≠b→(w.setRow b arr').heap[c]?=w.heap[c]?:=fun c hc=>setRow_other w b c arr' hc
    have hlen':es'.length=r.es.length:=by rw[←hes];simp;omega
    have hesg:∀i:Nat,es'[i]?=if off≤i∧i<off+len then some z else r.es[i]?:=fun i=>by
     have:=Ii (xs:=r.es) (ys:=List.replicate len z) (k:=off) (n:=len) (k':=i) (by simp) c2
     rw[←hes,this]
     split
     ·rw[List.getElem?_replicate,if_pos (by omega)]
     ·rfl
    have hflat':es'.all jb=true:=by
     refine List.all_eq_true.2 fun y hy=>?_
     obtain⟨i,hi'⟩:=List.mem_iff_getElem?.1 hy
     rw[hesg] at hi'
     split at hi'
     ·cases hi';exact c5.2
     ·exact List.all_eq_true.1 c5.1 y (ii hi')
    have blk:∀c n,km w c n→km (w.setRow b arr') c n:=by
     intro c n hcb
     by_cases hcb2:c=b
     ·subst hcb2
      obtain⟨arr2,T2,q1,q2⟩:=hcb
      rw[hbb] at q1
      cases q1
      exact⟨arr',_,hw1,by rw[hsz',q2]⟩
     ·obtain⟨arr2,T2,q1,q2⟩:=hcb
      exact⟨arr2,T2,by rw[hw2 c hcb2];exact q1,q2⟩
    have hneb:∀c L,ρ c=some L→L≠(o1,[])→c≠b:=by
     rintro c L h1 h2 rfl
     rw[hb] at h1
     cases h1
     exact h2 rfl
    have K:Keep (bG Un st.rt) w ρ st.rt (w.setRow b arr') ρ (upd st.rt o1 (some ⟨r.nv,r.s,es'⟩)):=by
     refine⟨fun c hc _=>⟨hc,hw2 c (by rintro rfl;rw[hb] at hc;cases hc)⟩,fun o' nv2 p' hN hl=>⟨?_,fun c n h1 h2=>⟨h1,blk c n h2⟩⟩,fun c l hc=>⟨hc,hw2 c (hneb c _ hc (by rintro h;cases h;rw[hL.z] at hro;cases hro))⟩⟩
     by_cases ho':o'=o1
     ·subst ho'
      unfold b8 bD at hl
      cases hvv':bA (upd st.rt o' (some ⟨r.nv,r.s,es'⟩)) o' nv2 p' with
      | none=>simp[hvv'] at hl
      | some r2=>
       obtain⟨h1,h2⟩:=d8 hvv'
       simp[upd] at h1
       subst h1
       simp only[hvv',cm] at hl
       have:=NU (nv:=0) hflat' hl
       subst this
       simp[b8,bD,bA,hro,aU]
     ·simpa[b8,bD,bA,upd,ho'] using hl
    have hzn:nh z:=nB hz
    refine⟨.tuple #[],w.setRow b arr',?_,ρ,⟨?_,J,?_,K,?_,⟨rfl,rfl,rfl,by simp,blk⟩,?_,fun _ _ h=>h⟩,tup0,by simp[an,cJ]⟩
    ·obtain⟨m,rfl⟩:∃m,len=m+1:=⟨len - 1,by omega⟩
     simp[execOp,ho,resolve,invoke,builtin,Builtin.clear_,ht,hev,run_underlying hu,lh A hei,hrun]
    ·intro o' r' hr'
     by_cases ho':o'=o1
     ·subst ho'
      simp[upd] at hr'
      subst hr'
      refine DV (s:=r.s) (H o' r hro) hlen' (fun i e he=>?_) fun b2 arr2 T2 hb2 hh2=>?_
      ·rw[hesg] at he
       split at he
       ·cases he;exact c3
       ·exact hg1 i e he
      ·have:=J b b2 _ hb hb2
       subst this
       rw[hbb] at hh2
       cases hh2
       refine⟨arr',hb,hw1,fun i e k y he hy=>?_⟩
       have hk:=(cd.1 hy).1
       rw[hesg] at he
       split at he
       ·rename_i hin
        cases he
        rw[c3] at hk
        have hlt:i*r.s+k<off*r.s+len*r.s:=by
         have:(i+1)*r.s≤(off+len)*r.s:=Nat.mul_le_mul_right _ (by omega)
         rw[Nat.succ_mul,hadd] at this
         omega
        have hge:off*r.s≤i*r.s:=Nat.mul_le_mul_right _ hin.1
        have hsub:i*r.s+k - off*r.s=(i - off)*r.s+k:=by rw[Nat.sub_mul];omega
        have hzz:=B9 (iR (w:=w) (ρ:=ρ) (rt:=st.rt) hz bq) (ie hz) hy
        refine⟨_,by rw[hget',if_pos ⟨by omega,hlt⟩,hsub,hzcells,qo hzc (by omega) hk];exact hzz.1,?_⟩
        exact GB K hzz.2 (List.all_eq_true.1 (show (cells z).all cl=true from c5.2) _ (ii hy)) (bC hzn hy)
       ·rename_i hin
        have hks:=hk
        rw[hg1 i e he] at hks
        refine⟨g i k,?_,?_⟩
        ·rw[hget',if_neg]
         ·exact hg2 i e k y he hy
         ·rintro⟨q1,q2⟩
          rcases Nat.lt_or_ge i off with h1 | h1
          ·have:(i+1)*r.s≤off*r.s:=Nat.mul_le_mul_right _ h1
           rw[Nat.succ_mul] at this
           omega
          ·have:(off+len)*r.s≤i*r.s:=Nat.mul_le_mul_right _ (by omega)
           omega
        ·exact GB K (hg3 i e k y he hy) (List.all_eq_true.1 (show (cells e).all cl=true from List.all_eq_true.1 c5.1 e (ii he)) _ (ii hy)) (bC (cp (hr o' r hro) he) hy)
     ·simp[upd,ho'] at hr'
      exact bW.under K (fun c l hc _=>⟨hc,hw2 c (hneb c _ hc (by rintro h;cases h;exact ho' rfl))⟩) (H o' r' hr') (hr o' r' hr')
    ·intro o' r' hr'
     by_cases ho':o'=o1
     ·subst ho'
      simp[upd] at hr'
      subst hr'
      refine cZ.2 fun y hy=>?_
      obtain⟨i,hi'⟩:=List.mem_iff_getElem?.1 hy
      rw[hesg] at hi'
      split at hi'
      ·cases hi';exact hzn
      ·exact cp (hr o' r hro) hi'
     ·simp[upd,ho'] at hr'
      exact hr o' r' hr'
    ·refine⟨fun c o' l hc=>⟨by simpa using (hL c o' l hc).1,?_⟩,?_,hL.f⟩
     ·rcases (hL c o' l hc).2 with h1 | ⟨r1,h1⟩
      ·exact .inl h1
      ·refine .inr ?_
       by_cases ho':o'=o1
       ·subst ho';exact⟨_,by simp[upd];rfl⟩
       ·exact⟨r1,by simpa[upd,ho'] using h1⟩
     ·have:(0:Nat)≠o1:=by rintro rfl;rw[hL.z] at hro;cases hro
      simp[upd,this,hL.z]
    ·intro o' r' hr'
     by_cases ho':o'=o1
     ·subst ho'
      simp[upd] at hr'
      subst hr'
      exact .inl ⟨r,hro,Nat.le_refl _⟩
     ·simp[upd,ho'] at hr'
      exact .inl ⟨r',hr',Nat.le_refl _⟩
   ·cases h
  ·cases h
 ·cases h
end
end
section
variable {w w' : World} {ρ ρ' ρ'' : bg} {rt rt' rt'' : ai} {N : Nat→Nat→Prop}
structure AbsL (N:Nat→Nat→Prop) (w:World) (ρ:bg) (rt:ai) (ρ':bg) (rt':ai) (U':Pl):Prop where
 rok:et w ρ' rt'
 inj:eM ρ'
 rtn:gE rt'
 keep:Keep N w ρ rt w ρ' rt'
 lab:Lab w ρ' rt' U'
 nv:∀o r',rt' o=some r'→∃r,rt o=some r∧r'.nv=r.nv∧r'.s=r.s∧r'.es.length=r.es.length
 f0:∀b l,ρ' b=some (0,l)→ρ b=some (0,l)
theorem Abs.l {U:Pl}(a:Abs N w ρ rt ρ' rt' U):AbsL N w ρ rt ρ' rt' U:=⟨a.rok,a.inj,a.rtn,a.keep,a.lab,a.nv,a.f0⟩
theorem AbsL.gone {U:Pl}(a:AbsL N w ρ rt ρ' rt' U){x:Nat}(h:rt x=none):rt' x=none:=by
 cases hx:rt' x with
 | none=>rfl
 | some r=>
  obtain⟨r',h',_⟩:=a.nv x r hx
  rw[h] at h'
  cases h'
theorem AbsL.newRoot {U:Pl}(a:AbsL N w ρ rt ρ' rt' U){id:Nat}(hp:0<id)(hU:∀o l,U o l→o=0∨(o=id∧l≠[]))(dA:rt id=none)(hN:∀nv,N id nv){arr:Array Value}{T:TypeId}(hw:w'.heap=w.heap.push (.cells arr T (0,0)))(hos:w'.os=w.os)(hout:w'.output=w.output)(htape:w'.tape=w.tape){es:List V}{s:Nat}{g:Nat→Nat→Value}(hs:∀(i:Nat) (e:V),es[i]?=some e→(cells e).length=s)(hc:∀(i:Nat) (e:V) k x,es[i]?=some e→(cells e)[k]?=some x→arr[i*s+k]?=some (g i k))(hR:∀(i:Nat) (e:V) k x,es[i]?=some e→(cells e)[k]?=some x→RepV w ρ' rt' (some (id,[(i,k)])) x (g i k))(hn:nhs es) :
  Eff N w ρ rt w' (gW ρ' w.heap.size (id,[])) (upd rt' id (some ⟨0,s,es⟩)) id:=by
 obtain⟨h1,h2,h3,h4,h5⟩:=Ln.newRoot a.rok a.inj a.rtn a.lab hp hU (a.gone dA) hN hw hs hc hR hn
 refine⟨h1,h2,h3,a.keep.trans h4 (Nat.le_refl _),h5,Wk.push hw hos hout htape,fun o r h=>?_,fun b l h=>?_⟩
 rotate_left
 ·unfold gW at h
  split at h
  ·cases h;exact absurd hp (Nat.lt_irrefl _)
  ·exact a.f0 b l h
 by_cases ho:o=id
 ·subst ho;exact .inr ⟨Nat.le_refl _,by simp[bO]⟩
 ·simp[upd,ho] at h
  obtain⟨r',h',e,_⟩:=a.nv o r h
  exact .inl ⟨r',h',by omega⟩
theorem Mu (H:et w ρ rt)(J:eM ρ)(hr:gE rt)(hL:Lab w ρ rt jA){o:Nat}{r:Root}(ho:rt o=some r):Abs N w ρ rt ρ (upd rt o none) (fun o' _=>o'=0∨o'=o):=by
 have ho0:0≠o:=by rintro rfl;rw[hL.z] at ho;cases ho
 have K:Keep N w ρ rt w ρ (upd rt o none):=⟨fun b hb _=>⟨hb,rfl⟩,fun o' nv p _ hl=>by
  have hne:o'≠o:=by
   rintro rfl
   simp[b8,bD,bA,upd] at hl
  exact⟨by simpa[b8,bD,bA,upd,hne] using hl,fun b n hb hn=>⟨hb,hn⟩⟩,fun b l hb=>⟨hb,rfl⟩⟩
 refine⟨?_,J,?_,K,?_,?_,?_,fun b l h=>h⟩
 ·intro o' r' h'
  by_cases hne:o'=o
  ·simp[upd,hne] at h'
  ·simp[upd,hne] at h'
   exact bW.under K (fun b l hb _=>⟨hb,rfl⟩) (H o' r' h') (hr o' r' h')
 ·intro o' r' h'
  by_cases hne:o'=o
  ·simp[upd,hne] at h'
  ·simp[upd,hne] at h'
   exact hr o' r' h'
 ·intro q d v u hq h hn
  exact RepV.under K (fun b l hb _=>⟨hb,rfl⟩) h hn
 ·refine⟨fun b o' l h=>⟨(hL _ _ _ h).1,?_⟩,by simp[upd,ho0,hL.z],fun b l h=>hL.f _ _ h⟩
  by_cases hne:o'=o
  ·exact .inl (.inr hne)
  ·rcases (hL _ _ _ h).2 with h1 | ⟨r',h1⟩
   ·exact .inl (.inl h1)
   ·exact .inr ⟨r',by simp[upd,hne,h1]⟩
 ·intro o' r' h'
  by_cases hne:o'=o
  ·simp[upd,hne] at h'
  ·simp[upd,hne] at h'
   exact⟨r',h',rfl,rfl,rfl⟩
def B8 (n:Nat):List (Nat×Nat)→List (Nat×Nat)
 | (i,k)::t=>(n+i,k)::t
 | []=>[]
def eL (ρ:bg)(q id n:Nat):bg:=fun b=>
 match ρ b with
 | none=>none
 | some (o,l)=>if o=q then (match l with
  | x::t=>some (id,B8 n (x::t))
  | []=>none)
  else if o=id then (match l with
  | (j,k)::t=>if j<n then some (o,(j,k)::t) else none
  | []=>some (o,[]))
  else some (o,l)
theorem JE {q id n b}(h:ρ b=none):eL ρ q id n b=none:=by simp[eL,h]
theorem qG {q id n b o l}(h:ρ b=some (o,l))(h1:o≠q)(h2:o≠id):eL ρ q id n b=some (o,l):=by simp[eL,h,h1,h2]
theorem Mh {q id n b x t}(h:ρ b=some (q,x::t)):eL ρ q id n b=some (id,B8 n (x::t)):=by simp[eL,h]
theorem shift_low {q id n b j k t}(h:ρ b=some (id,(j,k)::t))(h1:id≠q)(hj:j<n):eL ρ q id n b=some (id,(j,k)::t):=by simp[eL,h,h1,hj]
theorem Mg {q id n b}(h:ρ b=some (id,[]))(h1:id≠q):eL ρ q id n b=some (id,[]):=by simp[eL,h,h1]
theorem kN {q id n b o' l'}(h:eL ρ q id n b=some (o',l')):(o'≠q∧o'≠id∧ρ b=some (o',l'))∨(o'=id∧((∃i k t,ρ b=some (q,(i,k)::t)∧l'=(n+i,k)::t)∨(id≠q∧ρ b=some (id,l')∧∀j k t,l'=(j,k)::t→j<n))):=by
 unfold eL at h
 split at h
 ·cases h
 ·rename_i o l hb
  split at h
  ·rename_i hq
   subst hq
   split at h
   ·rename_i x t
    cases h
    exact .inr ⟨rfl,.inl ⟨x.1,x.2,t,hb,rfl⟩⟩
   ·cases h
  ·rename_i hq
   split at h
   ·rename_i hi
    subst hi
    split at h
    ·rename_i j k t
     split at h
     ·rename_i hj
      cases h
      exact .inr ⟨rfl,.inr ⟨hq,hb,fun j' k' t' e=>by cases e;exact hj⟩⟩
     ·cases h
    ·cases h
     exact .inr ⟨rfl,.inr ⟨hq,hb,fun j' k' t' e=>by cases e⟩⟩
   ·rename_i hi
    cases h
    exact .inl ⟨hq,hi,hb⟩
theorem D0 {U:Pl}(a:AbsL N w ρ rt ρ' rt' U){q id n:Nat}(hU:∀o l,U o l→o=0∨o=q∨o=id)(hq0:q≠0)(hid0:id≠0)(hqi:id≠q)(hq:rt' q=none)(dA:rt' id=none) :
  Keep N w ρ' rt' w (eL ρ' q id n) rt'∧AbsL N w ρ rt (eL ρ' q id n) rt' (fun o _=>o=0∨o=id):=by
 have K:Keep N w ρ' rt' w (eL ρ' q id n) rt':=⟨fun b hb _=>⟨JE hb,rfl⟩,fun o nv p _ hl=>⟨hl,fun b m hb hm=>by
  have h1:o≠q:=by rintro rfl;simp[b8,bD,bA,hq] at hl
  have h2:o≠id:=by rintro rfl;simp[b8,bD,bA,dA] at hl
  exact⟨qG hb h1 h2,hm⟩⟩,fun b l hb=>⟨qG hb (Ne.symm hq0) (Ne.symm hid0),rfl⟩⟩
 refine⟨K,?_,?_,a.rtn,a.keep.trans K (Nat.le_refl _),?_,a.nv,fun b l h=>?_⟩
 ·intro o r h
  have h1:o≠q:=by rintro rfl;rw[hq] at h;cases h
  have h2:o≠id:=by rintro rfl;rw[dA] at h;cases h
  exact bW.under K (fun b l hb _=>⟨qG hb h1 h2,rfl⟩) (a.rok o r h) (a.rtn o r h)
 ·rintro b b' ⟨o,l⟩ h h'
  rcases kN h with⟨h1,h2,h3⟩ | ⟨rfl,h1⟩
  ·rcases kN h' with⟨_,_,h4⟩ | ⟨rfl,_⟩
   ·exact a.inj _ _ _ h3 h4
   ·exact absurd rfl h2
  ·rcases kN h' with⟨_,h2,_⟩ | ⟨_,h2⟩
   ·exact absurd rfl h2
   ·rcases h1 with⟨i,k,t,e1,rfl⟩ | ⟨_,e1,e2⟩
    ·rcases h2 with⟨i',k',t',e3,e4⟩ | ⟨_,e3,e4⟩
     ·simp only[List.cons.injEq,Prod.mk.injEq] at e4
      obtain⟨⟨e5,rfl⟩,rfl⟩:=e4
      obtain rfl:i=i':=by omega
      exact a.inj _ _ _ e1 e3
     ·have:=e4 _ _ _ rfl
      omega
    ·rcases h2 with⟨i',k',t',e3,rfl⟩ | ⟨_,e3,e4⟩
     ·have:=e2 _ _ _ rfl
      omega
     ·exact a.inj _ _ _ e1 e3
 ·refine⟨fun b o l h=>?_,a.lab.z,fun b l h=>?_⟩
  ·rcases kN h with⟨h1,h2,h3⟩ | ⟨rfl,h1⟩
   ·refine⟨(a.lab _ _ _ h3).1,?_⟩
    rcases (a.lab _ _ _ h3).2 with hu | hu
    ·rcases hU _ _ hu with h4 | h4 | h4
     ·exact .inl (.inl h4)
     ·exact absurd h4 h1
     ·exact absurd h4 h2
    ·exact .inr hu
   ·refine⟨?_,.inl (.inr rfl)⟩
    rcases h1 with⟨i,k,t,e1,rfl⟩ | ⟨_,e1,e2⟩
    ·exact (a.lab _ _ _ e1).1
    ·exact (a.lab _ _ _ e1).1
  ·rcases kN h with⟨h1,h2,h3⟩ | ⟨h1,_⟩
   ·exact a.lab.f _ _ h3
   ·exact absurd h1.symm hid0
 ·rcases kN h with⟨h1,h2,h3⟩ | ⟨h1,_⟩
  ·exact a.f0 _ _ h3
  ·exact absurd h1.symm hid0
theorem RepV.shift {q id n:Nat}(K:Keep N w ρ rt w (eL ρ q id n) rt){i k:Nat}{v:V}{u:Value}(h:RepV w ρ rt (some (q,[(i,k)])) v u)(hn:nh v):RepV w (eL ρ q id n) rt (some (id,[(n+i,k)])) v u:=by
 have:=h.mono K (fun l=>(id,B8 n l.2)) (fun l=>l.1=q∧l.2≠[]) (fun l i' k' hl=>by
  obtain⟨l1,l2⟩:=l
  cases l2 with
  | nil=>exact absurd rfl hl.2
  | cons x t=>rfl) (fun l i' k' hl=>⟨hl.1,by simp[cS.at]⟩) (fun b l hl hb=>by
  obtain⟨l1,l2⟩:=l
  obtain⟨rfl,hl2⟩:=hl
  cases l2 with
  | nil=>exact absurd rfl hl2
  | cons x t=>exact⟨Mh hb,rfl⟩) (fun l hl=>by cases hl;exact⟨rfl,by simp⟩) (cz hn)
 simpa[B8] using this
theorem RepV.shift_low {q id n:Nat}(hqi:id≠q)(K:Keep N w ρ rt w (eL ρ q id n) rt){j k:Nat}(hj:j<n){v:V}{u:Value}(h:RepV w ρ rt (some (id,[(j,k)])) v u)(hn:nh v):RepV w (eL ρ q id n) rt (some (id,[(j,k)])) v u:=
 RepV.under K (fun b l hb hp=>by
  obtain⟨t,rfl⟩:=hp
  exact⟨Ln.shift_low hb hqi hj,rfl⟩) h hn
structure Src (w:World) (size:Nat) (es:List V) (u:Value) (g:Nat→Nat→Value):Prop where
 shape:∃A c,u=.slice A es.length c∧(es≠[]→∃b off,A=some ⟨b,off,none⟩∧∀(i:Nat) (e:V) k x,es[i]?=some e→(cells e)[k]?=some x→w.cell? ⟨b,off+(i*size+k),none⟩=some (g i k))
theorem JN (H : et w ρ rt)(J : eM ρ)(hr : gE rt)(hL : Lab w ρ rt jA){x : V}{u : Value}{es : List V}{size : Nat}(hx : RepV w ρ rt none x u)(hn : an N x)(h : eS rt x = some (es, rt'))(hs : ∀ e ∈ es,(cells e).length=size)(h0 : 0 < size) : ∃ g,nhs es ∧ Src w size es u g ∧
      ((rt'=rt ∧ ∀ (i : Nat) (e : V) k x,es[i]?=some e→(cells e)[k]?=some x→RepV w ρ rt none x (g i k)) ∨
       ∃ q r,rt q=some r ∧ rt'=upd rt q none ∧ ∀ (i : Nat) (e : V) k x,es[i]?=some e→(cells e)[k]?=some x→RepV w ρ rt (some (q,[(i,k)])) x (g i k)):=by
  unfold eS at h
  split at h
  · rename_i nl es'
    cases h
    have hne : nhs es:=by simpa [an] using hn
    cases hx with
    | isl0 _ _ A c hn=>exact ⟨fun _ _=>undef,by simp [nhs],⟨A,c,rfl,by simp⟩,.inl ⟨rfl,by simp⟩⟩
    | isl _ _ b off c s g hl hp hρ hb hs' hc hh =>
      obtain ⟨e0,he0⟩ : ∃ e,es[0]?=some e:=⟨_,d5 hp⟩
      have : s=size:=by rw [← hs' 0 e0 he0]; exact hs e0 (ii he0)
      subst this
      exact ⟨g,hne,⟨some ⟨b,off,none⟩,c,rfl,fun _=>⟨b,off,rfl,hc⟩⟩,.inl ⟨rfl,hh⟩⟩
  · rename_i o nv p s off len
    simp only [aG] at h
    obtain ⟨⟨s1,row⟩,hl,h⟩:=h
    simp only at h
    split at h
    · rename_i hc
      split at h
      · cases h
      · rename_i hs1
        have hs1 : s=s1:=Classical.byContradiction hs1
        subst hs1
        have hrn:=CO hr hl
        have hrow:=nu H hl
        have hlive : b8 rt o nv p:=by simp [b8,hl]
        have hget : ∀ (i : Nat) (e : V),((row.drop off).take len)[i]?=some e→row[off + i]?=some e:=fun i e he=>by
          rw [List.getElem?_take] at he
          split at he
          · rwa [List.getElem?_drop] at he
          · cases he
        have hlen : ((row.drop off).take len).length=len:=by simp; omega
        obtain ⟨c,A,rfl,hlc,hcc⟩ : ∃ c A,u=.slice A len c ∧ len ≤ c ∧ (c ≠ 0→∃ b n,ρ b=some (o,p) ∧ km w b n ∧ A=some ⟨b,off * s,none⟩ ∧ (off + c) * s ≤ n):=by
          cases hx with
          | hs _ _ _ _ _ _ _ _ hh h1=>exact hh hlive
        have hsrc : ∃ g,Src w size ((row.drop off).take len) (.slice A len c) g ∧ ∀ (i : Nat) (e : V) k x,((row.drop off).take len)[i]?=some e→(cells e)[k]?=some x→RepV w ρ rt (some (o,p ++ [(off + i,k)])) x (g i k):=by
          have hs : ∀ e ∈ (row.drop off).take len,(cells e).length=size:=by
            split at h
            · cases h; exact hs
            · split at h
              · rename_i hcond
                cases h
                exact hs
              · cases h
          rcases hrow with rfl | ⟨b,arr,T,g,h1,h2,h3,h4,h5⟩
          · refine ⟨fun _ _=>undef,⟨A,c,?_,by simp⟩,by simp⟩
            rw [hlen]
          · refine ⟨fun i k=>g (off + i) k,⟨A,c,by rw [hlen],fun hne=>?_⟩,fun i e k x he hx=>h5 _ e k x (hget i e he) hx⟩
            · obtain ⟨b',n,hb,_,rfl,_⟩:=hcc (by
                intro h0
                have : len=0:=by omega
                subst this
                exact hne (by simp))
              have:=J _ _ _ h1 hb
              subst this
              refine ⟨b,off * s,rfl,fun i e k x he hx=>?_⟩
              have:=h4 _ e k x (hget i e he) hx
              have hes:=hs e (ii he)
              rw [h3 _ e (hget i e he)] at hes
              subst hes
              simp only [World.cell?,h2]
              rw [← Nat.add_assoc,← Nat.add_mul]
              exact this
        obtain ⟨g,sg,rg⟩:=hsrc
        have hnn : nhs ((row.drop off).take len):=cZ.2 fun x hx=>cZ.1 hrn x (List.mem_of_mem_drop (List.mem_of_mem_take hx))
        split at h
        · rename_i hfl
          cases h
          refine ⟨g,hnn,sg,.inl ⟨rfl,fun i e k x he hx=>?_⟩⟩
          have hp : cl x=true:=List.all_eq_true.1 (by simpa [jb] using List.all_eq_true.1 hfl e (ii he)) x (ii hx)
          exact (rg i e k x he hx).any (by cases x <;> first | trivial | exact absurd hp (by simp [cl]))
        · split at h
          · rename_i hcond
            cases h
            obtain ⟨hp,h0',hll⟩:=hcond
            have hp' : p=[]:=by simpa using hp
            subst hp'
            subst h0'
            have hvo : ∃ r,rt o=some r:=by
              unfold bD at hl
              simp only [aG] at hl
              obtain ⟨r,hr',_⟩:=hl
              exact ⟨r,(d8 hr').1⟩
            obtain ⟨r,ho⟩:=hvo
            refine ⟨g,hnn,sg,.inr ⟨o,r,ho,rfl,fun i e k x he hx=>?_⟩⟩
            have:=rg i e k x he hx
            simpa using this
          · cases h
    · cases h
  · cases h
def iV (n size:Nat)(g:Nat→Nat→Value):List Value:=(List.range (n*size)).map fun j=>g (j / size) (j % size)
theorem iq {n size:Nat}{g:Nat→Nat→Value}:(iV n size g).length=n*size:=by simp[iV]
theorem rz {n size i k:Nat}{g:Nat→Nat→Value}(hi:i<n)(hk:k<size):(iV n size g)[i*size+k]?=some (g i k):=by
 have hlt:i*size+k<n*size:=by
  have:(i+1)*size≤n*size:=Nat.mul_le_mul_right _ hi
  rw[Nat.succ_mul] at this
  omega
 have h1:(i*size+k) / size=i:=by rw[Nat.mul_comm,Nat.mul_add_div (by omega),Nat.div_eq_of_lt hk,Nat.add_zero]
 have h2:(i*size+k) % size=k:=by rw[Nat.mul_comm,Nat.mul_add_mod,Nat.mod_eq_of_lt hk]
 simp[iV,hlt,h1,h2]
theorem Gp {n size j:Nat}{g:Nat→Nat→Value}{v:Value}(h:(iV n size g)[j]?=some v):∃i k,i<n∧k<size∧j=i*size+k∧v=g i k:=by
 have hj:=(cd.1 h).1
 rw[iq] at hj
 have h0:0<size:=by
  rcases Nat.eq_zero_or_pos size with h | h
  ·subst h;simp at hj
  ·exact h
 refine⟨j / size,j % size,Nat.div_lt_of_lt_mul (by rw[Nat.mul_comm];exact hj),Nat.mod_lt _ h0,by rw[Nat.mul_comm];exact (Nat.div_add_mod j size).symm,?_⟩
 simp[iV,hj] at h
 exact h.symm
theorem F4 {P:Program}{w1:World}{size c:Nat}{A:Option Addr}{es:List V}{g:Nat→Nat→Value}(h:es≠[]→∃b off,A=some ⟨b,off,none⟩∧∀(i:Nat) (e:V) k x,es[i]?=some e→(cells e)[k]?=some x→w.cell? ⟨b,off+(i*size+k),none⟩=some (g i k))(hs:∀e∈es,(cells e).length=size)(hw:w1.heap=w.heap) :
  (Builtin.firstCells size es.length (.slice A es.length c)).run P w1=.ok (iV es.length size g).toArray w1:=by
 by_cases h0:es=[]
 ·subst h0
  cases A with
  | none=>simp[run_firstCells_none,iV]
  | some a=>exact run_firstCells_some w1 size 0 a 0 c (iV 0 size g) (by simp[iV]) (by simp[iV])
 ·obtain⟨b,off,rfl,hc⟩:=h h0
  refine run_firstCells_some w1 size es.length _ es.length c _ iq fun j v hv=>?_
  obtain⟨i,k,hi,hk,rfl,rfl⟩:=Gp hv
  have he:es[i]?=some (es[i]):=d5 hi
  have hx:(cells es[i])[k]?=some ((cells es[i])[k]'(by rw[hs _ (List.getElem_mem _)];exact hk)):=d5 _
  rw[Addr.add_lit,←hc i _ k _ he hx]
  unfold World.cell?
  rw[hw]
theorem Src.first {P:Program}{w1:World}{size:Nat}{es:List V}{u:Value}{g:Nat→Nat→Value}(s:Src w size es u g)(hs:∀e∈es,(cells e).length=size)(hw:w1.heap=w.heap) :
  (Builtin.firstCells size es.length u).run P w1=.ok (iV es.length size g).toArray w1:=by
 obtain⟨A,c,rfl,h⟩:=s.shape
 exact F4 h hs hw
theorem Gq {L:Nat→Nat→Option cS}{size:Nat}{es:List V}{g:Nat→Nat→Value}(hrep:∀(i:Nat) (e:V) k x,es[i]?=some e→(cells e)[k]?=some x→RepV w ρ rt (L i k) x (g i k))(hs:∀e∈es,(cells e).length=size∧(cells e).all eP=true):∀v∈iV es.length size g,v.oneCell'=true:=by
 intro v hv
 obtain⟨j,hj⟩:=List.mem_iff_getElem?.1 hv
 obtain⟨i,k,hi,hk,rfl,rfl⟩:=Gp hj
 have he:es[i]?=some (es[i]):=d5 hi
 have hx:(cells es[i])[k]?=some ((cells es[i])[k]'(by rw[(hs _ (List.getElem_mem _)).1];exact hk)):=d5 _
 have:=rD (hrep i _ k _ he hx) (List.all_eq_true.1 (hs _ (List.getElem_mem _)).2 _ (List.getElem_mem _))
 generalize g i k=y at this
 cases y<;>first | rfl | exact this.elim
end
section
variable {w w' : World} {ρ ρ' ρ'' : bg} {rt rt' rt'' : ai} {N : Nat→Nat→Prop}
structure Near (w:World) (ρ:bg) (w':World) (ρ':bg) (id:Nat):Prop where
 h1:∀b,ρ b=none→b<w.heap.size→ρ' b=none∧w'.heap[b]?=w.heap[b]?
 h2:∀b o l,ρ b=some (o,l)→(o≠id∨l≠[])→ρ' b=some (o,l)∧w'.heap[b]?=w.heap[b]?
 h3:∀b o l,ρ' b=some (o,l)→b<w'.heap.size∧(ρ b=some (o,l)∨(o=id∧l=[]))
 wk:Wk w w'
theorem Near.keep {id:Nat}(n:Near w ρ w' ρ' id)(hp:0<id)(dA:rt id=none)(hN:∀nv,N id nv){r:Option Root}:Keep N w ρ rt w' ρ' (upd rt id r):=by
 refine⟨fun b hb hl=>n.h1 b hb hl,fun o nv p hNo hl=>?_,fun b l hb=>n.h2 b 0 l hb (.inl (by omega))⟩
 have hne:o≠id:=by rintro rfl;exact hNo (hN nv)
 refine⟨by simpa[b8,bD,bA,upd,hne] using hl,fun b m hb hbl=>?_⟩
 exact⟨(n.h2 b o p hb (.inl hne)).1,n.wk.blk b m hbl⟩
theorem Near.eff {U:Pl}(a:AbsL N w ρ rt ρ' rt' U){id:Nat}(hp:0<id)(hU:∀o l,U o l→o=0∨o=id)(dA:rt id=none)(hN:∀nv,N id nv){w':World}{ρ'':bg}(n:Near w ρ' w' ρ'' id)(J:eM ρ''){s:Nat}{es:List V}(row:bW w' ρ'' (upd rt' id (some ⟨0,s,es⟩)) (id,[]) s es)(hn:nhs es):Eff N w ρ rt w' ρ'' (upd rt' id (some ⟨0,s,es⟩)) id:=by
 have hid':=a.gone dA
 have K:=n.keep (N:=N) (rt:=rt') hp hid' hN (r:=some ⟨0,s,es⟩)
 refine⟨?_,J,?_,a.keep.trans K (Nat.le_refl _),?_,n.wk,?_,fun b l h=>a.f0 b l (by
  rcases (n.h3 b 0 l h).2 with h | h
  ·exact h
  ·omega)⟩
 ·intro o r h
  by_cases ho:o=id
  ·subst ho
   simp[upd] at h
   subst h
   exact row
  ·simp[upd,ho] at h
   exact bW.under K (fun b l hb _=>n.h2 b o l hb (.inl ho)) (a.rok o r h) (a.rtn o r h)
 ·intro o r h
  by_cases ho:o=id
  ·simp[upd,ho] at h
   subst h
   exact hn
  ·simp[upd,ho] at h
   exact a.rtn o r h
 ·refine⟨fun b o l h=>?_,by simp[upd,Nat.ne_of_lt hp,a.lab.z],fun b l h=>?_⟩
  rotate_left
  ·rcases (n.h3 b 0 l h).2 with h | h
   ·exact a.lab.f _ _ h
   ·omega
  obtain⟨h1,h2⟩:=n.h3 b o l h
  refine⟨h1,?_⟩
  by_cases ho:o=id
  ·exact .inr ⟨⟨0,s,es⟩,by simp[upd,ho]⟩
  ·rcases h2 with h2 | h2
   ·rcases (a.lab b o l h2).2 with hu | ⟨r,hu⟩
    ·rcases hU _ _ hu with h | h
     ·exact .inl h
     ·exact absurd h ho
    ·exact .inr ⟨r,by simp[upd,ho,hu]⟩
   ·exact absurd h2.1 ho
 ·intro o r h
  by_cases ho:o=id
  ·subst ho;exact .inr ⟨Nat.le_refl _,by simp[bO]⟩
  ·simp[upd,ho] at h
   obtain⟨r',h',e,_⟩:=a.nv o r h
   exact .inl ⟨r',h',by omega⟩
theorem Lw {P:Program}{t t1 ty e e':TypeId}{i:TypeInfo}(ht:P.underlying t=some (.slice e))(ht1:P.underlying t1=some (.slice e'))(hi:P.info? e=some i){ts:Array TypeId}(h0:ts[0]?=some t)(h1:ts[1]?=some t1){g sLen sCap n:Nat}{cur:Array Value}{T:TypeId}{u:Value}{nw:List Value}(hg:w.heap[g]?=some (.cells cur T (0,0)))(hu:∃A c,u=.slice A n c)(hf:(Builtin.firstCells i.size n u).run P w=.ok nw.toArray w)(hone:∀v∈nw,v.oneCell'=true)(hroom:sLen+n≤sCap)(hfit:sLen*i.size+nw.length≤cur.size) :
  (Builtin.append_ ts ty #[.slice (some ⟨g,0,none⟩) sLen sCap,u]).run P w=.ok (.slice (some ⟨g,0,none⟩) (sLen+n) sCap) (w.setRow g (cur.toList.take (sLen*i.size)++nw++cur.toList.drop (sLen*i.size+nw.length)).toArray):=by
 obtain⟨A,c,rfl⟩:=hu
 have hst:=run_storeCells_at P g (sLen*i.size) T nw 0 cur w hg (by simpa using hfit) hone
 simp only[Nat.add_zero] at hst
 simp[Builtin.append_,h0,h1,run_underlying ht,run_underlying ht1,sizeOf,typeInfo,hi,Builtin.lenOf,hroom,hf,Addr.add_lit,hst]
theorem wv {P:Program}{t t1 ty e e':TypeId}{i:TypeInfo}(ht:P.underlying t=some (.slice e))(ht1:P.underlying t1=some (.slice e'))(hi:P.info? e=some i){ts:Array TypeId}(h0:ts[0]?=some t)(h1:ts[1]?=some t1){A A':Option Addr}{sLen c c':Nat}(hc:sLen≤c):(Builtin.append_ ts ty #[.slice A sLen c,.slice A' 0 c']).run P w=.ok (.slice A sLen c) w:=by
 have hf:(Builtin.firstCells i.size 0 (.slice A' 0 c')).run P w=.ok #[] w:=by
  cases A' with
  | none=>exact run_firstCells_none w _ _ _ _
  | some a=>exact run_firstCells_some w i.size 0 a 0 c' [] (by simp) (by simp)
 cases A with
 | none=>simp[Builtin.append_,h0,h1,run_underlying ht,run_underlying ht1,sizeOf,typeInfo,hi,Builtin.lenOf,hc,hf]
 | some a=>simp[Builtin.append_,h0,h1,run_underlying ht,run_underlying ht1,sizeOf,typeInfo,hi,Builtin.lenOf,hc,hf,storeCells]
theorem Bv {P:Program}{t t1 ty e e':TypeId}{i:TypeInfo}{z:Value}(ht:P.underlying t=some (.slice e))(ht1:P.underlying t1=some (.slice e'))(hi:P.info? e=some i)(hz:i.zero=some z){ts:Array TypeId}(h0:ts[0]?=some t)(h1:ts[1]?=some t1){A:Option Addr}{sLen sCap n:Nat}{u:Value}{olds nw:List Value}(hu:∃A c,u=.slice A n c)(ho:(Builtin.firstCells i.size sLen (.slice A sLen sCap)).run P w.drew=.ok olds.toArray w.drew)(hf:(Builtin.firstCells i.size n u).run P w.drew=.ok nw.toArray w.drew)(hg:sCap<sLen+n)(hl:sLen+n≤mF)(hb:(sLen+n)*i.bytes≤mF) :
  (Builtin.append_ ts ty #[.slice A sLen sCap,u]).run P w=.ok (.slice (some ⟨w.heap.size,0,none⟩) (sLen+n) (grownCap w (sLen+n) sCap e))
   (w.drew.alloc (.cells (olds++nw++(Builtin.zeroCells z.cells (grownCap w (sLen+n) sCap e - (sLen+n))).toList).toArray e)):=by
 obtain⟨A',c,rfl⟩:=hu
 have hlim:mF=1099511627776:=rfl
 have hn:¬(sLen+n≤sCap):=by omega
 have h63':¬(9223372036854775807<((sLen:Int)+(n:Int))):=by omega
 have h48':¬(281474976710656<Builtin.nextslicecap (sLen+n) sCap*i.bytes):=by
  have h1:Builtin.nextslicecap (sLen+n) sCap*i.bytes≤2*(sLen+n)*i.bytes:=Nat.mul_le_mul_right _ (nextslicecap_le hg)
  rw[Nat.mul_assoc] at h1
  omega
 simp[Builtin.append_,h0,h1,run_underlying ht,run_underlying ht1,sizeOf,typeInfo,zeroValue,hi,hz,Builtin.lenOf,hn,h63',h48',Question.forced,hf,ho,newRow,grownCap]
 congr 2
 apply Array.ext'
 simp
theorem vn {l:cS}{s:Nat}{z:List V}{u:Value}(h:RepV w ρ rt (some l) (.usl s z) u):∃A c,∃g:Nat→Nat→Value,u=.slice A z.length c∧z.length≤c∧(∀(i:Nat) (e:V),z[i]?=some e→(cells e).length=s)∧
  (c≠0→∃b arr T,ρ b=some l∧w.heap[b]?=some (.cells arr T (0,0))∧A=some ⟨b,0,none⟩∧c*s≤arr.size∧∀(i:Nat) (e:V) k x,z[i]?=some e→(cells e)[k]?=some x→arr[i*s+k]?=some (g i k))∧
  (∀(i:Nat) (e:V) k x,z[i]?=some e→(cells e)[k]?=some x→RepV w ρ rt (some (l.at i k)) x (g i k)):=by
 cases h with
 | usl0 _ _ A=>exact⟨A,0,fun _ _=>undef,rfl,by simp,by simp,by simp,by simp⟩
 | usl _ _ _ b A c arr T g hρ hb hl hA hcap hs hc hh=>exact⟨A,c,g,rfl,hl,hs,fun h0=>⟨b,arr,T,hρ,hb,hA h0,hcap,hc⟩,hh⟩
theorem uC {o nv:Nat}{p:List (Nat×Nat)}{s off len:Nat}{v:V}(h:bX rt (.hs o nv p s off len)=some (v,rt')){s1:Nat}{row:List V}(hl:bD rt o nv p=some (s1,row)):v=.usl s1 (row.take len)∧s=s1∧off=0:=by
 unfold bX at h
 unfold bD at hl
 simp only[aG] at h hl
 obtain⟨r,hr,x,hx,h⟩:=h
 obtain⟨r',hr',hx'⟩:=hl
 rw[hr] at hr'
 cases hr'
 rw[hx] at hx'
 cases hx'
 split at h
 ·rename_i hc
  simp only[aI] at h
  obtain⟨_,_,h⟩:=h
  cases h
  exact⟨rfl,hc.2.2,hc.1⟩
 ·cases h
theorem QD (H:et w ρ rt)(J:eM ρ)(hr:gE rt)(hL:Lab w ρ rt jA){id:Nat}(hp:0<id)(dA:rt id=none){es:List V}{g:Nat→Nat→Value}(hn:nhs es)(h:(rt'=rt∧∀(i:Nat) (e:V) k x,es[i]?=some e→(cells e)[k]?=some x→RepV w ρ rt none x (g i k))∨
   ∃q r,rt q=some r∧rt'=upd rt q none∧∀(i:Nat) (e:V) k x,es[i]?=some e→(cells e)[k]?=some x→RepV w ρ rt (some (q,[(i,k)])) x (g i k)) :
  ∃ρ1,AbsL N w ρ rt ρ1 rt' (fun o l=>o=0∨(o=id∧l≠[]))∧∀(i:Nat) (e:V) k x,es[i]?=some e→(cells e)[k]?=some x→RepV w ρ1 rt' (some (id,[(i,k)])) x (g i k):=by
 rcases h with⟨rfl,h⟩ | ⟨q,r,ho,rfl,h⟩
 ·exact⟨ρ,((Abs.refl H J hr hL).weaken fun o l h=>.inl h).l,fun i e k x he hx=>(h i e k x he hx).anyN⟩
 ·have hq0:q≠0:=by rintro rfl;rw[hL.z] at ho;cases ho
  have hqi:id≠q:=by rintro rfl;rw[ho] at dA;cases dA
  have a:=Mu (N:=N) H J hr hL ho
  obtain⟨K,b⟩:=D0 (n:=0) a.l (q:=q) (id:=id) (fun o l h=>h.imp (fun h=>h) fun h=>.inl h) hq0 (Nat.ne_of_gt hp) hqi (by simp[upd]) (a.gone dA)
  refine⟨_,{ b with lab:=⟨fun x o l hx=>⟨(b.lab x o l hx).1,?_⟩,b.lab.z,b.lab.f⟩ },fun i e k x he hx=>?_⟩
  ·rcases (b.lab x o l hx).2 with (h1 | rfl) | h1
   ·exact .inl (.inl h1)
   ·refine .inl (.inr ⟨rfl,?_⟩)
    rintro rfl
    rcases kN hx with⟨_,h2,_⟩ | ⟨_,⟨i,k,t,_,h2⟩ | ⟨_,h2,_⟩⟩
    ·exact h2 rfl
    ·cases h2
    ·rcases (hL _ _ _ h2).2 with h3 | ⟨r',h3⟩
     ·exact absurd h3 (Nat.ne_of_gt hp)
     ·rw[dA] at h3;cases h3
   ·exact .inr h1
  ·have h1:=RepV.under a.keep (fun b l hb _=>⟨hb,rfl⟩) (h i e k x he hx) (bC (cp hn he) hx)
   simpa using h1.shift K (bC (cp hn he) hx)
theorem QE (H:et w ρ rt)(J:eM ρ)(hr:gE rt)(hL:Lab w ρ rt jA){id:Nat}(hp:0<id)(dA:rt id=none){es z:List V}{g:Nat→Nat→Value}(hn:nhs es)(h:(rt'=rt∧∀(i:Nat) (e:V) k x,es[i]?=some e→(cells e)[k]?=some x→RepV w ρ rt none x (g i k))∨
   ∃q r,rt q=some r∧rt'=upd rt q none∧∀(i:Nat) (e:V) k x,es[i]?=some e→(cells e)[k]?=some x→RepV w ρ rt (some (q,[(i,k)])) x (g i k)){o1 nv s:Nat}{p:List (Nat×Nat)}{dv:V}{ud:Value}(hd:RepV w ρ rt none (.hs o1 nv p s 0 z.length) ud)(hdn:an N (.hs o1 nv p s 0 z.length))(hz:bD rt' o1 nv p=some (s,z))(hab:bX rt' (.hs o1 nv p s 0 z.length)=some (dv,rt'')) :
  ∃ρ3,AbsL N w ρ rt ρ3 rt'' (fun o _=>o=0∨o=id)∧nhs z∧(∀(i:Nat) (e:V) k x,es[i]?=some e→(cells e)[k]?=some x→RepV w ρ3 rt'' (some (id,[(z.length+i,k)])) x (g i k))∧
   ∃A c,∃gz:Nat→Nat→Value,ud=.slice A z.length c∧z.length≤c∧(∀(i:Nat) (e:V),z[i]?=some e→(cells e).length=s)∧
    (c≠0→∃b arr T,ρ3 b=some (id,[])∧w.heap[b]?=some (.cells arr T (0,0))∧A=some ⟨b,0,none⟩∧c*s≤arr.size∧∀(i:Nat) (e:V) k x,z[i]?=some e→(cells e)[k]?=some x→arr[i*s+k]?=some (gz i k))∧
    (∀(i:Nat) (e:V) k x,z[i]?=some e→(cells e)[k]?=some x→RepV w ρ3 rt'' (some (id,[(i,k)])) x (gz i k)):=by
 rcases h with⟨rfl,h⟩ | ⟨q,r,ho,rfl,h⟩
 ·obtain⟨ρ2,ab2,dr,dn,dc⟩:=lI (N:=N) H J hr hL (q:=id) (dst:=[]) (fun l h=>absurd hp (by simp only[jA] at h;omega)) (Nat.ne_of_gt hp) dA hd hdn hab
  obtain⟨rfl,_,_⟩:=uC hab hz
  rw[List.take_length] at dr dn
  have hzn:nhs z:=by simpa[nh] using dn
  exact⟨ρ2,(ab2.weaken fun o l h=>h.imp (fun h=>h) fun h=>h.1).l,hzn,fun i e k x he hx=>((h i e k x he hx).keep ab2.keep (cz (bC (cp hn he) hx))).anyN,vn dr⟩
 ·have hq0:q≠0:=by rintro rfl;rw[hL.z] at ho;cases ho
  have hqi:id≠q:=by rintro rfl;rw[ho] at dA;cases dA
  have a:=Mu (N:=N) H J hr hL ho
  obtain⟨ρ2,ab2,dr,dn,dc⟩:=lI (N:=N) a.rok a.inj a.rtn a.lab (q:=id) (dst:=[]) (fun l h=>h.elim (fun h=>absurd hp (by omega)) hqi) (Nat.ne_of_gt hp) (a.gone dA) (hd.keep a.keep hdn) hdn hab
  obtain⟨rfl,_,_⟩:=uC hab hz
  rw[List.take_length] at dr dn
  have hzn:nhs z:=by simpa[nh] using dn
  have abs:=a.trans ab2
  have hq:rt'' q=none:=ab2.gone (by simp[upd])
  obtain⟨K,b⟩:=D0 (n:=z.length) abs.l (q:=q) (id:=id) (fun o l h=>by
   rcases h with (h | h) | h
   ·exact .inl h
   ·exact .inr (.inl h)
   ·exact .inr (.inr h.1)) hq0 (Nat.ne_of_gt hp) hqi hq (abs.gone dA)
  obtain⟨A,c,gz,h1,h2,h3,h4,h5⟩:=vn dr
  refine⟨_,b,hzn,fun i e k x he hx=>?_,A,c,gz,h1,h2,h3,fun hc=>?_,fun i e k x he hx=>?_⟩
  ·have q1:=RepV.under a.keep (fun b l hb _=>⟨hb,rfl⟩) (h i e k x he hx) (bC (cp hn he) hx)
   exact (ab2.tr q _ _ _ (by simp[upd]) q1 (bC (cp hn he) hx)).shift K (bC (cp hn he) hx)
  ·obtain⟨b,arr,T,q1,q2,q3,q4,q5⟩:=h4 hc
   exact⟨b,arr,T,Mg q1 hqi,q2,q3,q4,q5⟩
  ·exact RepV.shift_low hqi K (cd.1 he).1 (h5 i e k x he hx) (bC (cp hzn he) hx)
section
variable {P : Program} {E : Env} (A : Agree P E) {st : St} {a : Act} {o : Oper} (H : et w ρ st.rt) (J : eM ρ) (T : ji w ρ st.rt st.tm a.tmps) (hr : gE st.rt) (hL : Lab w ρ st.rt jA) {Un : Nat→Prop} {id : Nat} (hm : wu (bG Un st.rt) st.tm) (hi : Fresh Un st.rt id)
include A H J T hr hL hm hi
theorem Oa {t t1:TypeId}{x y:Operand}{d xv v:V}{ts:Array TypeId}{rt':ai}(ho:o.op=.call { callee:=.builtin .append,args:=#[x,y],argTypes:=ts })(h0:ts[0]?=some t)(h1:ts[1]?=some t1)(hs1:fC (E.desc t1)=true)(hd:ev st x=some d)(hx:ev st y=some xv)(h:jX E st.rt id t d xv=some (v,rt')) :
  ∃u w',(execOp a.eval o).run P w=.ok (.value u) w'∧pD Un w ρ st.rt id v rt' u w':=by
 obtain⟨e',he'⟩:∃e',P.underlying t1=some (.slice e'):=by
  cases hq:E.desc t1 with
  | none=>simp[hq,fC] at hs1
  | some d=>cases d<;>simp[hq,fC] at hs1;exact⟨_,A.desc hq⟩
 have hN:∀nv,bG Un st.rt id nv:=fun nv=>.inl hi.uid
 have dA:=hi.at
 have go:∀u w',(Builtin.append_ ts o.type #[a.eval x,a.eval y]).run P w=.ok u w'→pD Un w ρ st.rt id v rt' u w'→∃u w',(execOp a.eval o).run P w=.ok (.value u) w'∧pD Un w ρ st.rt id v rt' u w':=by
  intro u w' hrun hout
  exact⟨u,w',by simp[execOp,ho,resolve,invoke,builtin,hrun],hout⟩
 unfold jX at h
 split at h
 ·rename_i e sz bt zv htt
  simp only[aG] at h
  obtain⟨ei,hei,⟨es,rt1⟩,hes,h⟩:=h
  split at h
  ·rename_i hall
   simp only at hall
   obtain⟨⟨hpos,hzs⟩,hall⟩:=hall
   have hall':∀e∈es,(cells e).length=ei.size∧(cells e).all eP=true:=fun e he=>by
    have:=List.all_eq_true.1 hall e he
    simp only[Bool.and_eq_true,beq_iff_eq] at this
    exact this
   have hsz:∀e∈es,(cells e).length=ei.size:=fun e he=>(hall' e he).1
   obtain⟨i,hi1,hi2,hi3,hi4⟩:=A.info e ei hei
   have hu:=A.und t _ htt
   simp only at hu
   have hxa:al xv=false:=by cases xv<;>first | rfl | simp[eS] at hes
   obtain⟨g,hesn,src,hmv⟩:=JN (N:=bG Un st.rt) H J hr hL (aM.one hxa (cg T hx)) (gf hm hx) hes hsz hpos
   have shape:=src.shape
   obtain⟨Ax,cx,hux,hAx⟩:=shape
   have hfirst:∀w1:World,w1.heap=w.heap→(Builtin.firstCells i.size es.length (a.eval y)).run P w1=.ok (iV es.length ei.size g).toArray w1:=fun w1 hw1=>by
    rw[hi2]
    exact src.first hsz hw1
   have hone:∀v∈iV es.length ei.size g,v.oneCell'=true:=by
    rcases hmv with⟨_,h⟩ | ⟨q,r,_,_,h⟩
    ·exact Gq h hall'
    ·exact Gq h hall'
   split at h
   ·-- nothing yet
    rename_i nl
    split at h
    ·rename_i hlim
     cases h
     simp only at hlim ⊢
     obtain⟨l1,l2⟩:=hlim
     have hdr:=aM.one rfl (cg T hd)
     have hud:a.eval x=.slice none 0 0:=by
      generalize a.eval x=ud at hdr
      cases hdr with
      | isl0 _ _ _ c hn=>obtain⟨rfl,rfl⟩:=hn rfl;rfl
     obtain⟨ρ1,ab,hrep⟩:=QD (N:=bG Un st.rt) H J hr hL hi.p dA hesn hmv
     by_cases hne:es=[]
     ·subst hne
      have hrun:=wv (P:=P) (w:=w) (ty:=o.type) hu he' hi1 h0 h1 (A:=none) (sLen:=0) (c:=0) (A':=Ax) (c':=cx) (Nat.le_refl _)
      refine go (.slice none 0 0) w (by rw[hud,hux];exact hrun) ⟨ρ1,?_,aM.mk1 rfl (.hs _ _ _ _ _ _ _ _ (fun _=>⟨0,none,rfl,Nat.le_refl _,fun h=>absurd rfl h⟩) trivial),jI A H J T hr hL hm hi⟩
      refine Near.eff ab hi.p (fun o l h=>h.imp (fun h=>h) fun h=>h.1) dA hN ⟨fun b hb _=>⟨hb,rfl⟩,fun b o l hb _=>⟨hb,rfl⟩,fun b o l hb=>⟨(ab.lab b o l hb).1,.inl hb⟩,Wk.refl⟩ ab.inj (.inl rfl) hesn
     ·have hpe:0<es.length:=List.length_pos_iff.2 hne
      have hrun:=Bv (P:=P) (w:=w) (ty:=o.type) (u:=a.eval y) (olds:=[]) hu he' hi1 hi4 h0 h1 (A:=none) (sLen:=0) (sCap:=0) (n:=es.length) ⟨_,_,hux⟩ (by simp[run_firstCells_none]) (hfirst _ rfl) (by omega) (by omega) (by rw[Nat.zero_add,hi3];exact l1)
      rw[Nat.zero_add] at hrun
      simp only[List.nil_append] at hrun
      generalize hcap:grownCap w es.length 0 e=cap at hrun
      have hge:es.length≤cap:=by rw[←hcap];exact grownCap_ge _ _ _ _
      generalize harr:(iV es.length ei.size g++(Builtin.zeroCells ei.zv.cells (cap - es.length)).toList).toArray=arr at hrun
      refine go _ _ (by rw[hud];exact hrun) ⟨gW ρ1 w.heap.size (id,[]),?_,aM.mk1 rfl (Gn (w:=w) (w':=w.drew.alloc (.cells arr e)) rfl hge ?_),jI A H J T hr hL hm hi⟩
      ·refine AbsL.newRoot (w':=w.drew.alloc (.cells arr e)) (es:=es) (T:=e) (g:=g) ab hi.p (fun o l h=>h) dA hN rfl rfl rfl rfl (fun i e he=>hsz e (ii he)) ?_ hrep hesn
       intro i e k x he hx
       have hi':=(cd.1 he).1
       have hk:=(cd.1 hx).1
       rw[hsz e (ii he)] at hk
       rw[←harr,List.getElem?_toArray,lm]
       ·exact rz hi' hk
       ·exact (cd.1 (rz (g:=g) hi' hk)).1
      ·rw[←harr]
       simp only[List.size_toArray,List.length_append,iq,Array.length_toList,size_zeroCells,hzs]
       rw[←Nat.add_mul]
       exact Nat.mul_le_mul_right _ (by omega)
    ·cases h
   ·rename_i o1 nv p s off len
    simp only[aG] at h
    obtain⟨⟨s1,z⟩,hz,h⟩:=h
    split at h
    ·rename_i hcond
     simp only at hcond
     obtain⟨c1,c2,c3,c4,c5⟩:=hcond
     simp only[aI] at h
     obtain⟨⟨dv,rt2⟩,hab,h⟩:=h
     cases h
     have hdn:=gf hm hd
     obtain⟨rfl,hs1',rfl⟩:=uC hab hz
     subst hs1'
     subst c2
     subst c3
     obtain⟨ρ2,abs,hzn,hesr,Ad,c,gz,hud,hlc,hzl,hblk,hzr⟩:=QE (N:=bG Un st.rt) H J hr hL hi.p dA hesn hmv (aM.one rfl (cg T hd)) hdn hz hab
     have hesn':nhs (z++es):=cZ.2 fun x hx=>by
      rcases List.mem_append.1 hx with h | h
      ·exact cZ.1 hzn x h
      ·exact cZ.1 hesn x h
     have hU:∀o l,(fun (o:Nat) (_:List (Nat×Nat))=>o=0∨o=id) o l→o=0∨o=id:=fun o l h=>h
     have hzl':∀e∈z,(cells e).length=ei.size:=fun e he=>by
      obtain⟨j,hj⟩:=List.mem_iff_getElem?.1 he
      exact hzl j e hj
     have hboth:∀(j:Nat) (e:V),(z++es)[j]?=some e→(j<z.length∧z[j]?=some e)∨(z.length≤j∧es[j - z.length]?=some e):=fun j e he=>by
      by_cases hj:j<z.length
      ·rw[lm hj] at he;exact .inl ⟨hj,he⟩
      ·rw[mY (by omega)] at he;exact .inr ⟨by omega,he⟩
     by_cases hne:es=[]
     ·subst hne
      have hrun:=wv (P:=P) (w:=w) (ty:=o.type) hu he' hi1 h0 h1 (A:=Ad) (sLen:=z.length) (c:=c) (A':=Ax) (c':=cx) hlc
      simp only[List.append_nil,List.length_nil,Nat.add_zero] at go ⊢
      refine go (.slice Ad z.length c) w (by rw[hud,hux];exact hrun) ⟨ρ2,?_,aM.mk1 rfl (.hs _ _ _ _ _ _ _ _ (fun _=>⟨c,Ad,rfl,hlc,fun hc0=>?_⟩) trivial),jI A H J T hr hL hm hi⟩
      ·have n0:Near w ρ2 w ρ2 id:=⟨fun b hb _=>⟨hb,rfl⟩,fun b o l hb _=>⟨hb,rfl⟩,fun b o l hb=>⟨(abs.lab b o l hb).1,.inl hb⟩,Wk.refl⟩
       refine Near.eff abs hi.p hU dA hN n0 abs.inj ?_ hzn
       refine bW.under (n0.keep (N:=bG Un st.rt) (rt:=rt2) hi.p (abs.gone dA) hN) (fun b l hb _=>⟨hb,rfl⟩) ?_ hzn
       by_cases hz0:z=[]
       ·exact .inl hz0
       ·obtain⟨b,arr,TT,q1,q2,rfl,q4,q5⟩:=hblk (by have:=List.length_pos_iff.2 hz0;omega)
        exact .inr ⟨b,arr,TT,gz,q1,q2,hzl,q5,hzr⟩
      ·obtain⟨b,arr,TT,q1,q2,rfl,q4,q5⟩:=hblk hc0
       exact⟨b,_,q1,⟨arr,TT,q2,rfl⟩,by simp,by simpa using q4⟩
     ·have hpe:0<es.length:=List.length_pos_iff.2 hne
      by_cases hroom:z.length+es.length≤c
      ·-- in place
       obtain⟨b,arr,TT,q1,q2,rfl,q4,q5⟩:=hblk (by omega)
       have hfit:z.length*ei.size+es.length*ei.size≤arr.size:=by
        rw[←Nat.add_mul]
        exact Nat.le_trans (Nat.mul_le_mul_right _ hroom) q4
       have hrun:=Lw (P:=P) (ty:=o.type) hu he' hi1 h0 h1 (u:=a.eval y) (sLen:=z.length) (sCap:=c) (n:=es.length) q2 ⟨_,_,hux⟩ (hfirst w rfl) hone hroom (by rw[iq,hi2];exact hfit)
       rw[iq,hi2] at hrun
       generalize harr':(arr.toList.take (z.length*ei.size)++iV es.length ei.size g++arr.toList.drop (z.length*ei.size+es.length*ei.size)).toArray=arr' at hrun
       have hget':∀j,arr'[j]?=if z.length*ei.size≤j∧j<z.length*ei.size+es.length*ei.size then (iV es.length ei.size g)[j - z.length*ei.size]? else arr[j]?:=fun j=>by
        rw[←harr',List.getElem?_toArray,yF (n:=es.length*ei.size) iq (by simpa using hfit)]
        simp
       have hsz':arr'.size=arr.size:=by rw[←harr'];simp[iq];omega
       have hw1:=setRow_heap w b arr arr' TT (0,0) q2
       have hw2:∀c,c≠b→(w.setRow b arr').heap[c]?=w.heap[c]?:=fun c hc=>setRow_other w b c arr' hc
       have n0:Near w ρ2 (w.setRow b arr') ρ2 id:=by
        refine⟨fun b' hb _=>⟨hb,hw2 b' (by rintro rfl;rw[q1] at hb;cases hb)⟩,fun b' o l hb hn=>⟨hb,hw2 b' (by rintro rfl;rw[q1] at hb;cases hb;rcases hn with h | h<;>exact h rfl)⟩,fun b' o l hb=>⟨by simpa using (abs.lab b' o l hb).1,.inl hb⟩,rfl,rfl,rfl,by simp,fun b' n hb=>?_⟩
        obtain⟨a1,t1,p1,p2⟩:=hb
        by_cases hbb:b'=b
        ·subst hbb
         rw[q2] at p1
         cases p1
         exact⟨arr',TT,hw1,by rw[hsz',p2]⟩
        ·exact⟨a1,t1,by rw[hw2 b' hbb];exact p1,p2⟩
       have K:=n0.keep (N:=bG Un st.rt) (rt:=rt2) (r:=some ⟨0,ei.size,z++es⟩) hi.p (abs.gone dA) hN
       refine go _ _ (by rw[hud];exact hrun) ⟨ρ2,?_,aM.mk1 rfl (.hs _ _ _ _ _ _ _ _ (fun _=>⟨c,_,rfl,hroom,fun _=>⟨b,arr'.size,q1,⟨arr',TT,hw1,rfl⟩,by simp,by rw[hsz'];simpa using q4⟩⟩) trivial),jI A H J T hr hL hm hi⟩
       refine Near.eff abs hi.p hU dA hN n0 abs.inj (.inr ⟨b,arr',TT,fun i k=>if i<z.length then gz i k else g (i - z.length) k,q1,hw1,?_,?_,?_⟩) hesn'
       ·intro j e he
        rcases hboth j e he with⟨_,h⟩ | ⟨_,h⟩
        ·exact hzl j e h
        ·exact hsz e (ii h)
       ·intro j e k x he hx
        have hk:=(cd.1 hx).1
        rcases hboth j e he with⟨hj,h⟩ | ⟨hj,h⟩
        ·rw[hzl j e h] at hk
         have:(j+1)*ei.size≤z.length*ei.size:=Nat.mul_le_mul_right _ hj
         rw[Nat.succ_mul] at this
         show arr'[j*ei.size+k]?=some (if j<z.length then _ else _)
         rw[if_pos hj,hget',if_neg (by omega)]
         exact q5 j e k x h hx
        ·have hje:=(cd.1 h).1
         rw[hsz e (ii h)] at hk
         have e1:j*ei.size+k=z.length*ei.size+((j - z.length)*ei.size+k):=by
          rw[←Nat.add_assoc,←Nat.add_mul]
          congr 2
          omega
         have e2:=rz (g:=g) hje hk
         have e3:=(cd.1 e2).1
         rw[iq] at e3
         show arr'[j*ei.size+k]?=some (if j<z.length then _ else _)
         rw[if_neg (by omega),hget',if_pos (by omega),e1,Nat.add_sub_cancel_left]
         exact e2
       ·intro j e k x he hx
        rcases hboth j e he with⟨hj,h⟩ | ⟨hj,h⟩
        ·show RepV _ _ _ _ _ (if j<z.length then _ else _)
         rw[if_pos hj]
         exact RepV.under K (fun b l hb hp=>n0.h2 b id l hb (.inr (by rintro rfl;obtain⟨t,ht⟩:=hp;simp at ht))) (hzr j e k x h hx) (bC (cp hzn h) hx)
        ·show RepV _ _ _ _ _ (if j<z.length then _ else _)
         rw[if_neg (by omega)]
         have e1:cS.at (id,[]) j k=((id,[(z.length+(j - z.length),k)]):cS):=by rw[show z.length+(j - z.length)=j by omega];rfl
         rw[e1]
         exact RepV.under K (fun b l hb hp=>n0.h2 b id l hb (.inr (by rintro rfl;obtain⟨t,ht⟩:=hp;simp at ht))) (hesr _ e k x h hx) (bC (cp hesn h) hx)
      ·-- elsewhere
       have hlo:∀w1:World,w1.heap=w.heap→(Builtin.firstCells i.size z.length (.slice Ad z.length c)).run P w1=.ok (iV z.length ei.size gz).toArray w1:=fun w1 hw1=>by
        rw[hi2]
        refine F4 (fun hzne=>?_) hzl' hw1
        obtain⟨b,arr,TT,q1,q2,rfl,q4,q5⟩:=hblk (by have:=List.length_pos_iff.2 hzne;omega)
        refine⟨b,0,rfl,fun i e k x he hx=>?_⟩
        rw[Nat.zero_add]
        simp only[World.cell?,q2]
        exact q5 i e k x he hx
       have hrun:=Bv (P:=P) (w:=w) (ty:=o.type) (u:=a.eval y) hu he' hi1 hi4 h0 h1 (A:=Ad) (sLen:=z.length) (sCap:=c) (n:=es.length) ⟨_,_,hux⟩ (hlo _ rfl) (hfirst _ rfl) (by omega) c5 (by rw[hi3];exact c4)
       generalize hcap:grownCap w (z.length+es.length) c e=cap at hrun
       have hge:z.length+es.length≤cap:=by rw[←hcap];exact grownCap_ge _ _ _ _
       generalize harr:(iV z.length ei.size gz++iV es.length ei.size g++(Builtin.zeroCells ei.zv.cells (cap - (z.length+es.length))).toList).toArray=arr at hrun
       let ρ3:bg:=fun b=>if b=w.heap.size then some (id,[]) else if ρ2 b=some (id,[]) then none else ρ2 b
       have hw:(w.drew.alloc (.cells arr e)).heap=w.heap.push (.cells arr e (0,0)):=rfl
       have hlt:∀b o l,ρ2 b=some (o,l)→b<w.heap.size:=fun b o l hb=>(abs.lab b o l hb).1
       have hold:∀b,b<w.heap.size→(w.drew.alloc (.cells arr e)).heap[b]?=w.heap[b]?:=fun b hb=>by
        rw[hw,Array.getElem?_push,if_neg (by omega)]
       have n0:Near w ρ2 (w.drew.alloc (.cells arr e)) ρ3 id:=by
        refine⟨fun b hb hl=>⟨?_,hold b hl⟩,fun b o l hb hn=>⟨?_,hold b (hlt b o l hb)⟩,fun b o l hb=>?_,Wk.push hw rfl rfl rfl⟩
        ·simp[ρ3,Nat.ne_of_lt hl,hb]
        ·have:=hlt b o l hb
         simp only[ρ3]
         rw[if_neg (by omega),if_neg]
         ·exact hb
         ·rw[hb]
          intro hq
          cases hq
          rcases hn with h | h<;>exact h rfl
        ·simp only[ρ3] at hb
         split at hb
         ·cases hb
          rename_i hb'
          subst hb'
          exact⟨by rw[hw];simp,.inr ⟨rfl,rfl⟩⟩
         ·split at hb
          ·cases hb
          ·exact⟨by rw[hw];have:=hlt b o l hb;simp;omega,.inl hb⟩
       have J3:eM ρ3:=by
        intro b b' L hb hb'
        simp only[ρ3] at hb hb'
        split at hb<;>split at hb'
        ·simp_all
        ·cases hb
         split at hb'
         ·cases hb'
         ·rename_i h ;exact absurd hb' h
        ·cases hb'
         split at hb
         ·cases hb
         ·rename_i h ;exact absurd hb h
        ·split at hb
         ·cases hb
         ·split at hb'
          ·cases hb'
          ·exact abs.inj _ _ _ hb hb'
       have K:=n0.keep (N:=bG Un st.rt) (rt:=rt2) (r:=some ⟨0,ei.size,z++es⟩) hi.p (abs.gone dA) hN
       have hb3:ρ3 w.heap.size=some (id,[]):=by simp[ρ3]
       have hsz3:cap*ei.size≤arr.size:=by
        rw[←harr]
        simp only[List.size_toArray,List.length_append,iq,Array.length_toList,size_zeroCells,hzs]
        rw[←Nat.add_mul,←Nat.add_mul]
        exact Nat.mul_le_mul_right _ (by omega)
       have hnew:(w.drew.alloc (.cells arr e)).heap[w.heap.size]?=some (.cells arr e (0,0)):=by rw[hw];simp
       refine go _ _ (by rw[hud];exact hrun) ⟨ρ3,?_,aM.mk1 rfl (.hs _ _ _ _ _ _ _ _ (fun _=>⟨cap,_,rfl,hge,fun _=>⟨w.heap.size,arr.size,hb3,⟨arr,e,hnew,rfl⟩,by simp,by simpa using hsz3⟩⟩) trivial),jI A H J T hr hL hm hi⟩
       refine Near.eff abs hi.p hU dA hN n0 J3 (.inr ⟨w.heap.size,arr,e,fun i k=>if i<z.length then gz i k else g (i - z.length) k,hb3,hnew,?_,?_,?_⟩) hesn'
       ·intro j e he
        rcases hboth j e he with⟨_,h⟩ | ⟨_,h⟩
        ·exact hzl j e h
        ·exact hsz e (ii h)
       ·intro j e k x he hx
        have hk:=(cd.1 hx).1
        rw[←harr,List.getElem?_toArray]
        rcases hboth j e he with⟨hj,h⟩ | ⟨hj,h⟩
        ·rw[hzl j e h] at hk
         have e2:=rz (g:=gz) hj hk
         have e3:=(cd.1 e2).1
         show _=some (if j<z.length then _ else _)
         rw[if_pos hj,List.append_assoc,lm e3]
         exact e2
        ·have hje:=(cd.1 h).1
         rw[hsz e (ii h)] at hk
         have e1:j*ei.size+k=z.length*ei.size+((j - z.length)*ei.size+k):=by
          rw[←Nat.add_assoc,←Nat.add_mul]
          congr 2
          omega
         have e2:=rz (g:=g) hje hk
         have e3:=(cd.1 e2).1
         show _=some (if j<z.length then _ else _)
         rw[if_neg (by omega),List.append_assoc,e1,mY (by rw[iq];omega),iq,Nat.add_sub_cancel_left,lm e3]
         exact e2
       ·intro j e k x he hx
        rcases hboth j e he with⟨hj,h⟩ | ⟨hj,h⟩
        ·show RepV _ _ _ _ _ (if j<z.length then _ else _)
         rw[if_pos hj]
         exact RepV.under K (fun b l hb hp=>n0.h2 b id l hb (.inr (by rintro rfl;obtain⟨t,ht⟩:=hp;simp at ht))) (hzr j e k x h hx) (bC (cp hzn h) hx)
        ·show RepV _ _ _ _ _ (if j<z.length then _ else _)
         rw[if_neg (by omega)]
         have e1:cS.at (id,[]) j k=((id,[(z.length+(j - z.length),k)]):cS):=by rw[show z.length+(j - z.length)=j by omega];rfl
         rw[e1]
         exact RepV.under K (fun b l hb hp=>n0.h2 b id l hb (.inr (by rintro rfl;obtain⟨t,ht⟩:=hp;simp at ht))) (hesr _ e k x h hx) (bC (cp hesn h) hx)
    ·cases h
   ·cases h
  ·cases h
 ·cases h
end
end
end Go.Ln
