/-
  The reading of the code, part 1.
-/
import Derived.Calls
import Derived.Orders
import Derived.Laws.Entries
import Derived.Laws.Cells
import Derived.Laws.Concat
import Derived.Lib.Strings
import Derived.Laws.Slices
import Derived.Laws.StructEq
import Derived.ChangeKeysEq
import Derived.Laws.BytesString
import Derived.Laws.MakeOwn
import Derived.Laws.CopyRow
import Derived.Laws.AppendOwn
import Derived.Eval
import Derived.Lib.Bytealg
import Derived.ProofKit
import Derived.Deep.Slices
import Derived.Shelf.Strconv.Itoa3
import Derived.Shelf.Strconv.Atoi
import Derived.Lib.AtoiErrMem
import Derived.Lib.AppendIntMem
import Derived.Lib.ItoaLen
import Derived.Shelf.Sort.Plain
import Derived.Shelf.Slices.In.SortNone
set_option linter.unusedVariables false
namespace Go.Ln
open Go
section
theorem aV {α β}{o:Option α}{f:α→Option β}{b:β}:o.bind f=some b↔∃a,o=some a∧f a=some b:=Option.bind_eq_some_iff
theorem ba {α β}{x:β}{f:α→β}{o:Option α}:o.map f=some x↔∃a,o=some a∧f a=x:=Option.map_eq_some_iff
theorem cX {α}{a:α}{l:List α}{i:Nat}:l[i]?=some a↔∃h,l[i]=a:=List.getElem?_eq_some_iff
theorem em {α}{l:List α}{i:Nat}(h:i<l.length):l[i]?=some l[i]:=List.getElem?_eq_getElem h
theorem iO {α}{l:List α}{i:Nat}{a:α}(h:l[i]?=some a):a∈l:=List.mem_of_getElem? h
theorem mt {α}{l m:List α}{i:Nat}(h:i<l.length):(l++m)[i]?=l[i]?:=List.getElem?_append_left h
theorem ph {α}{l m:List α}{i:Nat}(h:l.length≤i):(l++m)[i]?=m[i - l.length]?:=List.getElem?_append_right h
theorem oE {α}{a:α}{l:Array α}{i:Nat}:l[i]?=some a↔∃h,l[i]=a:=Array.getElem?_eq_some_iff
theorem cG {α β}{a:α}{f:α→Option β}:(some a).bind f=f a:=rfl
inductive V where
 | und
 | dead
 | bool (b:Bool)
 | int (k:IntKind) (n:Int)
 | str (s:ByteArray)
 | nilp
 | nilfn
 | nilif
 | fn (f:FuncId) (caps:List V)
 | iface (t:TypeId) (v:V)
 | agg (cs:List V)
 | tup (vs:List V)
 | iptr (e:V) (k:Nat)
 | isl (isnil:Bool) (es:List V)
 | uptr (e:V)
 | usl (s:Nat) (es:List V)
 | hp (o nv:Nat) (path:List (Nat×Nat)) (s i k:Nat)
 | hs (o nv:Nat) (path:List (Nat×Nat)) (s off len:Nat)
 deriving Inhabited
def cells:V→List V
 | .agg cs=>cs
 | v=>[v]
structure Root where
 nv:Nat
 s:Nat
 es:List V
abbrev aw:=Nat→Option Root
def upd (rt:aw)(o:Nat)(r:Option Root):aw:=fun x=>if x=o then r else rt x
structure St where
 tm:List V
 rt:aw
 nx:Nat
structure TI where
 desc:TypeDesc
 size:Nat
 bytes:Nat
 zv:Value
structure Ent where
 own:List Bool
 F:List V→Option (V×List V)
structure Env where
 ty:TypeId→Option TI
 fn:FuncId→Option Ent
 eqs:List TypeId:=[]
def Env.desc (E:Env)(t:TypeId):Option TypeDesc:=
 match E.ty t with
 | some i=>some i.desc
 | none=>none
def bG:List (Nat×Nat)→Nat→List V→Option (Nat×List V)
 | [],s,es=>some (s,es)
 | (i,k)::p,_,es=>
  match es[i]? with
  | none=>none
  | some e=>match (cells e)[k]? with
   | some (.usl s' es')=>bG p s' es'
   | some (.uptr e')=>bG p (cells e').length [e']
   | _=>none
def d7 (e:V)(k:Nat)(v:V):V:=
 match e with
 | .agg cs=>.agg (cs.set k v)
 | _=>v
def setRow (new:List V):List (Nat×Nat)→List V→Option (List V)
 | [],_=>some new
 | (i,k)::p,es=>
  match es[i]? with
  | none=>none
  | some e=>match (cells e)[k]? with
   | some (.usl s x)=>(setRow new p x).map fun y=>es.set i (d7 e k (.usl s y))
   | some (.uptr x)=>(setRow new p [x]).bind fun y=>match y with
    | [z]=>some (es.set i (d7 e k (.uptr z)))
    | _=>none
   | _=>none
def cy (rt:aw)(o nv:Nat)(path:List (Nat×Nat)):Option Root:=
 match rt o with
 | some r=>if path.isEmpty||r.nv==nv then some r else none
 | none=>none
def cJ (rt:aw)(o nv:Nat)(path:List (Nat×Nat)):Option (Nat×List V):=
 (cy rt o nv path).bind fun r=>bG path r.s r.es
def O9 (o nv:Nat)(path:List (Nat×Nat))(i k:Nat):V→V
 | .usl s es=>.hs o nv (path++[(i,k)]) s 0 es.length
 | .uptr e=>.hp o nv (path++[(i,k)]) (cells e).length 0 0
 | v=>v
def pT (o nv:Nat)(path:List (Nat×Nat))(i:Nat):Nat→List V→List V
 | _,[]=>[]
 | k,v::vs=>O9 o nv path i k v::pT o nv path i (k+1) vs
mutual
def eH:V→V
 | .agg cs=>.agg (fS cs)
 | .usl _ es=>.isl false (fS es)
 | .uptr e=>.iptr (eH e) 0
 | v=>v
def fS:List V→List V
 | []=>[]
 | v::vs=>eH v::fS vs
end
def kK (rt:aw):V→Option (List V)
 | .iptr e k=>some ((cells e).drop k)
 | .hp o nv path s i k=>
  (cy rt o nv path).bind fun r=>(bG path r.s r.es).bind fun x=>
   if x.1=s then (x.2[i]?).map fun e=>pT o r.nv path i k ((cells e).drop k) else none
 | _=>none
def eY:TypeDesc→Bool
 | .struct _=>true
 | .array _ _=>true
 | _=>false
def aA:V→Bool
 | .agg _=>true
 | _=>false
def kM (a:Bool)(cs:List V):Option V:=
 if a then some (.agg cs) else match cs with
  | [v]=>if aA v then none else some v
  | _=>none
def fx:V→Bool   -- what a cell may hold
 | .agg _=>false
 | .tup _=>false
 | .und=>false
 | .dead=>false
 | _=>true
def cZ:V→Bool   -- a value without any memory of its own and without a handle
 | .bool _ | .int _ _ | .str _ | .nilp | .nilfn | .nilif | .iptr _ _ | .isl _ _=>true
 | .fn _ []=>true
 | _=>false
def fg (rt:aw)(o:Nat)(r:Root)(path:List (Nat×Nat)):Option aw:=
 match path.reverse with
 | []=>some (upd rt o none)
 | (i,k)::q=>(bG q.reverse r.s r.es).bind fun y=>(y.2[i]?).bind fun e=>
  (setRow (y.2.set i (d7 e k .dead)) q.reverse r.es).map fun es=>upd rt o (some { r with es:=es })
def cS (rt:aw):V→Option (V×aw)
 | .hs o nv path s off len=>
  (cy rt o nv path).bind fun r=>(bG path r.s r.es).bind fun x=>
   if off=0∧len≤x.2.length∧s=x.1 then (fg rt o r path).map fun rt'=>(.usl x.1 (x.2.take len),rt') else none
 | .hp o nv path _ i k=>
  (cy rt o nv path).bind fun r=>(bG path r.s r.es).bind fun x=>
   match x.2 with
   | [e]=>if i=0∧k=0 then (fg rt o r path).map fun rt'=>(.uptr e,rt') else none
   | _=>none
 | v=>if cZ v then some (v,rt) else none
def fO (rt:aw):List V→Option (List V×aw)
 | []=>some ([],rt)
 | v::vs=>(cS rt v).bind fun x=>(fO x.2 vs).map fun y=>(x.1::y.1,y.2)
def il (rt:aw):V→Option (V×aw)
 | .agg cs=>(fO rt cs).map fun x=>(.agg x.1,x.2)
 | v=>cS rt v
def d3 (rt:aw):List V→Option (List V×aw)
 | []=>some ([],rt)
 | v::vs=>(il rt v).bind fun x=>(d3 x.2 vs).map fun y=>(x.1::y.1,y.2)
def gF (rt:aw):V→Option V
 | .hs o nv path s off len=>(cJ rt o nv path).bind fun x=>if s=x.1∧off+len≤x.2.length then some (.isl false (fS ((x.2.drop off).take len))) else none
 | .hp o nv path s i k=>(cJ rt o nv path).bind fun x=>if s=x.1 then (x.2[i]?).map fun e=>.iptr (eH e) k else none
 | .isl _ es=>some (.isl false es)
 | v=>if cZ v then some v else none
def iJ (rt:aw):List V→Option (List V)
 | []=>some []
 | v::vs=>(gF rt v).bind fun x=>(iJ rt vs).map fun y=>x::y
def gV (rt:aw):V→Option V
 | .agg cs=>(iJ rt cs).map .agg
 | .fn f caps=>(iJ rt caps).map (.fn f)
 | v=>gF rt v
def gO (c:Nat):Nat→Nat→List V→List V×List (Nat×Nat×Root)
 | _,_,[]=>([],[])
 | id,k,.usl s es::vs=>let y:=gO c (id+1) (k+1) vs;(.hs id 0 [] s 0 es.length::y.1,(c,k,⟨0,s,es⟩)::y.2)
 | id,k,.uptr e::vs=>let y:=gO c (id+1) (k+1) vs;(.hp id 0 [] (cells e).length 0 0::y.1,(c,k,⟨0,(cells e).length,[e]⟩)::y.2)
 | id,k,v::vs=>let y:=gO c id (k+1) vs;(v::y.1,y.2)
def lC (id c:Nat)(v:V):V×List (Nat×Nat×Root):=
 let y:=gO c id 0 (cells v)
 (match v with
 | .agg _=>.agg y.1
 | _=>y.1.headD .und,y.2)
def bZ:Nat→Nat→List V→List V×List (Nat×Nat×Root)
 | _,_,[]=>([],[])
 | id,c,v::vs=>let x:=lC id c v;let y:=bZ (id+x.2.length) (c+1) vs;(x.1::y.1,x.2++y.2)
def eC (rt:aw)(id:Nat)(R:List (Nat×Nat×Root)):aw:=fun o=>if id≤o∧o<id+R.length then (R[o - id]?).map fun x=>x.2.2 else rt o
def fF:V→List V
 | .tup vs=>vs
 | v=>[v]
def wy (r:V)(ys:List V):V:=
 match r with
 | .tup _=>.tup ys
 | _=>ys.headD .und
def ko:Value→Option V
 | .bool b=>some (.bool b)
 | .int k n=>some (.int k n)
 | .string s=>some (.str s)
 | .pointer none=>some .nilp
 | .slice none 0 0=>some (.isl true [])
 | .nilFunc=>some .nilfn
 | .nilIface=>some .nilif
 | _=>none
def ib:List Value→Option (List V)
 | []=>some []
 | v::vs=>(ko v).bind fun x=>(ib vs).map fun y=>x::y
def gv:Value→Option V
 | .agg cs=>(ib cs.toList).map .agg
 | v=>ko v
def ev (st:St):Operand→Option V
 | .tmp t=>st.tm[t]?
 | .const v=>gv v
 | .func f=>some (.fn f [])
 | .global _=>none
def io (st:St):List Operand→Option (List V)
 | []=>some []
 | x::xs=>(ev st x).bind fun v=>(io st xs).map fun vs=>v::vs
def oW (st:St):Option Operand→Option (Option V)
 | some x=>(ev st x).map some
 | none=>some none
def intBits (op:BinOp)(k:IntKind)(x y:Int):Option V:=
 let a:=BitVec.ofInt k.bits x
 let b:=BitVec.ofInt k.bits y
 match op with
 | .and=>some (.int k (k.wrap (a &&& b).toNat))
 | .or=>some (.int k (k.wrap (a ||| b).toNat))
 | .xor=>some (.int k (k.wrap (a ^^^ b).toNat))
 | .andNot=>some (.int k (k.wrap (a &&& ~~~b).toNat))
 | _=>none
def IE (op:BinOp)(k:IntKind)(x y:Int):Option V:=
 match op with
 | .add=>some (.int k (k.wrap (x+y)))
 | .sub=>some (.int k (k.wrap (x - y)))
 | .mul=>some (.int k (k.wrap (x*y)))
 | .quo=>if y=0 then none else some (.int k (k.wrap (x.tdiv y)))
 | .rem=>if y=0 then none else some (.int k (x.tmod y))
 | .eql=>some (.bool (x==y))
 | .neq=>some (.bool (x != y))
 | .lss=>some (.bool (decide (x<y)))
 | .leq=>some (.bool (decide (x≤y)))
 | .gtr=>some (.bool (decide (x>y)))
 | .geq=>some (.bool (decide (x≥y)))
 | op=>intBits op k x y
def IG (op:BinOp)(k k':IntKind)(a b:Int):Option V:=
 match op with
 | .shl=>if b<0 then none else some (.int k (k.wrap (a*2 ^ min b.toNat k.bits)))
 | .shr=>if b<0 then none else some (.int k (a.fdiv (2 ^ min b.toNat k.bits)))
 | op=>if k=k' then IE op k a b else none
def zQ (op:BinOp)(x y:ByteArray):Option V:=
 match op with
 | .add=>if x.size+y.size≤9223372036854775807 then some (.str (x++y)) else none
 | .eql=>some (.bool (x.data.toList==y.data.toList))
 | .neq=>some (.bool !(x.data.toList==y.data.toList))
 | .lss=>some (.bool (Op.bytesLess x.data.toList y.data.toList))
 | .leq=>some (.bool (Op.bytesLess x.data.toList y.data.toList||x.data.toList==y.data.toList))
 | .gtr=>some (.bool !(Op.bytesLess x.data.toList y.data.toList||x.data.toList==y.data.toList))
 | .geq=>some (.bool !(Op.bytesLess x.data.toList y.data.toList))
 | _=>none
def tg:V→V→Option Bool
 | .isl true _,.isl true []=>some true
 | .isl false (_::_),.isl true []=>some false
 | .isl true [],.isl false (_::_)=>some false
 | .nilif,.nilif=>some true
 | .iface _ _,.nilif=>some false
 | .nilif,.iface _ _=>some false
 | .nilfn,.nilfn=>some true
 | .fn _ _,.nilfn=>some false
 | .nilp,.nilp=>some true
 | .hp _ _ _ _ _ _,.nilp=>some false
 | .iptr _ _,.nilp=>some false
 | _,_=>none
def qf:Operand→Bool
 | .const _=>true
 | _=>false
def pN:TypeDesc→Bool
 | .interface _=>true
 | _=>false
def vj:TypeDesc→V→Bool
 | .slice _,.isl _ _=>true
 | .interface _,.nilif=>true
 | .interface _,.iface _ _=>true
 | .func _ _ _,.nilfn=>true
 | .func _ _ _,.fn _ _=>true
 | .pointer _,.nilp=>true
 | .pointer _,.iptr _ _=>true
 | _,_=>false
def za:V→V→Option Bool
 | .bool b,.bool c=>some (b==c)
 | .int k x,.int k' y=>if k=k' then some (x==y) else none
 | .str x,.str y=>some (x.data.toList==y.data.toList)
 | _,_=>none
def Kj:TypeDesc→V→Bool
 | .bool,.bool _=>true
 | .int _,.int _ _=>true
 | .string,.str _=>true
 | _,_=>false
def kY (ty:TypeId→Option TI):Nat→List Field→List V→List V→Option Bool
 | _,[],[],[]=>some true
 | n,f::fs,v::vs,u::us=>match ty f.type with
  | some t => if f.offset == n && f.name != "_" && Kj t.desc v then (za v u).bind fun b => (kY ty (n + 1) fs vs us).map fun c => b && c else none
  | none=>none
 | _,_,_,_=>none
def yu (E:Env)(op:BinOp)(t:TypeId)(x y:V)(lit:Bool):Option V:=
 match x,y with
 | .int k a,.int k' b=>IG op k k' a b
 | .str a,.str b=>zQ op a b
 | .bool a,.bool b=>
  match op,E.desc t with
  | .eql,some .bool=>some (.bool (a==b))
  | .neq,some .bool=>some (.bool !(a==b))
  | _,_=>none
 | .agg xs,.agg ys=>
  match op,E.ty t with
  | .eql,some { desc:=.struct fs,.. }=>if E.eqs.contains t then (kY E.ty 0 fs.toList xs ys).map .bool else none
  | .neq,some { desc:=.struct fs,.. }=>if E.eqs.contains t then (kY E.ty 0 fs.toList xs ys).map fun b=>.bool !b else none
  | _,_=>none
 | x,y=>
  match E.desc t with
  | some d=>if vj d x&&(lit || !pN d) then
   (match op with
   | .eql=>(tg x y).map .bool
   | .neq=>(tg x y).map fun b=>.bool !b
   | _=>none) else none
  | none=>none
def unV (op:UnOp):V→Option V
 | .bool b=>match op with
  | .not=>some (.bool !b)
  | _=>none
 | .int k n=>match op with
  | .neg=>some (.int k (k.wrap (0 - n)))
  | .xor=>intBits .xor k (if k.signed then -1 else k.max) n
  | _=>none
 | _=>none
def va:List V→Option (List UInt8)
 | []=>some []
 | .int .u8 n::vs=>(va vs).map fun r=>UInt8.ofNat n.toNat::r
 | _=>none
def D7 (rt:aw):V→Option (List V)
 | .isl _ es=>some es
 | .hs o nv p s off len=>(cJ rt o nv p).bind fun x=>if s=x.1∧off+len≤x.2.length then some ((x.2.drop off).take len) else none
 | _=>none
def aaL:Option TypeDesc→Bool
 | some (.int .u8)=>true
 | _=>false
def wb (E:Env)(rt:aw)(src dst:TypeId)(x:V):Option V:=
 match E.desc src,E.desc dst,x with
 | some _,some (.int k),.int _ n=>some (.int k (k.wrap n))
 | some .string,some .string,.str s=>some (.str s)
 | some (.slice e),some .string,x=>if aaL (E.desc e) then (D7 rt x).bind fun es=>(va es).map fun bs=>.str ⟨bs.toArray⟩ else none
 | _,_,_=>none
def gh (d:Int):Option V→Option Int
 | some (.int _ n)=>some n
 | some _=>none
 | none=>some d
def jG (E:Env)(rt:aw)(t:TypeId)(x:V)(lo hi:Option V):Option V:=
 match E.desc t,x with
 | some .string,.str s=>(gh 0 lo).bind fun l=>(gh s.size hi).bind fun h=>if 0≤l∧l≤h∧h≤s.size then some (.str (s.extract l.toNat h.toNat)) else none
 | some (.slice e),.isl n es=>(gh 0 lo).bind fun l=>(gh es.length hi).bind fun h=>(E.ty e).bind fun ei=>
  if 0≤l∧l≤h∧h≤es.length∧es.all (fun v=>(cells v).length==ei.size) then some (.isl n ((es.drop l.toNat).take (h.toNat - l.toNat))) else none
 | some (.slice e),.hs o nv p s off len=>
  if (E.ty e).map (·.size)=some s then
   (gh 0 lo).bind fun l=>(gh len hi).bind fun h=>if 0≤l∧l≤h∧h≤len then some (.hs o nv p s (off+l.toNat) (h.toNat - l.toNat)) else none
  else none
 | _,_=>none
def mF (rt:aw):V→Bool
 | .hp o nv p _ _ _=>(cJ rt o nv p).isSome
 | .hs o nv p _ _ _=>(cJ rt o nv p).isSome
 | _=>true
def gc:Option TypeDesc→Bool
 | some (.slice _)=>true
 | _=>false
def IH:Option TypeDesc→Bool
 | some .string=>true
 | _=>false
def tE (d:Option TypeDesc):V→Option V
 | .str s=>if IH d then some (.int .i64 s.size) else none
 | .isl _ es=>if gc d then some (.int .i64 es.length) else none
 | .hs _ _ _ _ _ len=>if gc d then some (.int .i64 len) else none
 | _=>none
def fieldAt? (E:Env)(s:TypeId)(f:Nat):Option (Nat×Nat×Bool):=
 match E.ty s with
 | some { desc:=.struct fs,.. }=>(fs[f]?).bind fun x=>(E.ty x.type).map fun i=>(x.offset,i.size,eY i.desc)
 | _=>none
def iz (E:Env)(t:TypeId)(x:V)(i:Int):Option V:=
 match E.desc t,x with
 | some (.slice e),.isl _ es=>if 0≤i then (es[i.toNat]?).bind fun v=>if (E.ty e).map (·.size)=some (cells v).length then some (.iptr v 0) else none else none
 | some (.slice e),.hs o nv p s off len=>if 0≤i∧i<len∧(E.ty e).map (·.size)=some s then some (.hp o nv p s (off+i.toNat) 0) else none
 | some (.array n e),.hp o nv p s j k=>(E.ty e).bind fun ei=>if 0≤i∧i<n∧k+i.toNat*ei.size<s then some (.hp o nv p s j (k+i.toNat*ei.size)) else none
 | some (.array n e),.iptr v k=>(E.ty e).bind fun ei=>if 0≤i∧i<n∧k+i.toNat*ei.size<(cells v).length then some (.iptr v (k+i.toNat*ei.size)) else none
 | _,_=>none
def Oq (E:Env)(t:TypeId)(x:V)(i:Int):Option V:=
 match E.ty t,x with
 | some { desc:=.string,.. },.str s=>if 0≤i then (s[i.toNat]?).map fun b=>.int .u8 b.toNat else none
 | _,_=>none
def nm (place:Nat→Option (Nat×Nat))(cs:List V):List (Nat×V)→Option (List V)
 | []=>some cs
 | (i,v)::rest=>match place i with
  | none=>none
  | some (off,size)=>if (cells v).length=size∧off+size≤cs.length∧(cells v).all fx then nm place (cs.take off++cells v++cs.drop (off+size)) rest else none
def yW (E:Env):List Field→Option (List (Nat×Nat))
 | []=>some []
 | f::fs=>(E.ty f.type).bind fun i=>(yW E fs).map fun r=>(f.offset,i.size)::r
def Ir (E:Env)(t:TypeId)(parts:List (Nat×V)):Option V:=
 match E.ty t with
 | some ti=>(gv ti.zv).bind fun z=>
  (match ti.desc with
  | .struct fs=>(yW E fs.toList).bind fun ps=>(nm (fun i=>ps[i]?) (cells z) parts).map .agg
  | .array _ e=>(E.ty e).bind fun ei=>(nm (fun i=>some (i*ei.size,ei.size)) (cells z) parts).map .agg
  | _=>none)
 | none=>none
def kr (sz:Nat)(a:Bool):List V→List (Nat×V)→Option (List V)
 | es,[]=>some es
 | es,(i,v)::rest=>if i<es.length∧(cells v).length=sz∧aA v=a∧(cells v).all fx then kr sz a (es.set i v) rest else none
def fQ (st:St):List (Nat×Operand)→Option (List (Nat×V))
 | []=>some []
 | (i,x)::xs=>(ev st x).bind fun v=>(fQ st xs).map fun vs=>(i,v)::vs
def Iy (f:Int→Int→Int)(k:IntKind):Int→List V→Option Int
 | m,[]=>some m
 | m,.int k' n::vs=>if k=k' then Iy f k (f m n) vs else none
 | _,_=>none
def zE (f:Int→Int→Int):List V→Option V
 | .int k n::vs=>(Iy f k n vs).map (.int k)
 | _=>none
def kJ (e:V):Bool:=(cells e).all cZ
def fH (rt:aw):V→Option (List V×aw)
 | .isl _ es=>some (es,rt)
 | .hs o nv p s off len=>(cJ rt o nv p).bind fun x=>
  if off+len≤x.2.length then
   let es:=(x.2.drop off).take len
   if s≠x.1 then none
   else if es.all kJ then some (es,rt)
   else if p.isEmpty∧off=0∧len=x.2.length then some (es,upd rt o none) else none
  else none
 | _=>none
def mX:Nat:=1099511627776
def ln (E:Env)(rt:aw)(id:Nat)(t:TypeId)(d x:V):Option (V×aw):=
 match E.ty t with
 | some { desc:=.slice e,.. }=>(E.ty e).bind fun ei=>(fH rt x).bind fun y=>
  if (0<ei.size∧ei.zv.cells.size=ei.size)∧y.1.all (fun v=>(cells v).length==ei.size&&(cells v).all fx)=true then
   match d with
   | .isl true _=>if y.1.length*ei.bytes≤mX∧y.1.length≤mX then some (.hs id 0 [] ei.size 0 y.1.length,upd y.2 id (some ⟨0,ei.size,y.1⟩)) else none
   | .hs o nv p s off len=>(cJ y.2 o nv p).bind fun z=>
    if off=0∧len=z.2.length∧s=ei.size∧(len+y.1.length)*ei.bytes≤mX∧len+y.1.length≤mX then
     (cS y.2 d).map fun u=>(.hs id 0 [] ei.size 0 (len+y.1.length),upd u.2 id (some ⟨0,ei.size,z.2++y.1⟩))
    else none
   | _=>none
  else none
 | _=>none
def pf (E:Env)(rt:aw)(t:TypeId)(p x:V):Option aw:=
 match p with
 | .hp o nv path s i k=>(E.ty t).bind fun ti=>(il rt x).bind fun y=>
  if (cells y.1).length=ti.size∧aA y.1=eY ti.desc∧0<ti.size then
   (cy y.2 o nv path).bind fun r=>(bG path r.s r.es).bind fun z=>
    if z.1=s then
     (z.2[i]?).bind fun e=>
      let cs:=cells e
      if k+ti.size≤cs.length then
       let cs':=cs.take k++cells y.1++cs.drop (k+ti.size)
       let e':=if aA e then .agg cs' else cs'.headD .dead
       let plain:=((cs.drop k).take ti.size).all cZ&&(cells y.1).all cZ
       (setRow (z.2.set i e') path r.es).map fun es=>upd y.2 o (some { nv:=if plain then r.nv else r.nv+1,s:=r.s,es:=es })
      else none
    else none
  else none
 | _=>none
def IC (rt:aw):V→Option V
 | .hs o _ [] s off len=>(rt o).bind fun r=>if off=0∧len=r.es.length∧s=r.s then some (.usl s r.es) else none
 | .hp o _ [] s i k=>(rt o).bind fun r=>match r.es with
  | [e]=>if i=0∧k=0∧s=r.s∧(cells e).length=s then some (.uptr e) else none
  | _=>none
 | v=>if cZ v then some v else none
def jU (rt:aw):V→Option V
 | .hs o nv path s off len=>(cy rt o nv path).bind fun r=>(bG path r.s r.es).bind fun x=>if off=0∧len=x.2.length∧s=x.1 then some (.usl s x.2) else none
 | .hp o nv path s i k=>(cy rt o nv path).bind fun r=>(bG path r.s r.es).bind fun x=>match x.2 with
  | [e]=>if i=0∧k=0∧s=x.1∧(cells e).length=s then some (.uptr e) else none
  | _=>none
 | v=>if cZ v then some v else none
def qx (rt:aw):List V→Option (List V)
 | []=>some []
 | v::vs=>(jU rt v).bind fun x=>(qx rt vs).map fun y=>x::y
def qM (rt:aw):V→Option V
 | .agg cs=>(qx rt cs).map .agg
 | v=>jU rt v
def fw (rt:aw):List Bool→List V→Option (List V)
 | _,[]=>some []
 | true::bs,v::vs=>(qM rt v).bind fun x=>(fw rt bs vs).map fun y=>x::y
 | _::bs,v::vs=>(gV rt v).bind fun x=>(fw rt bs vs).map fun y=>x::y
 | [],v::vs=>(gV rt v).bind fun x=>(fw rt [] vs).map fun y=>x::y
abbrev gX:=List (Nat×Nat)
abbrev pi:=Nat×gX×Nat×Nat
def sv (a:Nat):Nat→List V→List pi
 | _,[]=>[]
 | k,.hs o _ p _ _ _::vs=>(o,p,a,k)::sv a (k+1) vs
 | k,.hp o _ p _ _ _::vs=>(o,p,a,k)::sv a (k+1) vs
 | k,_::vs=>sv a (k+1) vs
def bI:Nat→List Bool→List V→List pi
 | a,true::bs,v::vs=>sv a 0 (cells v)++bI (a+1) bs vs
 | a,false::bs,_::vs=>bI (a+1) bs vs
 | _,_,_=>[]
def d9:List pi→Nat→Option (gX×Nat×Nat)
 | [],_=>none
 | (o,y)::g,x=>if x=o then some y else d9 g x
def pa:List Nat→Bool
 | []=>true
 | x::xs=>!xs.contains x&&pa xs
def sk (r:Root):V→Option Root
 | .usl s es=>if s=r.s then some ⟨r.nv+1,s,es⟩ else none
 | .uptr e=>if (cells e).length=r.s then some ⟨r.nv+1,r.s,[e]⟩ else none
 | _=>none
def jy (p:gX)(r:Root)(y:V):Option Root:=
 match p with
 | []=>sk r y
 | q::p=>(bG (q::p) r.s r.es).bind fun x=>match y with
  | .usl s es=>if s=x.1∧es.length=x.2.length then (setRow es (q::p) r.es).map fun es'=>⟨r.nv+1,r.s,es'⟩ else none
  | .uptr e=>if (cells e).length=x.1∧x.2.length=1 then (setRow [e] (q::p) r.es).map fun es'=>⟨r.nv+1,r.s,es'⟩ else none
  | _=>none
def eg:List Bool→List V→Nat→Option V
 | true::_,x::_,0=>some x
 | true::bs,_::xs,a+1=>eg bs xs a
 | false::bs,xs,a+1=>eg bs xs a
 | _,_,_=>none
def ke (rt:aw)(g:List pi)(own:List Bool)(dP:List V)(dead:List Nat):aw:=fun o=>
 match d9 g o with
 | some (p,a,k)=>(rt o).bind fun r=>((eg own dP a).bind fun x=>(cells x)[k]?).bind (jy p r)
 | none=>if dead.contains o then none else rt o
mutual
def cY:V→Bool
 | .isl _ es=>!es.isEmpty
 | .iptr _ _=>true
 | .agg cs=>dH cs
 | .tup vs=>dH vs
 | .usl _ es=>dH es
 | .uptr e=>cY e
 | .fn _ caps=>dH caps
 | .iface _ v=>cY v
 | _=>false
def dH:List V→Bool
 | []=>false
 | v::vs=>cY v||dH vs
end
mutual
def eb:V→List Nat
 | .hs o _ _ _ _ _=>[o]
 | .hp o _ _ _ _ _=>[o]
 | .agg cs=>ek cs
 | .tup vs=>ek vs
 | .fn _ caps=>ek caps
 | _=>[]
def ek:List V→List Nat
 | []=>[]
 | v::vs=>eb v++ek vs
end
def cd:List Bool→List V→List Nat
 | true::bs,_::vs=>cd bs vs
 | false::bs,v::vs=>eb v++cd bs vs
 | [],v::vs=>eb v++cd [] vs
 | _,[]=>[]
def cH:Nat:=16
def nk (E:Env)(rt:aw)(id:Nat)(f:FuncId)(args:List V):Option (V×aw):=
 (E.fn f).bind fun e=>
  let g:=bI 0 e.own args
  let lent:=cd e.own args
  if pa (0::g.map (·.1))&&lent.all (fun o=>!(0::g.map (·.1)).contains o) then
   (fw rt e.own args).bind fun xs=>(e.F xs).bind fun r=>
    let rt1:=ke rt g e.own r.2 (if cY r.1||dH r.2 then lent else [])
    let y:=bZ id 0 (fF r.1)
    if y.2.length≤cH then some (wy r.1 y.1,eC rt1 id y.2) else none
  else none
def oS (E:Env)(rt:aw)(t:TypeId):V→Option aw
 | .isl _ []=>if gc (E.desc t) then some rt else none
 | .hs o nv [] s off len=>match E.ty t with
  | some { desc:=.slice e,.. }=>(E.ty e).bind fun ei=>(gv ei.zv).bind fun z=>(rt o).bind fun r=>
   if (s=r.s∧off+len≤r.es.length∧(cells z).length=s∧0<s)∧(r.es.all kJ&&kJ z)=true then
    some (upd rt o (some ⟨r.nv,s,r.es.take off++List.replicate len z++r.es.drop (off+len)⟩)) else none
  | _=>none
 | _=>none
def fi (E:Env)(rt:aw)(id:Nat)(b:Builtin)(ts:Array TypeId)(args:List V):Option (V×aw):=
 match b,args with
 | .len,[x]=>if mF rt x then (ts[0]?).bind fun t=>(tE (E.desc t) x).map fun v=>(v,rt) else none
 | .append,[d,x]=>(ts[0]?).bind fun t=>(ts[1]?).bind fun t1=>if gc (E.desc t1) then ln E rt id t d x else none
 | .clear,[x]=>(ts[0]?).bind fun t=>(oS E rt t x).map fun rt=>(.tup [],rt)
 | .min,vs=>(zE (fun a b=>if b<a then b else a) vs).map fun v=>(v,rt)
 | .max,vs=>(zE (fun a b=>if b>a then b else a) vs).map fun v=>(v,rt)
 | _,_=>none
def mc (E:Env)(rt:aw)(id:Nat)(st:St)(c:Call):Option (V×aw):=
 (io st c.args.toList).bind fun args=>
  match c.callee with
  | .value f=>(ev st f).bind fun f=>match f with
   | .fn f caps=>nk E rt id f (args++caps)
   | _=>none
  | .builtin b=>fi E rt id b c.argTypes args
  | .invoke _ _=>none
def bF (E:Env)(id:Nat)(st:St):Op→Option (V×aw)
 | .move x=>(ev st x).map fun v=>(v,st.rt)
 | .assign x=>(ev st x).map fun v=>(v,st.rt)
 | .pick c a b=>(ev st c).bind fun c=>(match c with
  | .bool true=>ev st a
  | .bool false=>ev st b
  | _=>none).map fun v=>(v,st.rt)
 | .alloc t=>(E.ty t).bind fun ti=>(gv ti.zv).map fun z=>(.hp id 0 [] (cells z).length 0 0,upd st.rt id (some ⟨0,(cells z).length,[z]⟩))
 | .box _ x=>(ev st x).bind fun v=>(il st.rt v).map fun y=>(.hp id 0 [] (cells y.1).length 0 0,upd y.2 id (some ⟨0,(cells y.1).length,[y.1]⟩))
 | .build t ps=>(fQ st ps.toList).bind fun ps=>(Ir E t ps).map fun v=>(v,st.rt)
 | .buildSlice t n ps=>(fQ st ps.toList).bind fun ps=>match E.ty t with
  | some { desc:=.slice e,.. }=>(E.ty e).bind fun ei=>(gv ei.zv).bind fun z=>
   if n*ei.size≤16777216∧0<ei.size∧(cells z).length=ei.size∧aA z=eY ei.desc then
    (kr ei.size (eY ei.desc) (List.replicate n z) ps).bind fun es=>(d3 st.rt es).map fun y=>(.hs id 0 [] ei.size 0 n,upd y.2 id (some ⟨0,ei.size,y.1⟩))
   else none
  | _=>none
 | .load t p=>(E.ty t).bind fun ti=>(ev st p).bind fun p=>(kK st.rt p).bind fun cs=>
  if 0<ti.size∧ti.size≤cs.length then (kM (eY ti.desc) (cs.take ti.size)).map fun v=>(v,st.rt) else none
 | .store t p x=>(ev st p).bind fun p=>(ev st x).bind fun x=>(pf E st.rt t p x).map fun rt=>(.und,rt)
 | .nilCheck x=>(ev st x).bind fun v=>match v with
  | .hp o nv p _ _ _=>if (cJ st.rt o nv p).isSome then some (v,st.rt) else none
  | .iptr ..=>some (v,st.rt)
  | _=>none
 | .binOp op t x y _=>(ev st x).bind fun a=>(ev st y).bind fun b=>(yu E op t a b (qf x||qf y)).map fun v=>(v,st.rt)
 | .unOp op _ x=>(ev st x).bind fun a=>(unV op a).map fun v=>(v,st.rt)
 | .convert s d x=>(ev st x).bind fun a=>(wb E st.rt s d a).map fun v=>(v,st.rt)
 | .makeInterface t x=>(ev st x).bind fun a=>if (cells a).all cZ then (match E.desc t with
  | some (.interface _)=>none
  | some _=>some (.iface t a,st.rt)
  | none=>none) else none
 | .makeFunc (.func f) first caps=>if first.size=0 then (io st caps.toList).bind fun cs=>if cs.all (fun v=>!aA v) then some (.fn f cs,st.rt) else none else none
 | .makeSlice t l c=>(ev st l).bind fun l=>(ev st c).bind fun c=>match E.ty t,l,c with
  | some { desc:=.slice e,.. },.int .i64 l,.int .i64 c=>(E.ty e).bind fun ei=>(gv ei.zv).bind fun z=>
   if 0≤l∧l≤c∧c*ei.bytes≤mX∧c≤mX∧0<ei.size∧(cells z).length=ei.size∧aA z=eY ei.desc then
    some (.hs id 0 [] ei.size 0 l.toNat,upd st.rt id (some ⟨0,ei.size,List.replicate l.toNat z⟩)) else none
  | _,_,_=>none
 | .slice t x lo hi none=>(ev st x).bind fun x=>(oW st lo).bind fun l=>(oW st hi).bind fun h=>
  if mF st.rt x then (jG E st.rt t x l h).map fun v=>(v,st.rt) else none
 | .fieldAddr s x f=>(ev st x).bind fun x=>(fieldAt? E s f).bind fun fl=>match x with
  | .iptr e k=>if 0<fl.2.1∧k+fl.1<(cells e).length then some (.iptr e (k+fl.1),st.rt) else none
  | .hp o nv p sz i k=>if 0<fl.2.1∧k+fl.1<sz∧(cJ st.rt o nv p).isSome then some (.hp o nv p sz i (k+fl.1),st.rt) else none
  | _=>none
 | .field s x f=>(ev st x).bind fun x=>(fieldAt? E s f).bind fun fl=>match x with
  | .agg cs=>let c:=(cs.drop fl.1).take fl.2.1
   if c.length=fl.2.1 then (kM fl.2.2 c).map fun v=>(v,st.rt) else none
  | _=>none
 | .indexAddr t x i=>(ev st x).bind fun x=>(ev st i).bind fun i=>match i with
  | .int _ i=>if mF st.rt x then (iz E t x i).map fun v=>(v,st.rt) else none
  | _=>none
 | .index t x i=>(ev st x).bind fun x=>(ev st i).bind fun i=>match i with
  | .int _ i=>(Oq E t x i).map fun v=>(v,st.rt)
  | _=>none
 | .extract x i=>(ev st x).bind fun x=>match x with
  | .tup vs=>(vs[i]?).map fun v=>(v,st.rt)
  | _=>none
 | .call c=>mc E st.rt id st c
 | _=>none
def sJ (ops:Array Oper)(st:St)(j:Nat):Option (Option Bool):=
 match ((ops[j]?).bind (·.dst)).bind (st.tm[·]?) with
 | some (.bool b)=>some (some b)
 | some .und=>some none
 | _=>none
def iB (ops:Array Oper)(st:St)(o:Oper):Option Bool:=
 match o.guard with
 | none=>some true
 | some (j,want)=>(sJ ops st j).map fun b=>b==some want
def lA (tm:List V)(d:Option Nat)(v:V):List V:=
 match d with
 | some d=>tm.set d v
 | none=>tm
def fU (E:Env)(ops:Array Oper)(id:Nat)(st:St)(i:Nat):Option St:=
 match ops[i]? with
 | none=>some st
 | some o=>(iB ops st o).bind fun b=>
  if b then (bF E id st o.op).map fun r=>{ st with tm:=lA st.tm o.dst r.1,rt:=r.2 }
  else some { st with tm:=lA st.tm o.dst .und }
inductive It where
 | code (c:Code)
 | ops (ops:Array Oper) (is:List Nat)
 | blk (id:Nat)
 | lp (c:Code)
 | dops (ops:Array Oper) (ms:List Nat) (i:Nat) (log:List (Nat×List Nat×List Nat))
 deriving Inhabited
def ip (id:Nat):List It→Option (List It)
 | .blk id'::k=>if id'=id then some k else ip id k
 | _::k=>ip id k
 | []=>none
def jW (E:Env):List It→St→Option (List It×St)
 | .code .skip::k,st=>some (k,st)
 | .code (.region _ ops false)::k,st=>some (.ops ops (List.range ops.size)::k,st)
 | .code (.seq a b)::k,st=>some (.code a::.code b::k,st)
 | .code (.cond c a b)::k,st=>(ev st c).bind fun c=>match c with
  | .bool true=>some (.code a::k,st)
  | .bool false=>some (.code b::k,st)
  | _=>none
 | .code (.block id c)::k,st=>some (.code c::.blk id::k,st)
 | .code (.loop c)::k,st=>some (.code c::.lp c::k,st)
 | .code (.exit id)::k,st=>(ip id k).map fun k=>(k,st)
 | .code .ret::_,st=>some ([],st)
 | .ops _ []::k,st=>some (k,st)
 | .ops ops (i::is)::k,st=>(fU E ops st.nx st i).map fun st'=>(.ops ops is::k,{ st' with nx:=st.nx+cH })
 | .blk _::k,st=>some (k,st)
 | .lp c::k,st=>some (.code c::.lp c::k,st)
 | _,_=>none
def Mx (E:Env):Nat→List It→St→Option (List It×St)
 | 0,k,st=>some (k,st)
 | n+1,k,st=>match jW E k st with
  | some (k',st')=>Mx E n k' st'
  | none=>none
def gm (L:List Nat):Nat→List V→List V
 | _,[]=>[]
 | i,v::vs=>(if L.contains i then v else .dead)::gm L (i+1) vs
def pq (o:Nat):List Nat→Nat→Option Nat
 | [],_=>none
 | x::xs,n=>if x=o then some n else pq o xs (n+1)
mutual
def fB (rt:aw)(os:List Nat):V→V
 | .hs o nv p s off len=>match cy rt o nv p,pq o os 1 with
  | some _,some n=>.hs n 0 p s off len
  | _,_=>.dead
 | .hp o nv p s i k=>match cy rt o nv p,pq o os 1 with
  | some _,some n=>.hp n 0 p s i k
  | _,_=>.dead
 | .agg cs=>.agg (ml rt os cs)
 | .tup vs=>.tup (ml rt os vs)
 | .fn f caps=>.fn f (ml rt os caps)
 | v=>v
def ml (rt:aw)(os:List Nat):List V→List V
 | []=>[]
 | v::vs=>fB rt os v::ml rt os vs
end
def pr:List Nat→List Nat→List Nat
 | acc,[]=>acc
 | acc,x::xs=>if acc.contains x then pr acc xs else pr (acc++[x]) xs
def yI (l:List (Option Root)):aw:=fun o=>if o=0 then none else (l[o - 1]?).bind fun r=>r
def jf (m:Nat):List Nat:=List.range' 1 m
def pb (m:Nat)(L:List Nat)(st:St):St:=
 let tm:=gm L 0 st.tm
 let os:=pr (jf m) (ek tm)
 { tm:=ml st.rt os tm,rt:=yI (os.map fun o=>(st.rt o).map fun r=>⟨0,r.s,r.es⟩),nx:=os.length+1 }
def mP (E:Env)(st:St):ResultVar→Option V
 | .tmp t=>st.tm[t]?
 | .cell a t=>(E.ty t).bind fun ti=>(st.tm[a]?).bind fun p=>(kK st.rt p).bind fun cs=>
  if 0<ti.size∧ti.size≤cs.length then kM (eY ti.desc) (cs.take ti.size) else none
def ic (E:Env)(st:St):List ResultVar→Option (List V)
 | []=>some []
 | r::rs=>(mP E st r).bind fun v=>(ic E st rs).map fun vs=>v::vs
def gI (rt:aw)(v:V):V:=
 match IC rt v with
 | some x=>x
 | none=>.dead
def OD (rt:aw):V→V
 | .agg cs=>.agg (cs.map (gI rt))
 | v=>gI rt v
def dP (rt:aw):List Bool→List V→List V
 | true::bs,v::vs=>OD rt v::dP rt bs vs
 | false::bs,_::vs=>dP rt bs vs
 | _,_=>[]
def wF:List V→V
 | [v]=>v
 | vs=>.tup vs
def enter (fn:Func)(args:List V):List V×St:=
 let a:=bZ 1 0 args
 (a.1,{ tm:=a.1++List.replicate (fn.ntmps - args.length) .und,rt:=eC (fun _=>none) 1 a.2,nx:=1+a.2.length })
def me (E:Env)(fn:Func)(own:List Bool)(a:List V)(st:St):Option (V×List V):=
 (ic E st fn.results.toList).bind fun vs=>(d3 st.rt vs).map fun l=>(wF l.1,dP l.2 own a)
end
section
abbrev dJ:=Nat×List (Nat×Nat)
abbrev bX:=Nat→Option dJ
def dJ.at (l:dJ)(i k:Nat):dJ:=(l.1,l.2++[(i,k)])
def cV (rt:aw)(o nv:Nat)(path:List (Nat×Nat)):Prop:=(cJ rt o nv path).isSome=true
def dQ (n:Nat)(g:Nat→Value):Array Value:=((List.range n).map g).toArray
def fT (v:V)(g:Nat→Value):Value:=if aA v then .agg (dQ (cells v).length g) else g 0
def WQ:Value→Prop
 | .agg _=>False
 | .tuple _=>False
 | _=>True
def lH (w:World)(b:Nat)(n:Nat):Prop:=∃arr T,w.heap[b]?=some (.cells arr T (0,0))∧arr.size=n
inductive RepV (w:World) (ρ:bX) (rt:aw):Option dJ→V→Value→Prop
 | und (L):RepV w ρ rt L .und undef
 | dead (L u):RepV w ρ rt L .dead u
 | bool (L b):RepV w ρ rt L (.bool b) (.bool b)
 | int (L k n):RepV w ρ rt L (.int k n) (.int k n)
 | str (L s):RepV w ρ rt L (.str s) (.string s)
 | nilp (L):RepV w ρ rt L .nilp (.pointer none)
 | nilfn (L):RepV w ρ rt L .nilfn .nilFunc
 | nilif (L):RepV w ρ rt L .nilif .nilIface
 | fn (L f caps) (g:Nat→Value) (h:∀i v,caps[i]?=some v→RepV w ρ rt none v (g i)):RepV w ρ rt L (.fn f caps) (.func (.func f) #[] (dQ caps.length g))
 | iface (L t v) (g:Nat→Value) (h:∀i x,(cells v)[i]?=some x→RepV w ρ rt none x (g i)):RepV w ρ rt L (.iface t v) (.iface t (fT v g))
 | tup (L vs) (p:Nat→Value) (g:Nat→Nat→Value) (hp:∀(c:Nat) (v:V),vs[c]?=some v→p c=fT v (g c))
  (h:∀(c:Nat) (v:V) k x,vs[c]?=some v→(cells v)[k]?=some x→RepV w ρ rt none x (g c k)):RepV w ρ rt L (.tup vs) (.tuple (dQ vs.length p))
 | iptr (L e k b off) (g:Nat→Value) (hb:b<w.heap.size) (hρ:ρ b=none) (hc:∀j x,(cells e)[k+j]?=some x→w.cell? ⟨b,off+j,none⟩=some (g j))
  (h:∀j x,(cells e)[k+j]?=some x→RepV w ρ rt none x (g j)):RepV w ρ rt L (.iptr e k) (.pointer (some ⟨b,off,none⟩))
 | isl0 (L nl A c) (hn:nl=true→A=none∧c=0):RepV w ρ rt L (.isl nl []) (.slice A 0 c)
 | isl (L es b off c s) (g:Nat→Nat→Value) (hl:es.length≤c) (h0:0<es.length) (hρ:ρ b=none) (hb:b<w.heap.size)
  (hs:∀(i:Nat) (e:V),es[i]?=some e→(cells e).length=s)
  (hc:∀(i:Nat) (e:V) k x,es[i]?=some e→(cells e)[k]?=some x→w.cell? ⟨b,off+(i*s+k),none⟩=some (g i k))
  (h:∀(i:Nat) (e:V) k x,es[i]?=some e→(cells e)[k]?=some x→RepV w ρ rt none x (g i k)):RepV w ρ rt L (.isl false es) (.slice (some ⟨b,off,none⟩) es.length c)
 | usl0 (l s A):RepV w ρ rt (some l) (.usl s []) (.slice A 0 0)
 | usl (l s es b A c arr T) (g:Nat→Nat→Value) (hρ:ρ b=some l) (hb:w.heap[b]?=some (.cells arr T (0,0))) (hl:es.length≤c) (hA:c≠0→A=some ⟨b,0,none⟩) (hcap:c*s≤arr.size)
  (hs:∀(i:Nat) (e:V),es[i]?=some e→(cells e).length=s)
  (hc:∀(i:Nat) (e:V) k x,es[i]?=some e→(cells e)[k]?=some x→arr[i*s+k]?=some (g i k))
  (h:∀(i:Nat) (e:V) k x,es[i]?=some e→(cells e)[k]?=some x→RepV w ρ rt (some (l.at i k)) x (g i k)):RepV w ρ rt (some l) (.usl s es) (.slice A es.length c)
 | uptr (l e b arr T) (g:Nat→Value) (hρ:ρ b=some l) (hb:w.heap[b]?=some (.cells arr T (0,0)))
  (hc:∀k x,(cells e)[k]?=some x→arr[k]?=some (g k))
  (h:∀k x,(cells e)[k]?=some x→RepV w ρ rt (some (l.at 0 k)) x (g k)):RepV w ρ rt (some l) (.uptr e) (.pointer (some ⟨b,0,none⟩))
 | hp (L o nv path s i k u) (h:cV rt o nv path→∃b n,ρ b=some (o,path)∧lH w b n∧u=.pointer (some ⟨b,i*s+k,none⟩)) (h1:WQ u):RepV w ρ rt L (.hp o nv path s i k) u
 | hs (L o nv path s off len u) (h:cV rt o nv path→∃c A,u=.slice A len c∧len≤c∧(c≠0→∃b n,ρ b=some (o,path)∧lH w b n∧A=some ⟨b,off*s,none⟩∧(off+c)*s≤n)) (h1:WQ u):RepV w ρ rt L (.hs o nv path s off len) u
def bm (w:World)(ρ:bX)(rt:aw)(at_:Nat→Option dJ)(v:V)(u:Value):Prop:=
 ∃g:Nat→Value,u=fT v g∧∀k x,(cells v)[k]?=some x→RepV w ρ rt (at_ k) x (g k)
def ca:Nat→Option dJ:=fun _=>none
structure Keep (New:Nat→Nat→Prop) (w:World) (ρ:bX) (rt:aw) (w':World) (ρ':bX) (rt':aw):Prop where
 k1:∀b,ρ b=none→b<w.heap.size→ρ' b=none∧w'.heap[b]?=w.heap[b]?
 k2:∀o nv path,¬New o nv→cV rt' o nv path→cV rt o nv path∧∀b n,ρ b=some (o,path)→lH w b n→ρ' b=some (o,path)∧lH w' b n
 k0:∀b l,ρ b=some (0,l)→ρ' b=some (0,l)∧w'.heap[b]?=w.heap[b]?
mutual
def nh:V→Prop
 | .hs _ _ _ _ _ _=>False
 | .hp _ _ _ _ _ _=>False
 | .agg cs=>nhs cs
 | .tup cs=>nhs cs
 | .fn _ cs=>nhs cs
 | .iface _ v=>nh v
 | .iptr e _=>nh e
 | .isl _ es=>nhs es
 | .usl _ es=>nhs es
 | .uptr e=>nh e
 | _=>True
def nhs:List V→Prop
 | []=>True
 | v::vs=>nh v∧nhs vs
end
theorem dN:∀{vs:List V},nhs vs↔∀v∈vs,nh v
 | []=>by simp[nhs]
 | v::vs=>by simp[nhs,dN]
theorem dj {vs:List V}{i:Nat}{v:V}(h:nhs vs)(e:vs[i]?=some v):nh v:=dN.1 h v (iO e)
theorem wu {v:V}(h:nh v):nhs (cells v):=by
 cases v<;>simp_all[cells,nh,nhs]
theorem cr {v x:V}{k:Nat}(h:nh v)(e:(cells v)[k]?=some x):nh x:=dj (wu h) e
mutual
def aB (New:Nat→Nat→Prop):V→Prop
 | .hs o nv _ _ _ _=>¬New o nv
 | .hp o nv _ _ _ _=>¬New o nv
 | .agg cs=>dG New cs
 | .tup cs=>dG New cs
 | .fn _ cs=>dG New cs
 | .iface _ v=>nh v
 | .iptr e _=>nh e
 | .isl _ es=>nhs es
 | .usl _ es=>nhs es
 | .uptr e=>nh e
 | _=>True
def dG (New:Nat→Nat→Prop):List V→Prop
 | []=>True
 | v::vs=>aB New v∧dG New vs
end
theorem ep {New:Nat→Nat→Prop}:∀{vs:List V},dG New vs↔∀v∈vs,aB New v
 | []=>by simp[dG]
 | v::vs=>by simp[dG,ep]
theorem gD {New:Nat→Nat→Prop}{vs:List V}{i:Nat}{v:V}(h:dG New vs)(e:vs[i]?=some v):aB New v:=ep.1 h v (iO e)
theorem tI {New:Nat→Nat→Prop}{v:V}(h:aB New v):dG New (cells v):=by
 cases v<;>simp_all[cells,aB,dG]
theorem jD {New:Nat→Nat→Prop}{v x:V}{k:Nat}(h:aB New v)(e:(cells v)[k]?=some x):aB New x:=gD (tI h) e
mutual
theorem dB {New:Nat→Nat→Prop}:∀{v:V},nh v→aB New v
 | .und,_=>by simp[aB]
 | .dead,_=>by simp[aB]
 | .bool _,_=>by simp[aB]
 | .int _ _,_=>by simp[aB]
 | .str _,_=>by simp[aB]
 | .nilp,_=>by simp[aB]
 | .nilfn,_=>by simp[aB]
 | .nilif,_=>by simp[aB]
 | .fn _ cs,h=>by simp only[aB];exact rn (by simpa[nh] using h)
 | .iface _ v,h=>by simpa[aB,nh] using h
 | .agg cs,h=>by simp only[aB];exact rn (by simpa[nh] using h)
 | .tup cs,h=>by simp only[aB];exact rn (by simpa[nh] using h)
 | .iptr e _,h=>by simpa[aB,nh] using h
 | .isl _ es,h=>by simpa[aB,nh] using h
 | .uptr e,h=>by simpa[aB,nh] using h
 | .usl _ es,h=>by simpa[aB,nh] using h
 | .hp _ _ _ _ _ _,h=>by simp[nh] at h
 | .hs _ _ _ _ _ _,h=>by simp[nh] at h
theorem rn {New:Nat→Nat→Prop}:∀{vs:List V},nhs vs→dG New vs
 | [],_=>by simp[dG]
 | v::vs,h=>by simp only[dG];exact⟨dB h.1,rn h.2⟩
end
mutual
theorem eW {New New':Nat→Nat→Prop}(hN:∀o nv,New' o nv→New o nv):∀{v:V},aB New v→aB New' v
 | .und,_=>by simp[aB]
 | .dead,_=>by simp[aB]
 | .bool _,_=>by simp[aB]
 | .int _ _,_=>by simp[aB]
 | .str _,_=>by simp[aB]
 | .nilp,_=>by simp[aB]
 | .nilfn,_=>by simp[aB]
 | .nilif,_=>by simp[aB]
 | .fn _ cs,h=>by simp only[aB] at h ⊢;exact qg hN h
 | .iface _ v,h=>by simpa[aB] using h
 | .agg cs,h=>by simp only[aB] at h ⊢;exact qg hN h
 | .tup cs,h=>by simp only[aB] at h ⊢;exact qg hN h
 | .iptr e _,h=>by simpa[aB] using h
 | .isl _ es,h=>by simpa[aB] using h
 | .uptr e,h=>by simpa[aB] using h
 | .usl _ es,h=>by simpa[aB] using h
 | .hp _ _ _ _ _ _,h=>by simp only[aB] at h ⊢;exact fun q=>h (hN _ _ q)
 | .hs _ _ _ _ _ _,h=>by simp only[aB] at h ⊢;exact fun q=>h (hN _ _ q)
theorem qg {New New':Nat→Nat→Prop}(hN:∀o nv,New' o nv→New o nv):∀{vs:List V},dG New vs→dG New' vs
 | [],_=>by simp[dG]
 | v::vs,h=>by simp only[dG] at h ⊢;exact⟨eW hN h.1,qg hN h.2⟩
end
theorem rk {w:World}{b:Nat}{o:Obj}(h:w.heap[b]?=some o):b<w.heap.size:=(oE.1 h).1
theorem md {w w':World}{b off:Nat}(h:w'.heap[b]?=w.heap[b]?):w'.cell? ⟨b,off,none⟩=w.cell? ⟨b,off,none⟩:=by
 unfold World.cell?
 rw[h]
structure Keep0 (New:Nat→Nat→Prop) (w:World) (ρ:bX) (rt:aw) (w':World) (ρ':bX) (rt':aw):Prop where
 k1:∀b,ρ b=none→b<w.heap.size→ρ' b=none∧w'.heap[b]?=w.heap[b]?
 k2:∀o nv path,¬New o nv→cV rt' o nv path→cV rt o nv path∧∀b n,ρ b=some (o,path)→lH w b n→ρ' b=some (o,path)∧lH w' b n
theorem RepV.mono0 {New:Nat→Nat→Prop}{w w':World}{ρ ρ':bX}{rt rt':aw}(K:Keep0 New w ρ rt w' ρ' rt')(mv:dJ→dJ)(ok:dJ→Prop)(hmv:∀l i k,ok l→mv (l.at i k)=(mv l).at i k)(hok:∀l i k,ok l→ok (l.at i k))(K3:∀b l,ok l→ρ b=some l→ρ' b=some (mv l)∧w'.heap[b]?=w.heap[b]?){L:Option dJ}{v:V}{u:Value}(h:RepV w ρ rt L v u):(∀l,L=some l→ok l)→aB New v→RepV w' ρ' rt' (L.map mv) v u:=by
 induction h with
 | und L=>exact fun _ _=>.und _
 | dead L u=>exact fun _ _=>.dead _ _
 | bool L b=>exact fun _ _=>.bool _ _
 | int L k n=>exact fun _ _=>.int _ _ _
 | str L s=>exact fun _ _=>.str _ _
 | nilp L=>exact fun _ _=>.nilp _
 | nilfn L=>exact fun _ _=>.nilfn _
 | nilif L=>exact fun _ _=>.nilif _
 | fn L f caps g h ih=>exact fun _ hn=>.fn _ _ _ g fun i v hv=>ih i v hv (by simp) (gD (by simpa[aB] using hn) hv)
 | iface L t v g h ih=>exact fun _ hn=>.iface _ _ _ g fun i x hx=>ih i x hx (by simp) (dB (cr (by simpa[aB] using hn) hx))
 | tup L vs p g hp h ih=>exact fun _ hn=>.tup _ _ p g hp fun c v k x hv hx=>ih c v k x hv hx (by simp) (jD (gD (by simpa[aB] using hn) hv) hx)
 | iptr L e k b off g hb hρ hc h ih=>
  intro _ hn
  have:=K.k1 b hρ hb
  have hb':b<w'.heap.size:=by
   have e:w'.heap[b]?=some (w.heap[b]):=by rw[this.2];simp[hb]
   exact rk e
  exact .iptr _ _ _ _ _ g hb' this.1 (fun j x hx=>by rw[md this.2];exact hc j x hx) fun j x hx=>ih j x hx (by simp) (dB (cr (by simpa[aB] using hn) hx))
 | isl0 L nl A c hn=>exact fun _ _=>.isl0 _ _ _ _ hn
 | isl L es b off c s g hl h0 hρ hb hs hc h ih=>
  intro _ hn
  have:=K.k1 b hρ hb
  have hb':b<w'.heap.size:=by
   have e:w'.heap[b]?=some (w.heap[b]):=by rw[this.2];simp[hb]
   exact rk e
  exact .isl _ _ _ _ _ s g hl h0 this.1 hb' hs (fun i e k x he hx=>by rw[md this.2];exact hc i e k x he hx) fun i e k x he hx=>ih i e k x he hx (by simp) (dB (cr (dj (by simpa[aB] using hn) he) hx))
 | usl0 l s A=>exact fun _ _=>.usl0 _ _ _
 | usl l s es b A c arr T g hρ hb hl hA hcap hs hc h ih=>
  intro ho hn
  have k:=K3 b l (ho l rfl) hρ
  exact .usl _ s es b A c arr T g k.1 (by rw[k.2];exact hb) hl hA hcap hs hc fun i e k x he hx=>by
   have:=ih i e k x he hx (fun l' h'=>by cases h';exact hok _ _ _ (ho l rfl)) (dB (cr (dj (by simpa[aB] using hn) he) hx))
   rwa[Option.map_some,hmv _ _ _ (ho l rfl)] at this
 | uptr l e b arr T g hρ hb hc h ih=>
  intro ho hn
  have k:=K3 b l (ho l rfl) hρ
  exact .uptr _ e b arr T g k.1 (by rw[k.2];exact hb) hc fun k x hx=>by
   have:=ih k x hx (fun l' h'=>by cases h';exact hok _ _ _ (ho l rfl)) (dB (cr (by simpa[aB] using hn) hx))
   rwa[Option.map_some,hmv _ _ _ (ho l rfl)] at this
 | hp L o nv path s i k u h h1'=>
  intro _ hn
  refine .hp _ _ _ _ _ _ _ _ (fun hl=>?_) h1'
  obtain⟨h1,h2⟩:=K.k2 o nv path (by simpa[aB] using hn) hl
  obtain⟨b,n,hb,hn',hu⟩:=h h1
  obtain⟨h3,h4⟩:=h2 b n hb hn'
  exact⟨b,n,h3,h4,hu⟩
 | hs L o nv path s off len u h h1'=>
  intro _ hn
  refine .hs _ _ _ _ _ _ _ _ (fun hl=>?_) h1'
  obtain⟨h1,h2⟩:=K.k2 o nv path (by simpa[aB] using hn) hl
  obtain⟨c,A,hu,hlc,hc⟩:=h h1
  refine⟨c,A,hu,hlc,fun h0=>?_⟩
  obtain⟨b,n,hb,hn',hA,hle⟩:=hc h0
  obtain⟨h3,h4⟩:=h2 b n hb hn'
  exact⟨b,n,h3,h4,hA,hle⟩
theorem RepV.mono {New:Nat→Nat→Prop}{w w':World}{ρ ρ':bX}{rt rt':aw}(K:Keep New w ρ rt w' ρ' rt')(mv:dJ→dJ)(ok:dJ→Prop)(hmv:∀l i k,ok l→mv (l.at i k)=(mv l).at i k)(hok:∀l i k,ok l→ok (l.at i k))(K3:∀b l,ok l→ρ b=some l→ρ' b=some (mv l)∧w'.heap[b]?=w.heap[b]?){L:Option dJ}{v:V}{u:Value}(h:RepV w ρ rt L v u):(∀l,L=some l→ok l)→aB New v→RepV w' ρ' rt' (L.map mv) v u:=h.mono0 ⟨K.k1,K.k2⟩ mv ok hmv hok K3
theorem RepV.keep {New:Nat→Nat→Prop}{w w':World}{ρ ρ':bX}{rt rt':aw}(K:Keep New w ρ rt w' ρ' rt'){v:V}{u:Value}(h:RepV w ρ rt none v u)(hn:aB New v):RepV w' ρ' rt' none v u:=
 h.mono K id (fun _=>False) (fun _ _ _ _=>rfl) (fun _ _ _ h=>h) (fun _ _ h=>h.elim) (by simp) hn
theorem bm.keep {New:Nat→Nat→Prop}{w w':World}{ρ ρ':bX}{rt rt':aw}(K:Keep New w ρ rt w' ρ' rt'){v:V}{u:Value}(h:bm w ρ rt ca v u)(hn:aB New v):bm w' ρ' rt' ca v u:=by
 obtain⟨g,hu,hg⟩:=h
 exact⟨g,hu,fun k x hx=>(hg k x hx).keep K (jD hn hx)⟩
end
set_option linter.unusedSimpArgs false
section
structure Agree (P:Program) (E:Env):Prop where
 info:∀t ti,E.ty t=some ti→∃i,P.info? t=some i∧i.size=ti.size∧i.bytes=ti.bytes∧i.zero=some ti.zv
 und:∀t ti,E.ty t=some ti→P.underlying t=some ti.desc
 eqs:∀t,E.eqs.contains t=true→P.stoodInHeld t=false
theorem Agree.desc {P:Program}{E:Env}(A:Agree P E){t:TypeId}{d:TypeDesc}(h:E.desc t=some d):P.underlying t=some d:=by
 unfold Env.desc at h
 split at h
 ·rename_i ti hti
  cases h
  exact A.und t ti hti
 ·cases h
variable {w : World} {ρ : bX} {rt : aw}
theorem bm.one {at_:Nat→Option dJ}{v:V}{u:Value}(hv:aA v=false)(h:bm w ρ rt at_ v u):RepV w ρ rt (at_ 0) v u:=by
 obtain⟨g,rfl,hg⟩:=h
 have hc:cells v=[v]:=by cases v<;>simp_all[cells,aA]
 have:=hg 0 v (by simp[hc])
 simpa[fT,hv] using this
theorem bm.mk1 {at_:Nat→Option dJ}{v:V}{u:Value}(hv:aA v=false)(h:RepV w ρ rt (at_ 0) v u):bm w ρ rt at_ v u:=by
 refine⟨fun _=>u,by simp[fT,hv],fun k x hx=>?_⟩
 have hc:cells v=[v]:=by cases v<;>simp_all[cells,aA]
 rw[hc] at hx
 cases k with
 | zero=>simp at hx;subst hx;exact h
 | succ k=>simp at hx
def kc (w:World)(ρ:bX)(rt:aw)(tm:List V)(tmps:Array Value):Prop:=
 tm.length=tmps.size∧∀(i:Nat) v u,tm[i]?=some v→tmps[i]?=some u→bm w ρ rt ca v u
theorem tJ {c:Value}{v:V}(h:ko c=some v)(L:Option dJ):RepV w ρ rt L v c∧aA v=false:=by
 unfold ko at h
 split at h<;>cases h<;>refine⟨?_,rfl⟩<;>first | exact .bool _ _ | exact .int _ _ _ | exact .str _ _ | exact .nilp _ | exact .nilfn _ | exact .nilif _ | exact .isl0 _ _ _ _ (by simp)
theorem yR:∀{cs:List Value} {vs:List V},ib cs=some vs→vs.length=cs.length∧∀(k:Nat) x c,vs[k]?=some x→cs[k]?=some c→ko c=some x
 | [],vs,h=>by simp[ib] at h;subst h;simp
 | c::cs,vs,h=>by
  simp only[ib,aV,ba] at h
  obtain⟨x,hx,ys,hys,rfl⟩:=h
  have ih:=yR hys
  refine⟨by simp[ih.1],fun k x' c' h1 h2=>?_⟩
  cases k with
  | zero=>simp at h1 h2;subst h1 h2;exact hx
  | succ k=>exact ih.2 k x' c' (by simpa using h1) (by simpa using h2)
theorem OG (cs:List V)(arr:Array Value)(hl:cs.length=arr.size):Value.agg arr=fT (.agg cs) (fun k=>arr.getD k undef):=by
 simp only[fT,aA,cells,if_true,dQ]
 congr 1
 apply Array.ext'
 apply List.ext_getElem?
 intro i
 by_cases hi:i<arr.size
 ·simp[hi,hl,Array.getD]
 ·simp[hi,hl,Array.getElem?_eq_none (Nat.le_of_not_lt hi)]
theorem jH {c:Value}{v:V}(h:gv c=some v)(at_:Nat→Option dJ):bm w ρ rt at_ v c:=by
 unfold gv at h
 split at h
 ·rename_i cs
  simp only[ba] at h
  obtain⟨vs,hvs,rfl⟩:=h
  obtain⟨hl,hc⟩:=yR hvs
  refine⟨fun k=>cs.getD k undef,OG vs cs (by simpa using hl),fun k x hx=>?_⟩
  have hk:k<cs.size:=by
   have:=(cX.1 (show vs[k]?=some x from hx)).1
   simp at hl;omega
  have:=hc k x (cs[k]) hx (by simp[hk])
  simpa[Array.getD,hk] using (tJ this (at_ k)).1
 ·have:=tJ (w:=w) (ρ:=ρ) (rt:=rt) h (at_ 0)
  exact bm.mk1 this.2 this.1
theorem cU {a:Act}{st:St}(ht:kc w ρ rt st.tm a.tmps){x:Operand}{v:V}(h:ev st x=some v):bm w ρ rt ca v (a.eval x):=by
 cases x with
 | tmp t=>
  simp only[ev] at h
  have hlt:t<a.tmps.size:=by rw[←ht.1];exact (cX.1 h).1
  have:=ht.2 t v (a.tmps[t]) h (by simp[hlt])
  simpa[Act.eval,Array.getD,hlt] using this
 | const c=>exact jH (c:=c) (by simpa[ev] using h) _
 | global g=>simp[ev] at h
 | func f=>
  simp[ev] at h
  subst h
  refine bm.mk1 rfl ?_
  have:=RepV.fn (w:=w) (ρ:=ρ) (rt:=rt) (ca 0) f [] (fun _=>undef) (by simp)
  simpa[dQ,Act.eval] using this
theorem vd {a:Act}{st:St}(ht:kc w ρ rt st.tm a.tmps):∀{xs:List Operand} {vs:List V},io st xs=some vs→vs.length=xs.length∧∀(i:Nat) v x,vs[i]?=some v→xs[i]?=some x→bm w ρ rt ca v (a.eval x)
 | [],vs,h=>by simp[io] at h;subst h;simp
 | x::xs,vs,h=>by
  simp only[io,aV,ba] at h
  obtain⟨v,hv,ys,hys,rfl⟩:=h
  have ih:=vd ht hys
  refine⟨by simp[ih.1],fun i v' x' h1 h2=>?_⟩
  cases i with
  | zero=>simp at h1 h2;subst h1 h2;exact cU ht hv
  | succ i=>exact ih.2 i v' x' (by simpa using h1) (by simpa using h2)
theorem adn {L}{k:IntKind}{n:Int}{u:Value}(h:RepV w ρ rt L (.int k n) u):u=.int k n:=by cases h;rfl
theorem aaW {L}{b:Bool}{u:Value}(h:RepV w ρ rt L (.bool b) u):u=.bool b:=by cases h;rfl
theorem ado {L}{s:ByteArray}{u:Value}(h:RepV w ρ rt L (.str s) u):u=.string s:=by cases h;rfl
theorem je {k:IntKind}{n:Int}{u:Value}(h:bm w ρ rt ca (.int k n) u):u=.int k n:=adn (bm.one rfl h)
theorem mo {b:Bool}{u:Value}(h:bm w ρ rt ca (.bool b) u):u=.bool b:=aaW (bm.one rfl h)
theorem pQ {s:ByteArray}{u:Value}(h:bm w ρ rt ca (.str s) u):u=.string s:=ado (bm.one rfl h)
theorem mi (k:IntKind)(n:Int):bm w ρ rt ca (.int k n) (.int k n):=bm.mk1 rfl (.int _ _ _)
theorem jm (b:Bool):bm w ρ rt ca (.bool b) (.bool b):=bm.mk1 rfl (.bool _ _)
theorem IJ (s:ByteArray):bm w ρ rt ca (.str s) (.string s):=bm.mk1 rfl (.str _ _)
theorem Xr {P:Program}{op:BinOp}{k:IntKind}{a b:Int}{v:V}(hs:op≠.shl)(hs':op≠.shr)(h:IE op k a b=some v)(t:TypeId) :
  ∃u,(binOp op t (.int k a) (.int k b)).run P w=.ok u w∧bm w ρ rt ca v u:=by
 cases op<;>simp only[IE,intBits] at h
 all_goals first | (exfalso;exact hs rfl) | (exfalso;exact hs' rfl) | skip
 all_goals first | (split at h<;>first | (cases h;done) | skip) | skip
 all_goals first | cases h | skip
 all_goals first
  | exact⟨_,by simp[binOp,Op.intArith,Op.intDiv,Op.intBits,Op.intCmp, *];rfl,mi _ _⟩
  | exact⟨_,by simp[binOp,Op.intArith,Op.intDiv,Op.intBits,Op.intCmp, *];rfl,jm _⟩
  | exact⟨_,by simp[binOp,Op.intArith,Op.intDiv,Op.intBits,Op.intCmp, *],mi _ _⟩
  | exact⟨_,by simp[binOp,Op.intArith,Op.intDiv,Op.intBits,Op.intCmp, *],jm _⟩
end
section
variable {w : World} {ρ : bX} {rt : aw}
theorem XZ {P:Program}{op:BinOp}{a b:ByteArray}{v:V}(h:zQ op a b=some v)(t:TypeId) :
  ∃u,(binOp op t (.string a) (.string b)).run P w=.ok u w∧bm w ρ rt ca v u:=by
 cases op<;>simp only[zQ] at h
 all_goals first | cases h | skip
 case add=>
  split at h<;>cases h
  rename_i hs
  exact⟨_,by simpa[binOp] using run_string_add_sum (P:=P) w a b hs,IJ _⟩
 all_goals simp only[←Lib.toList_data]
 all_goals first | exact⟨_,by simp[binOp,Op.stringOp];rfl,jm _⟩ | exact⟨_,by simp[binOp,Op.stringOp],jm _⟩
theorem RepV.place {L L':Option dJ}{v:V}{u:Value}(h:RepV w ρ rt L v u)(hv:match v with
  | .usl _ _=>False
  | .uptr _=>False
  | _=>True):RepV w ρ rt L' v u:=by
 cases h
 case und=>exact .und _
 case dead=>exact .dead _ _
 case bool=>exact .bool _ _
 case int=>exact .int _ _ _
 case str=>exact .str _ _
 case nilp=>exact .nilp _
 case nilfn=>exact .nilfn _
 case nilif=>exact .nilif _
 case fn f caps g h=>exact .fn _ _ _ g h
 case iface t v g h=>exact .iface _ _ _ g h
 case tup vs p g hp h=>exact .tup _ _ p g hp h
 case iptr e k b off g hb hρ hc h=>exact .iptr _ _ _ _ _ g hb hρ hc h
 case isl0 nl A c hn=>exact .isl0 _ _ _ _ hn
 case isl es b off c s g hl h0 hρ hb hs hc h=>exact .isl _ _ _ _ _ s g hl h0 hρ hb hs hc h
 case usl0=>exact hv.elim
 case usl=>exact hv.elim
 case uptr=>exact hv.elim
 case hp o nv path s i k h h1=>exact .hp _ _ _ _ _ _ _ _ h h1
 case hs o nv path s off len h h1=>exact .hs _ _ _ _ _ _ _ _ h h1
def cO (w:World)(ρ:bX)(rt:aw)(L:dJ)(s:Nat)(es:List V):Prop:=
 (es=[])∨∃b arr T,∃g:Nat→Nat→Value,ρ b=some L∧w.heap[b]?=some (.cells arr T (0,0))∧
  (∀(i:Nat) (e:V),es[i]?=some e→(cells e).length=s)∧
  (∀(i:Nat) (e:V) k x,es[i]?=some e→(cells e)[k]?=some x→arr[i*s+k]?=some (g i k))∧
  (∀(i:Nat) (e:V) k x,es[i]?=some e→(cells e)[k]?=some x→RepV w ρ rt (some (L.at i k)) x (g i k))
theorem ry {L:dJ}{s:Nat}{es:List V}{i k:Nat}{e x:V}(h:cO w ρ rt L s es)(he:es[i]?=some e)(hx:(cells e)[k]?=some x) :
  ∃b arr T y,ρ b=some L∧w.heap[b]?=some (.cells arr T (0,0))∧(cells e).length=s∧arr[i*s+k]?=some y∧RepV w ρ rt (some (L.at i k)) x y:=by
 rcases h with rfl | ⟨b,arr,T,g,h1,h2,h3,h4,h5⟩
 ·simp at he
 ·exact⟨b,arr,T,g i k,h1,h2,h3 i e he,h4 i e k x he hx,h5 i e k x he hx⟩
theorem qG {l:dJ}{s:Nat}{es:List V}{u:Value}(h:RepV w ρ rt (some l) (.usl s es) u):cO w ρ rt l s es:=by
 cases h with
 | usl0=>exact .inl rfl
 | usl _ _ _ b A c arr T g hρ hb hl hA hcap hs hc h=>exact .inr ⟨b,arr,T,g,hρ,hb,hs,hc,h⟩
theorem pe {l:dJ}{e:V}{u:Value}(h:RepV w ρ rt (some l) (.uptr e) u):cO w ρ rt l (cells e).length [e]:=by
 cases h with
 | uptr _ _ b arr T g hρ hb hc h=>
  refine .inr ⟨b,arr,T,fun _ k=>g k,hρ,hb,?_,?_,?_⟩
  ·intro i e' he
   cases i<;>simp at he
   subst he;rfl
  ·intro i e' k x he hx
   cases i<;>simp at he
   subst he
   simpa using hc k x hx
  ·intro i e' k x he hx
   cases i<;>simp at he
   subst he
   exact h k x hx
theorem kQ {o:Nat}:∀{p p0:List (Nat×Nat)} {s s':Nat} {es es':List V},cO w ρ rt (o,p0) s es→bG p s es=some (s',es')→cO w ρ rt (o,p0++p) s' es'
 | [],p0,s,s',es,es',h,e=>by simp[bG] at e;obtain⟨rfl,rfl⟩:=e;simpa using h
 | (i,k)::p,p0,s,s',es,es',h,e=>by
  simp only[bG] at e
  split at e
  ·cases e
  ·rename_i v hv
   split at e
   ·rename_i s1 x hx
    obtain⟨b,arr,T,y,h1,h2,h3,h4,h5⟩:=ry h hv hx
    have:=kQ (p:=p) (qG h5) e
    simpa[dJ.at] using this
   ·rename_i x hx
    obtain⟨b,arr,T,y,h1,h2,h3,h4,h5⟩:=ry h hv hx
    have:=kQ (p:=p) (pe h5) e
    simpa[dJ.at] using this
   ·cases e
def eS (w:World)(ρ:bX)(rt:aw):Prop:=∀o r,rt o=some r→cO w ρ rt (o,[]) r.s r.es
def fp (ρ:bX):Prop:=∀b b' L,ρ b=some L→ρ b'=some L→b=b'
theorem eF {o nv:Nat}{path}{r:Root}(h:cy rt o nv path=some r):rt o=some r∧(path=[]∨r.nv=nv):=by
 unfold cy at h
 split at h
 ·rename_i r' hr
  split at h
  ·rename_i hc
   cases h
   refine⟨hr,?_⟩
   simpa using hc
  ·cases h
 ·cases h
theorem pP (H:eS w ρ rt){o nv:Nat}{path}{s:Nat}{es:List V}(h:cJ rt o nv path=some (s,es)):cO w ρ rt (o,path) s es:=by
 unfold cJ at h
 simp only[aV] at h
 obtain⟨r,hr,hrow⟩:=h
 have:=kQ (H o r (eF hr).1) hrow
 simpa using this
theorem abc {o nv:Nat}{path}{i k:Nat}{x:V}{y:Value}(h:RepV w ρ rt (some (o,path++[(i,k)])) x y):RepV w ρ rt none (O9 o nv path i k x) y:=by
 cases hx:x
 case usl s es=>
  subst hx
  refine .hs _ _ _ _ _ _ _ _ (fun _=>?_) (by cases h<;>trivial)
  cases h with
  | usl0=>exact⟨0,_,rfl,by simp,by simp⟩
  | usl _ _ _ b A c arr T g hρ hb hl hA hcap hs hc h=>exact⟨c,A,rfl,hl,fun h0=>⟨b,arr.size,hρ,⟨arr,T,hb,rfl⟩,by simpa using hA h0,by simpa using hcap⟩⟩
 case uptr e=>
  subst hx
  refine .hp _ _ _ _ _ _ _ _ (fun _=>?_) (by cases h<;>trivial)
  cases h with
  | uptr _ _ b arr T g hρ hb hc h=>exact⟨b,arr.size,hρ,⟨arr,T,hb,rfl⟩,by simp⟩
 all_goals exact (hx▸h).place (by trivial)
theorem tS {o nv:Nat}{path}{i:Nat}:∀{vs:List V} {k j:Nat} {x:V},(pT o nv path i k vs)[j]?=some x→∃y,vs[j]?=some y∧x=O9 o nv path i (k+j) y
 | [],k,j,x,h=>by simp[pT] at h
 | v::vs,k,0,x,h=>by simp[pT] at h;exact⟨v,by simp,by simp[h]⟩
 | v::vs,k,j+1,x,h=>by
  simp[pT] at h
  obtain⟨y,hy,rfl⟩:=tS h
  exact⟨y,by simpa using hy,by congr 1;omega⟩
theorem Oe (H:eS w ρ rt)(J:fp ρ){p:V}{cs:List V}{u:Value}(h:kK rt p=some cs)(hp:RepV w ρ rt none p u)(h0:0<cs.length) :
  ∃b off,u=.pointer (some ⟨b,off,none⟩)∧∀(j:Nat) x,cs[j]?=some x→∃y,w.cell? ⟨b,off+j,none⟩=some y∧RepV w ρ rt none x y:=by
 unfold kK at h
 split at h
 ·rename_i e k
  cases h
  cases hp with
  | iptr _ _ _ b off g hb hρ hc h=>
   exact⟨b,off,rfl,fun j x hx=>⟨g j,hc j x (by simpa using hx),h j x (by simpa using hx)⟩⟩
 ·rename_i o nv path s i k
  simp only[aV] at h
  obtain⟨r,hr,x,hx,h⟩:=h
  obtain⟨s',es⟩:=x
  split at h
  ·rename_i hs
   subst hs
   simp only[ba] at h
   obtain⟨e,he,rfl⟩:=h
   have hl:cJ rt o nv path=some (s',es):=by simp[cJ,hr,hx]
   have hrow:=pP H hl
   cases hp with
   | hp _ _ _ _ _ _ _ _ hp=>
    obtain⟨b,n,h1,h2,h3⟩:=hp (by simp[cV,hl])
    refine⟨b,_,h3,fun j x hx=>?_⟩
    obtain⟨y,hy,rfl⟩:=tS hx
    obtain⟨b',arr,T,z,g1,g2,g3,g4,g5⟩:=ry hrow he (by simpa using hy)
    have:=J b b' _ h1 g1
    subst this
    refine⟨z,?_,abc g5⟩
    simp[World.cell?,g2,Nat.add_assoc,g4]
  ·cases h
 ·cases h
end
section
variable {w : World} {ρ : bX} {rt : aw}
theorem fz {P:Program}{E:Env}(A:Agree P E){t:TypeId}{ti:TI}(h:E.ty t=some ti)(w:World):(sizeOf t).run P w=.ok ti.size w:=by
 obtain⟨i,hi,hs,_,_⟩:=A.info t ti h
 simp[sizeOf,typeInfo,hi,hs]
theorem mQ {P:Program}{E:Env}(A:Agree P E){t:TypeId}{ti:TI}(h:E.ty t=some ti)(w:World):(zeroValue t).run P w=.ok ti.zv w:=by
 obtain⟨i,hi,hs,_,hz⟩:=A.info t ti h
 simp[zeroValue,typeInfo,hi,hz]
theorem I7 {P:Program}{E:Env}(A:Agree P E){t:TypeId}{ti:TI}(h:E.ty t=some ti)(w:World):(isAgg t).run P w=.ok (eY ti.desc) w:=by
 have hu:=A.und t ti h
 unfold isAgg
 simp only[Sem.run_bind,run_underlying hu,Result.andThen]
 cases hd:ti.desc<;>simp[eY]
theorem wA {P:Program}{t:TypeId}{x y:Value}{b:Bool}(h:∀d,(Op.equalIn (d+1) t x y).run P w=.ok b w):(Op.equal t x y).run P w=.ok b w:=h 9999
theorem Sl {P:Program}{a b:Bool}{t:TypeId}(hu:P.underlying t=some .bool):(Op.equal t (.bool a) (.bool b)).run P w=.ok (a==b) w:=
 wA fun d=>by simp[Op.equalIn,run_underlying hu]
theorem tq {P:Program}{t e:TypeId}{n l c l' c':Nat}{A A':Option Addr}{b:Bool}(hu:P.underlying t=some (.slice e))(h:A'=none)(hb:A.isNone=b):(Op.equalIn (n+1) t (.slice A l c) (.slice A' l' c')).run P w=.ok b w:=by
 subst h
 cases A<;>simp[Op.equalIn,run_underlying hu] at hb ⊢<;>exact hb
theorem Kl {P:Program}{t e:TypeId}{n l c l' c':Nat}{A A':Option Addr}{b:Bool}(hu:P.underlying t=some (.slice e))(h:A=none)(hb:A'.isNone=b):(Op.equalIn (n+1) t (.slice A l c) (.slice A' l' c')).run P w=.ok b w:=by
 subst h
 cases A'<;>simp[Op.equalIn,run_underlying hu] at hb ⊢<;>exact hb
theorem kB {L}{n:Bool}{es:List V}{u:Value}(h:RepV w ρ rt L (.isl n es) u):∃A l c,u=.slice A l c∧((n=true∨es≠[])→A.isNone=n):=by
 cases h with
 | isl0 _ _ A c hn=>exact⟨A,0,c,rfl,by cases n<;>cases A<;>simp_all⟩
 | isl _ _ b off c s g=>exact⟨_,_,_,rfl,fun _=>rfl⟩
theorem XC {P : Program}{x y : V}{b : Bool}{u u' : Value}(h : tg x y = some b)(hx : RepV w ρ rt none x u)(hy : RepV w ρ rt none y u'){t : TypeId}{d : TypeDesc}(hu : P.underlying t = some d)(hd : vj d x=true) :
    (Op.equal t u u').run P w=.ok b w:=by
  refine wA fun n=>?_
  unfold tg at h
  split at h <;> first | (cases h; done) | skip
  all_goals first | (cases h) | skip
  all_goals (cases d <;> first | (simp [vj] at hd; done) | skip)
  all_goals first
    | (obtain ⟨A, l, c, rfl, hA⟩ := kB hx
       obtain ⟨A',l',c',rfl,hA'⟩:=kB hy
       first
         | exact tq hu (by simpa using hA') (hA (by simp))
         | exact Kl hu (by simpa using hA) (hA' (by simp)))
    | (cases hx <;> cases hy <;> simp [Op.equalIn,run_underlying hu])
theorem wt {a:Bool}{cs:List V}{v:V}{g:Nat→Value}(h:kM a cs=some v)(hg:∀(k:Nat) x,cs[k]?=some x→RepV w ρ rt none x (g k)):bm w ρ rt ca v (if a then .agg (dQ cs.length g) else g 0):=by
 unfold kM at h
 split at h
 ·cases h
  rename_i ha
  subst ha
  exact⟨g,by simp[fT,aA,cells],fun k x hx=>hg k x hx⟩
 ·rename_i ha
  split at h
  ·rename_i v0
   split at h
   ·cases h
   ·rename_i hna
    cases h
    have ha':a=false:=by simpa using ha
    subst ha'
    exact bm.mk1 (by simpa using hna) (hg 0 _ (by simp))
  ·cases h
theorem Bw {P:Program}{E:Env}(A:Agree P E){t:TypeId}{ti:TI}(ht:E.ty t=some ti){b off:Nat}{g:Nat→Value}(h:∀j,j<ti.size→w.cell? ⟨b,off+j,none⟩=some (g j))(hs:eY ti.desc=false→ti.size=1) :
  (loadVar t ⟨b,off,none⟩).run P w=.ok (if eY ti.desc then .agg (dQ ti.size g) else g 0) w:=by
 unfold loadVar
 simp only[Sem.run_bind,I7 A ht,Result.andThen]
 split
 ·simp only[Sem.run_bind,fz A ht,Result.andThen]
  rw[run_loadCells (P:=P) w ⟨b,off,none⟩ ti.size g (fun j hj=>by rw[Addr.add_lit];exact h j hj)]
  simp[dQ]
 ·rename_i ha
  have:=h 0 (by rw[hs (by simpa using ha)];omega)
  simp only[Nat.add_zero] at this
  simp[run_load,this]
end
set_option linter.unusedSectionVars false
section
variable {w : World} {ρ : bX} {rt : aw}
def fh (P:Program)(ev':Operand→Value)(o:Oper)(w:World)(ρ:bX)(rt:aw)(v:V):Prop:=
 ∃u,(execOp ev' o).run P w=.ok (.value u) w∧bm w ρ rt ca v u
theorem jx {n:Nat}{g:Nat→Value}{i:Nat}(h:i<n):(dQ n g)[i]?=some (g i):=by simp[dQ,h]
theorem Sj {n:Nat}{g:Nat→Value}:(dQ n g).size=n:=by simp[dQ]
theorem wD {cs:List V}{u:Value}(h:bm w ρ rt ca (.agg cs) u):∃g,u=.agg (dQ cs.length g)∧∀(k:Nat) x,cs[k]?=some x→RepV w ρ rt none x (g k):=by
 obtain⟨g,hu,hg⟩:=h
 exact⟨g,by simpa[fT,aA,cells] using hu,fun k x hx=>hg k x hx⟩
section
variable {P : Program} {E : Env} (A : Agree P E) {st : St} {a : Act} {o : Oper} (H : eS w ρ st.rt) (J : fp ρ) (T : kc w ρ st.rt st.tm a.tmps)
include A H J T
theorem age {x:Operand}{v:V}(ho:o.op=.move x)(h:ev st x=some v):fh P a.eval o w ρ st.rt v:=⟨_,by simp[execOp,ho],cU T h⟩
theorem aaA {x:Operand}{v:V}(ho:o.op=.assign x)(h:ev st x=some v):fh P a.eval o w ρ st.rt v:=⟨_,by simp[execOp,ho],cU T h⟩
theorem Xf {c x y:Operand}{b:Bool}{v:V}(ho:o.op=.pick c x y)(hc:ev st c=some (.bool b))(h:(if b then ev st x else ev st y)=some v):fh P a.eval o w ρ st.rt v:=by
 have hb:=mo (cU T hc)
 cases b
 ·exact⟨_,by simp[execOp,ho,hb,asBool];rfl,cU T (by simpa using h)⟩
 ·exact⟨_,by simp[execOp,ho,hb,asBool];rfl,cU T (by simpa using h)⟩
theorem agf {op:UnOp}{t:TypeId}{x:Operand}{u v:V}(ho:o.op=.unOp op t x)(hx:ev st x=some u)(h:unV op u=some v):fh P a.eval o w ρ st.rt v:=by
 have hs:=cU T hx
 unfold unV at h
 split at h
 ·rename_i b
  have:=mo hs
  split at h<;>cases h
  exact⟨_,by simp[execOp,ho,this,Op.unary],jm _⟩
 ·rename_i k n
  have:=je hs
  split at h
  ·cases h
   exact⟨_,by simp[execOp,ho,this,Op.unary,Op.intArith],mi _ _⟩
  ·simp only[intBits] at h
   cases h
   exact⟨_,by simp[execOp,ho,this,Op.unary,Op.intBits],mi _ _⟩
  ·cases h
 ·cases h
theorem Xe {x:Operand}{i:Nat}{vs:List V}{v:V}(ho:o.op=.extract x i)(hx:ev st x=some (.tup vs))(h:vs[i]?=some v):fh P a.eval o w ρ st.rt v:=by
 have:=bm.one rfl (cU T hx)
 generalize hev:a.eval x=ux at *
 cases this with
 | tup _ _ p g hp hg=>
  have hi:=(cX.1 h).1
  refine⟨p i,by simp[execOp,ho,hev,Instr.extract,jx hi],g i,hp i v h,fun k x hx=>hg i v k x h hx⟩
theorem IB {x:Operand}{v:V}(ho:o.op=.nilCheck x)(hx:ev st x=some v)(hl:match v with
  | .hp o nv p _ _ _=>cV st.rt o nv p
  | .iptr _ _=>True
  | _=>False):fh P a.eval o w ρ st.rt v:=by
 have hs:=cU T hx
 have:=bm.one (by cases v<;>first | rfl | exact hl.elim) hs
 generalize hev:a.eval x=ux at *
 cases this<;>first | (exact hl.elim) | skip
 case iptr e k b off g hb hρ hc h=>exact⟨_,by simp[execOp,ho,hev],hs⟩
 case hp o' nv p s i k hh _=>
  obtain⟨b,n,h1,h2,h3⟩:=hh hl
  subst h3
  exact⟨_,by simp[execOp,ho,hev],hs⟩
theorem Sw {f:FuncId}{first caps:Array Operand}{vs:List V}(ho:o.op=.makeFunc (.func f) first caps)(h0:first.size=0)(h:io st caps.toList=some vs)(hp:∀v∈vs,aA v=false):fh P a.eval o w ρ st.rt (.fn f vs):=by
 obtain⟨hl,hr⟩:=vd T h
 have e0:first=#[]:=Array.eq_empty_of_size_eq_zero h0
 subst e0
 refine⟨.func (.func f) #[] (caps.map a.eval),by simp[execOp,ho,Instr.makeFunc],bm.mk1 rfl ?_⟩
 have e:caps.map a.eval=dQ vs.length (fun i=>a.eval (caps.getD i (.const undef))):=by
  apply Array.ext
  ·simp[dQ,hl]
  ·intro i h1 h2
   simp at h1
   simp[dQ,Array.getD,h1]
 rw[e]
 refine .fn _ _ _ _ fun i v hv=>?_
 have hi:=(cX.1 hv).1
 have hi':i<caps.size:=by simp at hl;omega
 have:=hr i v (caps[i]) hv (by simp[hi'])
 have hv':=hp v (iO hv)
 simpa[Array.getD,hi',ca] using bm.one hv' this
theorem IA {t:TypeId}{x:Operand}{v:V}(ho:o.op=.makeInterface t x)(hx:ev st x=some v){d:TypeDesc}(hd:E.desc t=some d)(hi:pN d=false):fh P a.eval o w ρ st.rt (.iface t v):=by
 have hs:=cU T hx
 have hu:=A.desc hd
 refine⟨.iface t (a.eval x),?_,bm.mk1 rfl ?_⟩
 ·simp only[execOp,ho,Instr.makeInterface,Sem.run_bind,run_underlying hu,Result.andThen]
  cases d<;>simp_all[pN]
 ·obtain⟨g,hu,hg⟩:=hs
  rw[hu]
  exact .iface _ _ _ g fun k x hx=>hg k x hx
theorem agd {t:TypeId}{p:Operand}{ti:TI}{pv:V}{cs:List V}{v:V}(ho:o.op=.load t p)(ht:E.ty t=some ti)(hp:ev st p=some pv)(hc:kK st.rt pv=some cs)(hl:ti.size≤cs.length)(h0:0<ti.size)(h:kM (eY ti.desc) (cs.take ti.size)=some v):fh P a.eval o w ρ st.rt v:=by
 have hpv:aA pv=false:=by cases pv<;>first | rfl | simp[kK] at hc
 obtain⟨b,off,hu,hr⟩:=Oe H J hc (bm.one hpv (cU T hp)) (by omega)
 have hx:∀j,j<ti.size→∃y,w.cell? ⟨b,off+j,none⟩=some y∧∀x,cs[j]?=some x→RepV w ρ st.rt none x y:=by
  intro j hj
  obtain⟨y,h1,h2⟩:=hr j (cs[j]'(by omega)) (by simp)
  exact⟨y,h1,fun x hx=>by rw[em (by omega)] at hx;cases hx;exact h2⟩
 have hg:∃g:Nat→Value,∀j,j<ti.size→w.cell? ⟨b,off+j,none⟩=some (g j)∧∀x,cs[j]?=some x→RepV w ρ st.rt none x (g j):=by
  refine⟨fun j=>if hj:j<ti.size then (hx j hj).choose else undef,fun j hj=>?_⟩
  simp only[hj,dif_pos]
  exact (hx j hj).choose_spec
 obtain⟨g,hg⟩:=hg
 have h1:eY ti.desc=false→ti.size=1:=fun ha=>by
  unfold kM at h
  rw[if_neg (by simp[ha])] at h
  split at h
  ·rename_i v' hv'
   have:=congrArg List.length hv'
   simp[Nat.min_eq_left hl] at this
   exact this
  ·cases h
 refine⟨_,?_,wt (g:=g) h (fun k x hk=>?_)⟩
 ·simp only[execOp,ho,Instr.loadAt,hu,Instr.sureAddr,Sem.run_bind,Sem.run_pure,Result.andThen]
  rw[Bw A ht (fun j hj=>(hg j hj).1) h1]
  simp[List.length_take,Nat.min_eq_left hl]
 ·rw[List.getElem?_take] at hk
  split at hk
  ·rename_i hk'
   exact (hg k hk').2 x hk
  ·cases hk
theorem Bn {s:TypeId}{x:Operand}{f:Nat}{pv v:V}{fl:Nat×Nat×Bool}(ho:o.op=.fieldAddr s x f)(hx:ev st x=some pv)(hf:fieldAt? E s f=some fl)(h0:0<fl.2.1)(h:match pv,v with
   | .iptr e k,.iptr e' k'=>e'=e∧k'=k+fl.1
   | .hp o nv p sz i k,.hp o' nv' p' sz' i' k'=>o'=o∧nv'=nv∧p'=p∧sz'=sz∧i'=i∧k'=k+fl.1∧cV st.rt o nv p
   | _,_=>False):fh P a.eval o w ρ st.rt v:=by
 unfold fieldAt? at hf
 split at hf
 ·rename_i fs ti1 ti2 ti3 hs
  simp only[aV,ba] at hf
  obtain⟨fd,hfd,ti,hti,rfl⟩:=hf
  have hu:=A.und s _ hs
  have hsz:=fz A hti w
  have key:∀b off,a.eval x=.pointer (some ⟨b,off,none⟩)→(execOp a.eval o).run P w=.ok (.value (.pointer (some ⟨b,off+fd.offset,none⟩))) w:=by
   intro b off he
   have hz:¬(ti.size=0):=by simp at h0;omega
   simp[execOp,ho,he,Instr.fieldAt,run_underlying hu,hfd,Instr.sureAddr,fieldPlace,hsz,hz,Addr.add_lit]
  have hpv:=cU T hx
  cases pv<;>cases v<;>first | (exact h.elim) | skip
  ·obtain⟨rfl,rfl⟩:=h
   have:=bm.one rfl hpv
   generalize hev:a.eval x=ux at this
   cases this with
   | iptr _ e k b off g hb hρ hc hr=>
    refine⟨_,key b off hev,bm.mk1 rfl ?_⟩
    exact .iptr _ _ _ _ _ (fun j=>g (fd.offset+j)) hb hρ (fun j x hx=>by rw[Nat.add_assoc];exact hc (fd.offset+j) x (by rw[←Nat.add_assoc];exact hx)) fun j x hx=>hr (fd.offset+j) x (by rw[←Nat.add_assoc];exact hx)
  ·obtain⟨rfl,rfl,rfl,rfl,rfl,rfl,hl⟩:=h
   have:=bm.one rfl hpv
   generalize hev:a.eval x=ux at this
   cases this with
   | hp _ _ _ _ _ _ _ _ hh=>
    obtain⟨b,n,h1,h2,h3⟩:=hh hl
    refine⟨_,key b _ (hev.trans h3),bm.mk1 rfl (.hp _ _ _ _ _ _ _ _ (fun _=>⟨b,n,h1,h2,?_⟩) trivial)⟩
    simp[Nat.add_assoc]
 ·cases hf
theorem ac6 {s:TypeId}{x:Operand}{f:Nat}{cs c:List V}{v:V}{fl:Nat×Nat×Bool}(ho:o.op=.field s x f)(hx:ev st x=some (.agg cs))(hf:fieldAt? E s f=some fl)(hc:c=(cs.drop fl.1).take fl.2.1)(hl:c.length=fl.2.1)(h:kM fl.2.2 c=some v):fh P a.eval o w ρ st.rt v:=by
 unfold fieldAt? at hf
 split at hf
 ·rename_i fs ti1 ti2 ti3 hs
  simp only[aV,ba] at hf
  obtain⟨fd,hfd,ti,hti,rfl⟩:=hf
  have hu:=A.und s _ hs
  have hsz:=fz A hti w
  obtain⟨g,he,hg⟩:=wD (cU T hx)
  subst hc
  simp only[List.length_take,List.length_drop] at hl
  have hget:∀(k:Nat) x,((cs.drop fd.offset).take ti.size)[k]?=some x→RepV w ρ st.rt none x (g (fd.offset+k)):=by
   intro k x hk
   rw[List.getElem?_take] at hk
   split at hk
   ·rw[List.getElem?_drop] at hk;exact hg _ x hk
   ·cases hk
  refine⟨_,?_,wt (g:=fun k=>g (fd.offset+k)) h hget⟩
  have hia:=I7 A hti w
  simp only[execOp,ho,he,Instr.field,Sem.run_bind,run_underlying hu,Result.andThen,hfd,asAgg,Sem.run_pure,part,hia]
  have hle:fd.offset+ti.size≤cs.length∨ti.size=0:=by omega
  by_cases ha:eY ti.desc=true
  ·simp[ha,hsz]
   apply Array.ext
   ·simp[dQ];try omega
   ·intro i h1 h2
    simp[dQ] at h1 h2 ⊢
  ·simp only[ha]
   have h1:((cs.drop fd.offset).take ti.size).length=1:=by
    unfold kM at h
    rw[if_neg ha] at h
    split at h
    ·rename_i v' hv';rw[hv'];rfl
    ·cases h
   simp only[List.length_take,List.length_drop] at h1
   have hlt:fd.offset<cs.length:=by omega
   simp[dQ,hlt]
 ·cases hf
end
end
section
variable {w : World} {ρ : bX} {rt : aw}
section
variable {P : Program} {E : Env} (A : Agree P E) {st : St} {a : Act} {o : Oper} (H : eS w ρ st.rt) (J : fp ρ) (T : kc w ρ st.rt st.tm a.tmps)
include A H J T
theorem aaB {op:BinOp}{t t':TypeId}{x y:Operand}{k k':IntKind}{m n:Int}{v:V}(ho:o.op=.binOp op t x y t')(hx:ev st x=some (.int k m))(hy:ev st y=some (.int k' n))(h:IG op k k' m n=some v):fh P a.eval o w ρ st.rt v:=by
 unfold IG at h
 have hxu:=je (cU T hx)
 have hyu:=je (cU T hy)
 by_cases h1:op=.shl
 ·subst h1
  simp only at h
  split at h<;>cases h
  exact⟨_,by simp[execOp,ho,hxu,hyu,eqGuard,binOp,Op.shift, *],mi _ _⟩
 by_cases h2:op=.shr
 ·subst h2
  simp only at h
  split at h<;>cases h
  exact⟨_,by simp[execOp,ho,hxu,hyu,eqGuard,binOp,Op.shift, *],mi _ _⟩
 have h':k=k'∧IE op k m n=some v:=by
  split at h
  ·exact absurd rfl h1
  ·exact absurd rfl h2
  ·split at h
   ·rename_i hk;exact⟨hk,h⟩
   ·cases h
 obtain⟨rfl,h'⟩:=h'
 obtain⟨u,hu,hs⟩:=Xr (w:=w) (ρ:=ρ) (rt:=st.rt) (P:=P) h1 h2 h' t
 refine⟨u,?_,hs⟩
 have hgd:(eqGuard op t x y (.int k m) (.int k n)).run P w=.ok () w:=by
  unfold eqGuard
  split<;>simp
 simp[execOp,ho,hxu,hyu,hgd,hu]
theorem aaC {op:BinOp}{t t':TypeId}{x y:Operand}{m n:ByteArray}{v:V}(ho:o.op=.binOp op t x y t')(hx:ev st x=some (.str m))(hy:ev st y=some (.str n))(h:zQ op m n=some v):fh P a.eval o w ρ st.rt v:=by
 have hxu:=pQ (cU T hx)
 have hyu:=pQ (cU T hy)
 obtain⟨u,hu,hs⟩:=XZ (w:=w) (ρ:=ρ) (rt:=st.rt) (P:=P) h t
 refine⟨u,?_,hs⟩
 have hgd:(eqGuard op t x y (.string m) (.string n)).run P w=.ok () w:=by
  unfold eqGuard
  split<;>simp
 simp[execOp,ho,hxu,hyu,hgd,hu]
theorem KU {op:BinOp}{t t':TypeId}{x y:Operand}{m n:Bool}{v:V}(ho:o.op=.binOp op t x y t')(hx:ev st x=some (.bool m))(hy:ev st y=some (.bool n))(hd:E.desc t=some .bool)(h:(op=.eql∧v=.bool (m==n))∨(op=.neq∧v=.bool !(m==n))):fh P a.eval o w ρ st.rt v:=by
 have hxu:=mo (cU T hx)
 have hyu:=mo (cU T hy)
 have hq:=Sl (w:=w) (P:=P) (a:=m) (b:=n) (A.desc hd)
 have hgd:(eqGuard op t x y (.bool m) (.bool n)).run P w=.ok () w:=by
  unfold eqGuard
  split<;>simp
 rcases h with⟨rfl,rfl⟩ | ⟨rfl,rfl⟩
 ·exact⟨.bool (m==n),by simp[execOp,ho,hxu,hyu,hgd,binOp,hq],jm _⟩
 ·exact⟨.bool !(m==n),by simp[execOp,ho,hxu,hyu,hgd,binOp,hq],jm _⟩
theorem Oj {op : BinOp}{t t' : TypeId}{x y : Operand}{m n : V}{b : Bool}{v : V}{d : TypeDesc}(ho : o.op = .binOp op t x y t')(hx : ev st x = some m)(hy : ev st y = some n)(hd : E.desc t = some d)(hf : vj d m = true)(hq : tg m n=some b)(hlit : pN d=true→(qf x || qf y)=true)(h : (op=.eql ∧ v=.bool b) ∨ (op=.neq ∧ v=.bool !b)) : fh P a.eval o w ρ st.rt v:=by
  have hma : aA m=false:=by cases m <;> first | rfl | simp [tg] at hq
  have hna : aA n=false:=by cases n <;> first | rfl | (cases m <;> simp [tg] at hq)
  have hxu:=bm.one hma (cU T hx)
  have hyu:=bm.one hna (cU T hy)
  have hrun:=XC (P:=P) hq hxu hyu (A.desc hd) hf
  generalize hev : a.eval x=ux at hxu hrun
  generalize hev' : a.eval y=uy at hyu hrun
  have fin : (eqGuard op t x y ux uy).run P w=.ok () w→(∀ z,(op=.eql→z=b)→(op=.neq→z=!b)→(binOp op t ux uy).run P w=.ok (.bool z) w)→fh P a.eval o w ρ st.rt v:=by
    intro h1 h2
    rcases h with ⟨rfl,rfl⟩ | ⟨rfl,rfl⟩
    · exact ⟨.bool b,by simp [execOp,ho,hev,hev',h1,h2 b (fun _=>rfl) (by simp)],jm _⟩
    · exact ⟨.bool !b,by simp [execOp,ho,hev,hev',h1,h2 (!b) (by simp) (fun _=>rfl)],jm _⟩
  have hop : op=.eql ∨ op=.neq:=h.imp And.left And.left
  unfold tg at hq
  split at hq <;> first | (cases hq; done) | skip
  all_goals first
    | (obtain ⟨A1, l, c, rfl, hA⟩ := kB hxu
       obtain ⟨A2,l',c',rfl,hA'⟩:=kB hyu
       refine fin (by unfold eqGuard; split <;> simp) fun z hz hz'=>?_
       rcases hop with rfl | rfl
       · simp [binOp,hrun,hz rfl]
       · simp [binOp,hrun,hz' rfl])
    | (cases hxu; cases hyu
       refine fin ?_ fun z hz hz'=>?_
       · first
         | (unfold eqGuard; split <;> simp; done)
         | (have hl := hlit (by cases d <;> simp_all [vj, pN])
            simp only [Bool.or_eq_true] at hl
            clear fin hrun
            rcases hl with hl | hl
            · cases x <;> first
                | (simp [qf] at hl; done)
                | (unfold eqGuard; split <;> simp)
            · cases y <;> first
                | (simp [qf] at hl; done)
                | (unfold eqGuard; split <;> simp))
       · rcases hop with rfl | rfl
         · simp [binOp,hrun,hz rfl]
         · simp [binOp,hrun,hz' rfl])
end
end
section
variable {w : World} {ρ : bX} {rt : aw}
theorem sX {E:Env}{t:TypeId}{d:TypeDesc}(h:E.desc t=some d):∃ti,E.ty t=some ti∧ti.desc=d:=by
 unfold Env.desc at h
 split at h
 ·rename_i ti hti;cases h;exact⟨ti,hti,rfl⟩
 ·cases h
section
variable {P : Program} {E : Env} (A : Agree P E) {st : St} {a : Act} {o : Oper} (H : eS w ρ st.rt) (J : fp ρ) (T : kc w ρ st.rt st.tm a.tmps)
include A H J T
theorem Xc {src dst:TypeId}{x:Operand}{k k':IntKind}{n:Int}{d:TypeDesc}(ho:o.op=.convert src dst x)(hx:ev st x=some (.int k' n))(hs:E.desc src=some d)(hd:E.desc dst=some (.int k)) :
  fh P a.eval o w ρ st.rt (.int k (k.wrap n)):=by
 have hxu:=je (cU T hx)
 refine⟨_,?_,mi _ _⟩
 simp[execOp,ho,hxu,convert,run_underlying (A.desc hs),run_underlying (A.desc hd),Conv.intToInt]
theorem Xd {src dst:TypeId}{x:Operand}{s:ByteArray}(ho:o.op=.convert src dst x)(hx:ev st x=some (.str s))(hs:E.desc src=some .string)(hd:E.desc dst=some .string) :
  fh P a.eval o w ρ st.rt (.str s):=by
 have hxu:=pQ (cU T hx)
 refine⟨_,?_,IJ _⟩
 simp[execOp,ho,hxu,convert,run_underlying (A.desc hs),run_underlying (A.desc hd)]
theorem Sv {t:TypeId}{x i:Operand}{s:ByteArray}{k:IntKind}{n:Int}{c:UInt8}(ho:o.op=.index t x i)(hx:ev st x=some (.str s))(hi:ev st i=some (.int k n))(hd:E.desc t=some .string)(h0:0≤n)(hc:s[n.toNat]?=some c) :
  fh P a.eval o w ρ st.rt (.int .u8 c.toNat):=by
 have hxu:=pQ (cU T hx)
 have hiu:=je (cU T hi)
 refine⟨_,?_,mi _ _⟩
 simp[execOp,ho,hxu,hiu,Instr.index,asIntOf,run_underlying (A.desc hd),h0,hc]
theorem Qg {t:TypeId}{x i:Operand}{xv v:V}{k:IntKind}{n:Int}(ho:o.op=.indexAddr t x i)(hx:ev st x=some xv)(hi:ev st i=some (.int k n))(hl:mF st.rt xv=true)(h:iz E t xv n=some v):fh P a.eval o w ρ st.rt v:=by
 have hxs:=cU T hx
 have hiu:=je (cU T hi)
 unfold iz at h
 split at h
 ·rename_i e nl es hd
  split at h
  ·rename_i h0
   simp only[aV] at h
   obtain⟨el,hel,h⟩:=h
   split at h
   ·rename_i hsz
    cases h
    obtain⟨ei,hei,hes⟩:=ba.1 hsz
    have hr:=bm.one rfl hxs
    generalize hev:a.eval x=ux at hr
    cases hr with
    | isl0=>simp at hel
    | isl _ _ b off c s g hlc hpos hρ hb hs hc hrep=>
     have hlt:=(cX.1 hel).1
     have hs':=hs _ _ hel
     refine⟨.pointer (some ⟨b,off+n.toNat*s,none⟩),?_,bm.mk1 rfl (.iptr _ _ _ _ _ (g n.toNat) hb hρ (fun j y hy=>?_) fun j y hy=>?_)⟩
     ·have hin:0≤n∧n<(es.length:Int):=by omega
      have hsz':=fz A hei w
      simp[execOp,ho,hev,hiu,Instr.indexAt,asIntOf,run_underlying (A.desc hd),hin,hsz',Addr.add_lit,hes,hs']
     ·have:=hc n.toNat el j y hel (by simpa using hy)
      rw[Nat.add_assoc];exact this
     ·exact hrep n.toNat el j y hel (by simpa using hy)
   ·cases h
  ·cases h
 ·rename_i e o' nv p s off len hd
  split at h
  ·rename_i hc
   cases h
   obtain⟨h0,hlt,hsz⟩:=hc
   obtain⟨ei,hei,hes⟩:=ba.1 hsz
   have hr:=bm.one rfl hxs
   generalize hev:a.eval x=ux at hr
   cases hr with
   | hs _ _ _ _ _ _ _ _ hh=>
    obtain⟨c,Ad,hu,hlc,hcc⟩:=hh hl
    obtain⟨b,m,h1,h2,h3,h4⟩:=hcc (by omega)
    subst h3
    refine⟨.pointer (some ⟨b,(off+n.toNat)*s,none⟩),?_,bm.mk1 rfl (.hp _ _ _ _ _ _ _ _ (fun _=>⟨b,m,h1,h2,by simp⟩) trivial)⟩
    have hsz':=fz A hei w
    simp[execOp,ho,hev,hu,hiu,Instr.indexAt,asIntOf,run_underlying (A.desc hd),h0,hlt,hsz',Addr.add_lit,hes,Nat.add_mul]
  ·cases h
 ·rename_i m e o' nv p s j kk hd
  simp only[aV] at h
  obtain⟨ei,hei,h⟩:=h
  split at h
  ·rename_i hc
   cases h
   obtain⟨h0,hlt,hsz⟩:=hc
   have hr:=bm.one rfl hxs
   generalize hev:a.eval x=ux at hr
   cases hr with
   | hp _ _ _ _ _ _ _ _ hh=>
    obtain⟨b,m',h1,h2,h3⟩:=hh hl
    subst h3
    refine⟨.pointer (some ⟨b,j*s+(kk+n.toNat*ei.size),none⟩),?_,bm.mk1 rfl (.hp _ _ _ _ _ _ _ _ (fun _=>⟨b,m',h1,h2,rfl⟩) trivial)⟩
    have hsz':=fz A hei w
    simp[execOp,ho,hev,hiu,Instr.indexAt,Instr.sureAddr,asIntOf,run_underlying (A.desc hd),h0,hlt,hsz',Addr.add_lit,Nat.add_assoc]
  ·cases h
 ·rename_i m e el kk hd
  simp only[aV] at h
  obtain⟨ei,hei,h⟩:=h
  split at h
  ·rename_i hc
   cases h
   obtain⟨h0,hlt,hsz⟩:=hc
   have hr:=bm.one rfl hxs
   generalize hev:a.eval x=ux at hr
   cases hr with
   | iptr _ _ _ b off g hb hρ hcc hrep=>
    refine⟨.pointer (some ⟨b,off+n.toNat*ei.size,none⟩),?_,bm.mk1 rfl (.iptr _ _ _ _ _ (fun j=>g (n.toNat*ei.size+j)) hb hρ (fun j y hy=>?_) fun j y hy=>?_)⟩
    ·have hsz':=fz A hei w
     simp[execOp,ho,hev,hiu,Instr.indexAt,Instr.sureAddr,asIntOf,run_underlying (A.desc hd),h0,hlt,hsz',Addr.add_lit]
    ·rw[Nat.add_assoc];exact hcc _ y (by rw[←Nat.add_assoc];exact hy)
    ·exact hrep _ y (by rw[←Nat.add_assoc];exact hy)
  ·cases h
 ·cases h
theorem ahk {t:TypeId}{x:Operand}{xv v:V}{ts:Array TypeId}(ho:o.op=.call { callee:=.builtin .len,args:=#[x],argTypes:=ts })(h1:ts[0]?=some t)(hx:ev st x=some xv)(hl:mF st.rt xv=true)(h:tE (E.desc t) xv=some v):fh P a.eval o w ρ st.rt v:=by
 have hxs:=cU T hx
 have go:∀n:Nat,(Builtin.len_ ts o.type #[a.eval x]).run P w=.ok (goInt n) w→fh P a.eval o w ρ st.rt (.int .i64 n):=by
  intro n hn
  refine⟨_,?_,mi _ _⟩
  simp[execOp,ho,resolve,invoke,builtin,hn,goInt]
 have hS:IH (E.desc t)=true→P.underlying t=some .string:=fun hd=>by
  cases hq:E.desc t with
  | none=>simp[hq,IH] at hd
  | some d=>cases d<;>simp[hq,IH] at hd;exact A.desc hq
 have hL:gc (E.desc t)=true→∃e,P.underlying t=some (.slice e):=fun hd=>by
  cases hq:E.desc t with
  | none=>simp[hq,gc] at hd
  | some d=>cases d<;>simp[hq,gc] at hd;exact⟨_,A.desc hq⟩
 unfold tE at h
 split at h
 ·split at h<;>cases h
  rename_i s hd
  have hxu:=pQ hxs
  exact go _ (by simp[Builtin.len_,h1,hxu,run_underlying (hS hd)])
 ·split at h<;>cases h
  rename_i nl es hd
  obtain⟨e,he⟩:=hL hd
  obtain⟨Ad,l,c,hu,_⟩:=kB (bm.one rfl hxs)
  have hl':l=es.length:=by
   have:=bm.one rfl hxs
   rw[hu] at this
   cases this<;>rfl
  exact go _ (by simp[Builtin.len_,h1,hu,hl',run_underlying he])
 ·split at h<;>cases h
  rename_i o' nv p s off len hd
  obtain⟨e,he⟩:=hL hd
  have hr:=bm.one rfl hxs
  generalize hev:a.eval x=ux at hr go
  cases hr with
  | hs _ _ _ _ _ _ _ _ hh=>
   obtain⟨c,Ad,hu,hlc,hcc⟩:=hh hl
   exact go _ (by simp[Builtin.len_,h1,hu,run_underlying he])
 ·cases h
theorem kA {lo:Option Operand}{lv:Option V}(hlo:oW st lo=some lv){d l:Int}(h:gh d lv=some l):(lo=none∧l=d)∨∃x k,lo=some x∧a.eval x=.int k l:=by
 cases lo with
 | none=>cases hlo;cases h;exact .inl ⟨rfl,rfl⟩
 | some x=>
  simp only[oW,ba] at hlo
  obtain⟨v,hv,rfl⟩:=hlo
  cases v<;>simp[gh] at h
  subst h
  exact .inr ⟨x,_,rfl,je (cU T hv)⟩
theorem lG {b:Bool}{len cap:Nat}{lo hi:Option Operand}{l h:Int}(hl:(lo=none∧l=0)∨∃x k,lo=some x∧a.eval x=.int k l)(hh:(hi=none∧h=len)∨∃x k,hi=some x∧a.eval x=.int k h)(h0:0≤l)(h1:l≤h)(h2:h≤len)(h3:len≤cap):(Instr.sliceBounds b len cap (lo.map a.eval) (hi.map a.eval) none).run P w=.ok (l.toNat,h.toNat,cap) w:=by
 have hh':(h.toNat:Int)=h:=Int.toNat_of_nonneg (by omega)
 have key:∀k y code,(0:Int)≤y→y≤cap→(Instr.sliceBound (.int k y) cap code).run P w=.ok y.toNat w:=fun k y code g1 g2=>run_sliceBound w k y cap code g1 g2
 rcases hl with⟨rfl,rfl⟩ | ⟨x,k,rfl,hx⟩<;>rcases hh with⟨rfl,rfl⟩ | ⟨y,k',rfl,hy⟩
 ·simp[Instr.sliceBounds]
 ·simp[Instr.sliceBounds,hy,key k' h _ (by omega) (by omega)]
 ·simp[Instr.sliceBounds,hx,run_sliceBound w k l len _ h0 h1]
 ·simp[Instr.sliceBounds,hx,hy,key k' h _ (by omega) (by omega),run_sliceBound w k l h.toNat _ h0 (by omega)]
theorem ac7 {t : TypeId}{x : Operand}{lo hi : Option Operand}{xv v : V}{lv hv : Option V}(ho : o.op = .slice t x lo hi none)(hx : ev st x = some xv)(hlo : oW st lo=some lv)(hhi : oW st hi=some hv)(hal : mF st.rt xv=true)(h : jG E st.rt t xv lv hv=some v) : fh P a.eval o w ρ st.rt v:=by
  have hxs:=cU T hx
  unfold jG at h
  split at h
  · rename_i s hd
    simp only [aV] at h
    obtain ⟨l,hl,h,hh,hc⟩:=h
    split at hc
    · cases hc
      rename_i hc
      obtain ⟨c0,c1,c2⟩:=hc
      have hxu:=pQ hxs
      have:=lG (P:=P) (w:=w) A H J T (b:=false) (cap:=s.size) (kA A H J T hlo hl) (kA A H J T hhi hh) c0 c1 c2 (Nat.le_refl _)
      refine ⟨_,?_,IJ _⟩
      simp [execOp,ho,hxu,Instr.sliceAt,Instr.slice,run_underlying (A.desc hd),this]
    · cases hc
  · rename_i e nl es hd
    simp only [aV] at h
    obtain ⟨l,hl,h,hh,ei,hei,hc⟩:=h
    split at hc
    · cases hc
      rename_i hc
      obtain ⟨c0,c1,c2,c3⟩:=hc
      have hsz:=fz A hei w
      have hr:=bm.one rfl hxs
      generalize hev : a.eval x=ux at hr
      cases hr with
      | isl0 _ _ Ad c hn =>
        have e1 : l=0:=by simp at c2; omega
        have e2 : h=0:=by simp at c2; omega
        subst e1 e2
        have:=lG (P:=P) (w:=w) A H J T (b:=true) (len:=0) (cap:=c) (kA A H J T hlo hl) (kA A H J T hhi hh) (Int.le_refl _) (Int.le_refl _) (Int.le_refl _) (Nat.zero_le _)
        refine ⟨.slice (if c=0 then Ad else Ad.map (·.add 0)) 0 c,?_,bm.mk1 rfl ?_⟩
        · simp [execOp,ho,hev,Instr.sliceAt,Instr.slice,run_underlying (A.desc hd),this,hsz]
        · simp only [List.drop_nil,List.take_nil]
          refine .isl0 _ _ _ _ (fun q=>?_)
          rw [(hn q).1,(hn q).2]; simp
      | isl _ _ b off c s g hlc hpos hρ hb hs hc hrep =>
        have:=lG (P:=P) (w:=w) A H J T (b:=true) (len:=es.length) (cap:=c) (kA A H J T hlo hl) (kA A H J T hhi hh) c0 c1 c2 hlc
        refine ⟨.slice (if c=l.toNat then some ⟨b,off,none⟩ else some ⟨b,off + l.toNat * ei.size,none⟩) (h.toNat - l.toNat) (c - l.toNat),?_,bm.mk1 rfl ?_⟩
        · simp [execOp,ho,hev,Instr.sliceAt,Instr.slice,run_underlying (A.desc hd),this,hsz,Addr.add_lit]
        · have hln : ((es.drop l.toNat).take (h.toNat - l.toNat)).length=h.toNat - l.toNat:=by simp; omega
          by_cases hz : h.toNat - l.toNat=0
          · have : (es.drop l.toNat).take (h.toNat - l.toNat)=[]:=by rw [hz]; simp
            rw [this,hz]
            exact .isl0 _ _ _ _ (by simp)
          · rw [if_neg (by omega)]
            have:=RepV.isl (w:=w) (ρ:=ρ) (rt:=st.rt) (ca 0) ((es.drop l.toNat).take (h.toNat - l.toNat)) b (off + l.toNat * ei.size) (c - l.toNat) s (fun i k=>g (l.toNat + i) k) (by rw [hln]; omega) (by rw [hln]; omega) hρ hb
              (fun i e he => hs (l.toNat + i) e (by rw [List.getElem?_take] at he; split at he; · rw [List.getElem?_drop] at he; exact he
                                                    · cases he))
              (fun i e k x he hx=>by
                rw [List.getElem?_take] at he
                split at he
                · rw [List.getElem?_drop] at he
                  have h1:=hc _ e k x he hx
                  have h2 : ei.size=s:=by
                    have h3:=List.all_eq_true.1 c3 e (iO he)
                    have h4:=hs _ e he
                    simp at h3; omega
                  rw [h2]
                  rw [← h1]
                  congr 2
                  rw [Nat.add_mul]; omega
                · cases he)
              (fun i e k x he hx=>by
                rw [List.getElem?_take] at he
                split at he
                · rw [List.getElem?_drop] at he
                  exact hrep _ e k x he hx
                · cases he)
            rw [hln] at this
            exact this
    · cases hc
  · rename_i e o' nv p s off len hd
    split at h
    · rename_i hsz
      obtain ⟨ei,hei,hes⟩:=ba.1 hsz
      simp only [aV] at h
      obtain ⟨l,hl,h,hh,hc⟩:=h
      split at hc
      · cases hc
        rename_i hc
        obtain ⟨c0,c1,c2⟩:=hc
        have hsz:=fz A hei w
        have hr:=bm.one rfl hxs
        generalize hev : a.eval x=ux at hr
        cases hr with
        | hs _ _ _ _ _ _ _ _ hhs =>
          obtain ⟨c,Ad,hu,hlc,hcc⟩:=hhs hal
          have:=lG (P:=P) (w:=w) A H J T (b:=true) (len:=len) (cap:=c) (kA A H J T hlo hl) (kA A H J T hhi hh) c0 c1 c2 hlc
          refine ⟨.slice (if c=l.toNat then Ad else Ad.map (·.add (l.toNat * ei.size))) (h.toNat - l.toNat) (c - l.toNat),?_,bm.mk1 rfl (.hs _ _ _ _ _ _ _ _ (fun _=>⟨_,_,rfl,by omega,fun hne=>?_⟩) trivial)⟩
          · simp [execOp,ho,hev,hu,Instr.sliceAt,Instr.slice,run_underlying (A.desc hd),this,hsz]
          · obtain ⟨b,n,h1,h2,h3,h4⟩:=hcc (by omega)
            refine ⟨b,n,h1,h2,?_,?_⟩
            · rw [if_neg (by omega),h3]
              simp [Addr.add_lit,hes,Nat.add_mul]
            · have : off + l.toNat + (c - l.toNat)=off + c:=by omega
              rw [this]; exact h4
      · cases hc
    · cases h
  · cases h
end
end
section
variable {w : World} {ρ : bX} {rt : aw}
def Cs (w:World)(ρ:bX)(rt:aw)(cs:List V)(arr:Array Value):Prop:=
 cs.length=arr.size∧∀(k:Nat) x y,cs[k]?=some x→arr[k]?=some y→RepV w ρ rt none x y
theorem vp {L}{v:V}{u:Value}(h:RepV w ρ rt L v u)(hv:fx v=true):WQ u:=by
 cases h<;>first | trivial | (simp[fx] at hv;done) | assumption
theorem WQ.cells {u:Value}(h:WQ u):u.cells=#[u]:=by cases u<;>first | rfl | exact h.elim
theorem vu {v:V}{u:Value}(h:bm w ρ rt ca v u)(hp:(cells v).all fx=true):Cs w ρ rt (cells v) u.cells:=by
 obtain⟨g,rfl,hg⟩:=h
 by_cases ha:aA v=true
 ·have:(fT v g).cells=dQ (cells v).length g:=by simp[fT,ha,Value.cells]
  rw[this]
  refine⟨by simp[dQ],fun k x y h1 h2=>?_⟩
  have hk:=(cX.1 h1).1
  rw[jx hk] at h2
  cases h2
  exact hg k x h1
 ·have hc:cells v=[v]:=by cases v<;>simp_all[cells,aA]
  have hr:=hg 0 v (by simp[hc])
  have hpk:fT v g=g 0:=by simp[fT,ha]
  rw[hpk,(vp hr (by rw[hc] at hp;simpa using hp)).cells,hc]
  refine⟨by simp,fun k x y h1 h2=>?_⟩
  cases k with
  | zero=>simp at h1 h2;subst h1 h2;exact hr
  | succ k=>simp at h1
theorem QV {cs:List V}{arr:Array Value}(h:Cs w ρ rt cs arr):bm w ρ rt ca (.agg cs) (.agg arr):=by
 refine⟨fun k=>arr.getD k undef,OG cs arr h.1,fun k x hx=>?_⟩
 have hk:k<arr.size:=by rw[←h.1];exact (cX.1 (show cs[k]?=some x from hx)).1
 have:=h.2 k x arr[k] hx (by simp[hk])
 simpa[Array.getD,hk,ca] using this
theorem KT (off:Nat):∀(vs:List Value) (j:Nat) (arr:Array Value),off+j+vs.length≤arr.size→
  let r:=(vs.zipIdx j).foldl (fun cs (x:Value×Nat)=>cs.setIfInBounds (off+x.2) x.1) arr
  r.size=arr.size∧∀k,r[k]?=if off+j≤k∧k<off+j+vs.length then vs[k - (off+j)]? else arr[k]?
 | [],j,arr,h=>by
  refine⟨rfl,fun k=>?_⟩
  simp only[List.zipIdx_nil,List.foldl_nil,List.length_nil,Nat.add_zero]
  rw[if_neg (by omega)]
 | v::vs,j,arr,h=>by
  have ih:=KT off vs (j+1) (arr.setIfInBounds (off+j) v) (by simp at h ⊢;omega)
  simp only[List.zipIdx_cons,List.foldl_cons]
  refine⟨by simpa using ih.1,fun k=>?_⟩
  rw[ih.2 k]
  simp only[List.length_cons] at h ⊢
  by_cases h1:off+(j+1)≤k∧k<off+(j+1)+vs.length
  ·rw[if_pos h1,if_pos (by omega)]
   rw[show k - (off+j)=(k - (off+(j+1)))+1 by omega]
   simp
  ·rw[if_neg h1]
   by_cases h2:k=off+j
   ·subst h2
    rw[if_pos (by omega)]
    simp[show off+j<arr.size by omega]
   ·rw[if_neg (by omega)]
    rw[Array.getElem?_setIfInBounds_ne (by omega)]
theorem wg {place:Nat→Option (Nat×Nat)}:∀{pv:List (Nat×V)} {pu:List (Nat×Value)} {cs cs':List V} {arr:Array Value},Cs w ρ rt cs arr→nm place cs pv=some cs'→pv.length=pu.length→
  (∀(k:Nat) p q,pv[k]?=some p→pu[k]?=some q→p.1=q.1∧bm w ρ rt ca p.2 q.2)→∃arr',Instr.fill place arr pu=some arr'∧Cs w ρ rt cs' arr'
 | [],[],cs,cs',arr,hc,h,_,_=>by simp[nm] at h;subst h;exact⟨arr,rfl,hc⟩
 | [],q::pu,cs,cs',arr,hc,h,hl,_=>by simp at hl
 | p::pv,[],cs,cs',arr,hc,h,hl,_=>by simp at hl
 | (i,v)::pv,(i',u)::pu,cs,cs',arr,hc,h,hl,hr=>by
  obtain⟨h1,h2⟩:=hr 0 _ _ rfl rfl
  simp only at h1 h2
  subst h1
  simp only[nm] at h
  split at h
  ·cases h
  ·rename_i off size hpl
   split at h
   ·rename_i hcond
    obtain⟨c1,c2,c3⟩:=hcond
    have hu:=vu h2 c3
    have hus:u.cells.size=size:=by rw[←hu.1];exact c1
    have hf:=KT off u.cells.toList 0 arr (by simp[hus,←hc.1];omega)
    have hfa:(u.cells.zipIdx.foldl (fun cs (x:Value×Nat)=>cs.setIfInBounds (off+x.2) x.1) arr)=(u.cells.toList.zipIdx 0).foldl (fun cs (x:Value×Nat)=>cs.setIfInBounds (off+x.2) x.1) arr:=by
     rw[←Array.foldl_toList];simp
    have hcs:Cs w ρ rt (cs.take off++cells v++cs.drop (off+size)) ((u.cells.toList.zipIdx 0).foldl (fun cs (x:Value×Nat)=>cs.setIfInBounds (off+x.2) x.1) arr):=by
     have hlen:=hc.1
     refine⟨by rw[hf.1];simp[←hlen,c1];omega,fun k x y hx hy=>?_⟩
     rw[hf.2 k] at hy
     simp only[Nat.add_zero,Array.length_toList,hus] at hy
     by_cases hk:off≤k∧k<off+size
     ·rw[if_pos hk] at hy
      rw[List.append_assoc,ph (by simp;omega),mt (by simp[c1];omega)] at hx
      refine hu.2 (k - off) x y ?_ (by simpa using hy)
      rw[←hx];congr 1;simp;omega
     ·rw[if_neg hk] at hy
      refine hc.2 k x y ?_ hy
      by_cases hk2:k<off
      ·rw[List.append_assoc,mt (by simp;omega),List.getElem?_take,if_pos hk2] at hx
       exact hx
      ·rw[ph (by simp[c1];omega),List.getElem?_drop] at hx
       rw[←hx];congr 1;simp[c1];omega
    obtain⟨arr',h3,h4⟩:=wg hcs h (by simpa using hl) (fun k p q hp hq=>hr (k+1) p q (by simpa using hp) (by simpa using hq))
    refine⟨arr',?_,h4⟩
    have hnot:¬(u.cells.size≠size∨off+u.cells.size>arr.size):=by rw[hus,←hc.1];omega
    simp only[Instr.fill,hpl]
    rw[if_neg (by simpa using hnot),hfa]
    exact h3
   ·cases h
theorem DY {α β:Type}{P:Program}{f:α→Sem β}(w:World):∀{l:List α} {r:List β},l.length=r.length→(∀(i:Nat) a b,l[i]?=some a→r[i]?=some b→(f a).run P w=.ok b w)→(l.mapM f).run P w=.ok r w
 | [],[],_,_=>by simp
 | [],_::_,h,_=>by simp at h
 | _::_,[],h,_=>by simp at h
 | a::l,b::r,hl,h=>by
  rw[List.mapM_cons]
  have h0:=h 0 a b rfl rfl
  have ih:=DY (P:=P) (f:=f) w (l:=l) (r:=r) (by simpa using hl) (fun i a b ha hb=>h (i+1) a b (by simpa using ha) (by simpa using hb))
  simp[h0,ih]
theorem IX {P:Program}{E:Env}(A:Agree P E):∀{fs:List Field} {ps:List (Nat×Nat)},yW E fs=some ps→fs.length=ps.length∧∀(i:Nat) f q,fs[i]?=some f→ps[i]?=some q→(do pure (f.offset,←sizeOf f.type):Sem (Nat×Nat)).run P w=.ok q w
 | [],ps,h=>by simp[yW] at h;subst h;simp
 | f::fs,ps,h=>by
  simp only[yW,aV,ba] at h
  obtain⟨ti,hti,r,hr,rfl⟩:=h
  have ih:=IX A hr
  refine⟨by simp[ih.1],fun i f' q h1 h2=>?_⟩
  cases i with
  | zero=>simp at h1 h2;subst h1 h2;simp[fz A hti]
  | succ i=>exact ih.2 i f' q (by simpa using h1) (by simpa using h2)
theorem tC {a:Act}{st:St}(T:kc w ρ st.rt st.tm a.tmps):∀{ps:List (Nat×Operand)} {pv:List (Nat×V)},fQ st ps=some pv→pv.length=ps.length∧∀(k:Nat) p q,pv[k]?=some p→(ps.map fun x=>(x.1,a.eval x.2))[k]?=some q→p.1=q.1∧bm w ρ st.rt ca p.2 q.2
 | [],pv,h=>by simp[fQ] at h;subst h;simp
 | (i,x)::ps,pv,h=>by
  simp only[fQ,aV,ba] at h
  obtain⟨v,hv,r,hr,rfl⟩:=h
  have ih:=tC T hr
  refine⟨by simp[ih.1],fun k p q h1 h2=>?_⟩
  cases k with
  | zero=>simp at h1 h2;subst h1 h2;exact⟨rfl,cU T hv⟩
  | succ k=>exact ih.2 k p q (by simpa using h1) (by simpa using h2)
theorem yQ {c:Value}{v:V}(h:ko c=some v):fx v=true:=by
 unfold ko at h
 split at h<;>cases h<;>rfl
theorem wO:∀{cs:List Value} {vs:List V},ib cs=some vs→vs.all fx=true
 | [],vs,h=>by simp[ib] at h;subst h;rfl
 | c::cs,vs,h=>by
  simp only[ib,aV,ba] at h
  obtain⟨x,hx,r,hr,rfl⟩:=h
  simp[yQ hx]
  simpa using wO hr
theorem iM {c:Value}{v:V}(h:gv c=some v):(cells v).all fx=true:=by
 unfold gv at h
 split at h
 ·simp only[ba] at h
  obtain⟨vs,hvs,rfl⟩:=h
  exact wO hvs
 ·have:=yQ h
  have h2:=(tJ (w:=default) (ρ:=fun _=>none) (rt:=fun _=>none) h none).2
  cases v<;>simp_all[cells,aA]
theorem ac5 {P:Program}{E:Env}(A:Agree P E){st:St}{a:Act}{o:Oper}(T:kc w ρ st.rt st.tm a.tmps){t:TypeId}{ps:Array (Nat×Operand)}{pv:List (Nat×V)}{v:V}(ho:o.op=.build t ps)(hp:fQ st ps.toList=some pv)(h:Ir E t pv=some v):fh P a.eval o w ρ st.rt v:=by
 unfold Ir at h
 split at h
 ·rename_i ti hti
  simp only[aV] at h
  obtain⟨z,hz,h⟩:=h
  have hzr:=mQ A hti w
  have hzs:=vu (jH (w:=w) (ρ:=ρ) (rt:=st.rt) hz ca) (iM hz)
  have hu:=A.und t ti hti
  obtain⟨hlen,hpr⟩:=tC T hp
  have hparts:(ps.map fun (x:Nat×Operand)=>(x.1,a.eval x.2)).toList=ps.toList.map fun x=>(x.1,a.eval x.2):=by simp
  split at h
  ·rename_i fs hd
   simp only[aV,ba] at h
   obtain⟨pl,hpl,cs,hcs,rfl⟩:=h
   obtain⟨arr,h1,h2⟩:=wg hzs hcs (pu:=ps.toList.map fun x=>(x.1,a.eval x.2)) (by simp[hlen]) hpr
   obtain⟨q1,q2⟩:=IX (w:=w) A hpl
   have hm:=DY (P:=P) (f:=fun (f:Field)=>(do pure (f.offset,←sizeOf f.type):Sem (Nat×Nat))) w q1 q2
   refine⟨.agg arr,?_,QV h2⟩
   have hm':(fs.mapM fun (f:Field)=>(do pure (f.offset,←sizeOf f.type):Sem (Nat×Nat))).run P w=.ok pl.toArray w:=by
    rw[Array.mapM_eq_mapM_toList]
    simp only[bind_pure_comp] at hm
    simp[hm]
   have hfun:(fun i:Nat=>pl.toArray[i]?)=fun i:Nat=>pl[i]?:=by funext i;simp
   simp only[execOp,ho,Instr.build,Sem.run_bind,hzr,Result.andThen,run_underlying hu,hd,hm',hparts,hfun,h1,Sem.run_pure]
  ·rename_i n e hd
   simp only[aV,ba] at h
   obtain⟨ei,hei,cs,hcs,rfl⟩:=h
   obtain⟨arr,h1,h2⟩:=wg hzs hcs (pu:=ps.toList.map fun x=>(x.1,a.eval x.2)) (by simp[hlen]) hpr
   refine⟨.agg arr,?_,QV h2⟩
   simp only[execOp,ho,Instr.build,Sem.run_bind,hzr,Result.andThen,run_underlying hu,hd,fz A hei,hparts,h1,Sem.run_pure]
  ·cases h
 ·cases h
theorem yG {P:Program}(f:Int→Int→Int)(f2:Value→Value→Sem Value)(k:IntKind)(hf:∀m n,(f2 (.int k m) (.int k n)).run P w=.ok (.int k (f m n)) w) :
  ∀{vs:List V} {us:List Value} {m n:Int},vs.length=us.length→(∀(i:Nat) x u,vs[i]?=some x→us[i]?=some u→bm w ρ rt ca x u)→
   Iy f k m vs=some n→(us.foldlM f2 (.int k m)).run P w=.ok (.int k n) w
 | [],[],m,n,_,_,h=>by simp[Iy] at h;subst h;simp
 | [],_::_,m,n,hl,_,h=>by simp at hl
 | _::_,[],m,n,hl,_,h=>by simp at hl
 | x::vs,u::us,m,n,hl,hr,h=>by
  have hx:=hr 0 x u rfl rfl
  unfold Iy at h
  split at h
  ·rename_i heq;cases heq
  ·rename_i heq
   cases heq
   split at h
   ·rename_i hk
    subst hk
    have hu:=je hx
    subst hu
    have h2:=yG f f2 k hf (vs:=vs) (us:=us) (by simpa using hl) (fun i x u hx hu=>hr (i+1) x u (by simpa using hx) (by simpa using hu)) h
    simp[List.foldlM_cons,hf,h2]
   ·cases h
  ·cases h
theorem Ok {P:Program}{st:St}{a:Act}{o:Oper}(T:kc w ρ st.rt st.tm a.tmps){b:Builtin}{f:Int→Int→Int}{xs:Array Operand}{ts:Array TypeId}{vs:List V}{v:V}(ho:o.op=.call { callee:=.builtin b,args:=xs,argTypes:=ts })(hb:(b=.min∧f=fun a b=>if b<a then b else a)∨(b=.max∧f=fun a b=>if b>a then b else a))(hx:io st xs.toList=some vs)(h:zE f vs=some v):fh P a.eval o w ρ st.rt v:=by
 obtain⟨hl,hr⟩:=vd T hx
 unfold zE at h
 split at h
 ·rename_i k n vs
  have hxs:xs.toList≠[]:=by intro h0;simp[h0] at hl
  obtain⟨x0,xs',hxs'⟩:=List.exists_cons_of_ne_nil hxs
  rw[hxs'] at hr hl
  have h0:=je (hr 0 _ _ rfl rfl)
  have hto:(xs.map a.eval).toList=.int k n::xs'.map a.eval:=by simp[hxs',h0]
  have hrr:∀(i:Nat) x u,vs[i]?=some x→(xs'.map a.eval)[i]?=some u→bm w ρ st.rt ca x u:=by
   intro i x u h1 h2
   simp only[List.getElem?_map,ba] at h2
   obtain⟨y,hy,rfl⟩:=h2
   exact hr (i+1) x y (by simpa using h1) (by simpa using hy)
  simp only[ba] at h
  obtain⟨m,hm,rfl⟩:=h
  rcases hb with⟨rfl,rfl⟩ | ⟨rfl,rfl⟩
  ·have h2:=yG (P:=P) (w:=w) (ρ:=ρ) (rt:=st.rt) _ Builtin.min2 k (fun m n=>by simp[Builtin.min2]) (us:=xs'.map a.eval) (by simp at hl ⊢;omega) hrr hm
   exact⟨.int k m,by simp only[execOp,ho,resolve,invoke,builtin,Builtin.min_,Sem.run_bind,Sem.run_pure,Result.andThen,hto,h2],mi _ _⟩
  ·have h2:=yG (P:=P) (w:=w) (ρ:=ρ) (rt:=st.rt) _ Builtin.max2 k (fun m n=>by simp[Builtin.max2]) (us:=xs'.map a.eval) (by simp at hl ⊢;omega) hrr hm
   exact⟨.int k m,by simp only[execOp,ho,resolve,invoke,builtin,Builtin.max_,Sem.run_bind,Sem.run_pure,Result.andThen,hto,h2],mi _ _⟩
 ·cases h
end
section
variable {w : World} {ρ : bX} {rt : aw}
theorem aaY {P:Program}{t:TypeId}{ds:TypeDesc}{v u:V}{b:Bool}{x y:Value}{L L':Option dJ}(hu:P.underlying t=some ds)(hf:Kj ds v=true)(he:za v u=some b)(hx:RepV w ρ rt L v x)(hy:RepV w ρ rt L' u y)(d:Nat):P.plainKey t=true∧P.eqGuardType 1 t=false∧(Op.equalIn (d+1) t x y).run P w=.ok b w:=by
 unfold Kj at hf
 split at hf<;>first | (cases hf;done) | skip
 ·cases u<;>simp only[za,Option.some.injEq] at he<;>first | (cases he;done) | skip
  subst he
  cases hx;cases hy
  exact⟨by simp[Program.plainKey,hu],by simp[Program.eqGuardType,hu],by simp[Op.equalIn,run_underlying hu]⟩
 ·cases u<;>simp only[za,Option.some.injEq] at he<;>first | (cases he;done) | skip
  split at he
  ·rename_i hk
   cases he
   subst hk
   cases hx;cases hy
   exact⟨by simp[Program.plainKey,hu],by simp[Program.eqGuardType,hu],by simp[Op.equalIn,run_underlying hu]⟩
  ·cases he
 ·cases u<;>simp only[za,Option.some.injEq] at he<;>first | (cases he;done) | skip
  subst he
  cases hx;cases hy
  exact⟨by simp[Program.plainKey,hu],by simp[Program.eqGuardType,hu],by simp[Op.equalIn,run_underlying hu,beq_toListBytes,ByteArray.toList_eq]⟩
theorem Oc {P:Program}{E:Env}(A:Agree P E)(d:Nat):∀{fs:List Field} {n0 N N':Nat} {xs ys:List V} {g g':Nat→Value} {b:Bool},kY E.ty n0 fs xs ys=some b→(∀k x,xs[k]?=some x→RepV w ρ rt none x (g (n0+k)))→(∀k x,ys[k]?=some x→RepV w ρ rt none x (g' (n0+k)))→n0+xs.length≤N→n0+ys.length≤N'→
  (Op.eqFields (d + 1) (dQ N g) (dQ N' g') fs).run P w = .ok b w ∧ (fs.any fun f => f.name != "_" && P.eqGuardType 1 f.type) = false ∧ xs.length = fs.length ∧ ys.length = fs.length
 | [],n0,N,N',[],[],g,g',b,h,_,_,_,_=>by
  simp only[kY,Option.some.injEq] at h
  subst h
  simp[Op.eqFields]
 | f::fs,n0,N,N',v::vs,u::us,g,g',b,h,hx,hy,hN,hN'=>by
  simp only[kY] at h
  split at h
  ·rename_i ti hti
   split at h
   ·rename_i hc
    simp only[Bool.and_eq_true,beq_iff_eq,bne_iff_ne] at hc
    obtain⟨⟨ho,hname⟩,hfit⟩:=hc
    simp only[aV,ba] at h
    obtain⟨b1,h1,b2,h2,rfl⟩:=h
    simp only[List.length_cons] at hN hN'
    have hx0:=hx 0 v rfl
    have hy0:=hy 0 u rfl
    obtain⟨hk,hgd,hr⟩:=aaY (d:=d) (A.und _ _ hti) hfit h1 hx0 hy0
    obtain⟨r1,r2,r3,r4⟩:=Oc A d (g:=g) (g':=g') (N:=N) (N':=N') h2 (fun k x e=>by have:=hx (k+1) x (by simpa using e);rwa[show n0+(k+1)=n0+1+k by omega] at this)
     (fun k x e=>by have:=hy (k+1) x (by simpa using e);rwa[show n0+(k+1)=n0+1+k by omega] at this) (by omega) (by omega)
    refine⟨?_,?_,by simp[r3],by simp[r4]⟩
    ·have p1:(part f.type (dQ N g) f.offset).run P w=.ok (g (n0+0)) w:=run_part_plain w hk (by rw[ho];simp[dQ,show n0<N by omega])
     have p2:(part f.type (dQ N' g') f.offset).run P w=.ok (g' (n0+0)) w:=run_part_plain w hk (by rw[ho];simp[dQ,show n0<N' by omega])
     simp only[Op.eqFields,if_pos hname,Sem.run_bind,p1,p2,Result.andThen_ok,hr]
     cases b1
     ·simp
     ·simpa using r1
    ·simp only[List.any_cons,hgd,Bool.and_false,Bool.false_or]
     exact r2
   ·cases h
  ·cases h
 | [],_,_,_,_::_,_,_,_,_,h,_,_,_,_=>by simp[kY] at h
 | [],_,_,_,[],_::_,_,_,_,h,_,_,_,_=>by simp[kY] at h
 | _::_,_,_,_,[],_,_,_,_,h,_,_,_,_=>by simp[kY] at h
 | _::_,_,_,_,_::_,[],_,_,_,h,_,_,_,_=>by simp[kY] at h
theorem Sz {P:Program}{t:TypeId}{d:Nat}(h:P.eqGuardType 1 t=false):P.eqGuardType (d+1) t=false:=by
 simp only[Program.eqGuardType] at h ⊢
 split at h<;>simp_all
theorem WV {P:Program}{E:Env}(A:Agree P E){t:TypeId}{ti:TI}{fs:Array Field}(ht:E.ty t=some ti)(hd:ti.desc=.struct fs)(hq:E.eqs.contains t=true){xs ys:List V}{b:Bool}(h:kY E.ty 0 fs.toList xs ys=some b){g g':Nat→Value}(hx:∀k x,xs[k]?=some x→RepV w ρ rt none x (g k))(hy:∀k x,ys[k]?=some x→RepV w ρ rt none x (g' k)) :
  (Op.equal t (.agg (dQ xs.length g)) (.agg (dQ ys.length g'))).run P w=.ok b w∧P.eqGuardType P.depth t=false:=by
 have hu:P.underlying t=some (.struct fs):=by rw[A.und _ _ ht,hd]
 have hff:P.fieldsOf t=fs:=by simp[Program.fieldsOf,hu]
 obtain⟨h1,h2,_,_⟩:=Oc (w:=w) (ρ:=ρ) (rt:=rt) A 9998 (n0:=0) (N:=xs.length) (N':=ys.length) (g:=g) (g':=g') h (fun k x e=>by simpa using hx k x e) (fun k x e=>by simpa using hy k x e) (by omega) (by omega)
 refine⟨?_,?_⟩
 ·have:=run_equalIn_struct w 9999 t (dQ xs.length g) (dQ ys.length g') (by rw[hff];exact hu) (A.eqs t hq)
  rw[hff] at this
  exact this.trans h1
 ·show P.eqGuardType (2*(P.types.size+Made.depth)+2) t=false
  simp only[Program.eqGuardType,hu]
  rw[←Array.any_toList]
  rw[List.any_eq_false] at h2 ⊢
  intro f hf
  have:=h2 f hf
  simp only[Bool.and_eq_true,not_and,Bool.not_eq_true] at this ⊢
  intro hn
  exact Sz (this hn)
end
section
variable {w : World} {ρ : bX} {rt : aw} {N : Nat→Nat→Prop}
theorem Iu:∀{es:List V} {bs:List UInt8},va es=some bs→∃ns:List Int,es=ns.map (V.int .u8)∧bs=ns.map fun n=>UInt8.ofNat n.toNat
 | [],bs,h=>by simp[va] at h;subst h;exact⟨[],rfl,rfl⟩
 | v::es,bs,h=>by
  unfold va at h
  split at h
  ·rename_i h0;cases h0
  ·rename_i n vs h0
   cases h0
   simp only[ba] at h
   obtain⟨r,hr,rfl⟩:=h
   obtain⟨ns,rfl,rfl⟩:=Iu hr
   exact⟨n::ns,rfl,rfl⟩
  ·cases h
theorem IZ:∀(ns:List Int) (b:ByteArray),ns.foldl (fun r n=>r.push (UInt8.ofNat n.toNat)) b=⟨b.data++(ns.map fun n=>UInt8.ofNat n.toNat).toArray⟩
 | [],b=>by simp
 | n::ns,b=>by
  rw[List.foldl_cons,IZ ns]
  simp[ByteArray.push]
section
variable {P : Program} {E : Env} (A : Agree P E) {st : St} {a : Act} {o : Oper} (H : eS w ρ st.rt) (J : fp ρ) (T : kc w ρ st.rt st.tm a.tmps)
include A H J T
theorem Qf {src dst:TypeId}{x:Operand}{e:TypeId}{xv:V}{es:List V}{bs:List UInt8}(ho:o.op=.convert src dst x)(hx:ev st x=some xv)(hs:E.desc src=some (.slice e))(hd:E.desc dst=some .string)(h8:aaL (E.desc e)=true)(hr:D7 st.rt xv=some es)(hb:va es=some bs):fh P a.eval o w ρ st.rt (.str ⟨bs.toArray⟩):=by
 obtain⟨ns,rfl,rfl⟩:=Iu hb
 have hde:E.desc e=some (.int .u8):=by
  unfold aaL at h8
  split at h8
  ·rename_i h;exact h
  ·cases h8
 have hxa:aA xv=false:=by cases xv<;>first | rfl | simp[D7] at hr
 have hxr:=bm.one hxa (cU T hx)
 have key:∀(A0:Option Addr) (c:Nat),a.eval x=.slice A0 ns.length c→(A0=none→ns=[])→(∀ad,A0=some ad→∀(j:Nat) n,ns[j]?=some n→w.cell? (ad.add j)=some (.int .u8 n))→fh P a.eval o w ρ st.rt (.str ⟨(ns.map fun n=>UInt8.ofNat n.toNat).toArray⟩):=by
  intro A0 c h1 h2 h3
  refine⟨_,?_,IJ _⟩
  simp only[execOp,ho,h1,convert,Sem.run_bind,run_underlying (A.desc hs),run_underlying (A.desc hd),Result.andThen,run_underlying (A.desc hde)]
  cases A0 with
  | none=>
   have:=h2 rfl
   subst this
   simp[Conv.bytesToString]
   rfl
  | some ad=>
   have hl:=run_loadCells_list (P:=P) w ad (ns.map (Value.int .u8)) (fun j v hv=>by
    simp only[List.getElem?_map,ba] at hv
    obtain⟨n,hn,rfl⟩:=hv
    exact h3 ad rfl j n hn)
   rw[List.length_map] at hl
   have:=run_bytesToString (P:=P) w ad ns.length c ns hl
   rw[this,IZ]
   simp
 cases xv<;>simp only[D7] at hr<;>first | (cases hr;done) | skip
 case isl nl es0=>
  cases hr
  generalize hev:a.eval x=u at hxr
  generalize hes:ns.map (V.int .u8)=es at hxr
  cases hxr with
  | isl0 _ _ A0 c hn=>
   have:ns=[]:=by simpa using hes
   subst this
   exact key A0 c hev (fun _=>rfl) (fun ad _ j n h=>by simp at h)
  | isl _ _ b off c s g hl h0 hρ hb' hs' hc h=>
   subst hes
   refine key _ c (by rw[hev,List.length_map]) (fun h=>by cases h) fun ad had j n hn=>?_
   cases had
   have hj:(ns.map (V.int .u8))[j]?=some (.int .u8 n):=by simp[hn]
   have hs1:s=1:=by have:=hs' j _ hj;simpa[cells] using this.symm
   subst hs1
   have h1:=hc j _ 0 _ hj rfl
   have h2:=h j _ 0 _ hj rfl
   generalize g j 0=z at h1 h2
   cases h2
   rw[Addr.add_lit]
   simpa using h1
 case hs o1 nv p s off len=>
  simp only[aV] at hr
  obtain⟨⟨s1,row⟩,hlk,hr⟩:=hr
  simp only at hr
  split at hr
  ·rename_i hc
   obtain⟨rfl,hfit⟩:=hc
   have hlive:cV st.rt o1 nv p:=by simp[cV,hlk]
   have hlen:ns.length=len:=by
    have:=congrArg List.length (Option.some.inj hr)
    simp at this
    omega
   have hrow:=pP H hlk
   generalize hev:a.eval x=u at hxr
   cases hxr with
   | hs _ _ _ _ _ _ _ _ hh _=>
    obtain⟨c,A0,rfl,hlc,hcc⟩:=hh hlive
    by_cases hl0:len=0
    ·have:ns=[]:=List.length_eq_zero_iff.1 (by omega)
     subst this
     subst hl0
     exact key A0 c hev (fun _=>rfl) (fun ad _ j n h=>by simp at h)
    ·obtain⟨b,n,hb1,hbl,rfl,hle⟩:=hcc (by omega)
     refine key _ c (by rw[hev,hlen]) (fun h=>by cases h) fun ad had j n hn=>?_
     cases had
     have hj:row[off+j]?=some (.int .u8 n):=by
      have h1:(ns.map (V.int .u8))[j]?=some (.int .u8 n):=by simp[hn]
      rw[←Option.some.inj hr,List.getElem?_take] at h1
      split at h1
      ·rwa[List.getElem?_drop] at h1
      ·cases h1
     rcases hrow with h0 | ⟨b',arr,T',g,i1,i2,i3,i4,i5⟩
     ·rw[h0] at hj;simp at hj
     ·have:=J b b' _ hb1 i1
      subst this
      have hs1:s=1:=by have:=i3 _ _ hj;simpa[cells] using this.symm
      subst hs1
      have h1:=i4 _ _ 0 _ hj rfl
      have h2:=i5 _ _ 0 _ hj rfl
      generalize g (off+j) 0=z at h1 h2
      cases h2
      simp only[Nat.mul_one,Nat.add_zero] at h1
      rw[Addr.add_lit]
      simp[World.cell?,i2,h1]
  ·cases hr
end
end
section
variable {w : World} {ρ : bX} {rt : aw} {N : Nat→Nat→Prop}
theorem IT {c:Value}{v:V}(h:ko c=some v):nh v:=by
 unfold ko at h
 split at h<;>cases h<;>simp[nh,nhs]
theorem Bu:∀{cs:List Value} {vs:List V},ib cs=some vs→nhs vs
 | [],vs,h=>by simp[ib] at h;subst h;simp[nhs]
 | c::cs,vs,h=>by
  simp only[ib,aV,ba] at h
  obtain⟨x,hx,r,hr,rfl⟩:=h
  exact⟨IT hx,Bu hr⟩
theorem pW {c:Value}{v:V}(h:gv c=some v):nh v:=by
 unfold gv at h
 split at h
 ·simp only[ba] at h
  obtain⟨vs,hvs,rfl⟩:=h
  simpa[nh] using Bu hvs
 ·exact IT h
def Bf (N:Nat→Nat→Prop)(tm:List V):Prop:=∀(i:Nat) v,tm[i]?=some v→aB N v
def ij (rt:aw):Prop:=∀o r,rt o=some r→nhs r.es
theorem gN {st:St}(h:Bf N st.tm){x:Operand}{v:V}(e:ev st x=some v):aB N v:=by
 cases x with
 | tmp t=>exact h t v e
 | const c=>exact dB (pW (c:=c) e)
 | global g=>simp[ev] at e
 | func f=>simp[ev] at e;subst e;simp[aB,dG]
theorem Oa {st:St}(h:Bf N st.tm):∀{xs:List Operand} {vs:List V},io st xs=some vs→dG N vs
 | [],vs,e=>by simp[io] at e;subst e;simp[dG]
 | x::xs,vs,e=>by
  simp only[io,aV,ba] at e
  obtain⟨v,hv,ys,hys,rfl⟩:=e
  exact⟨gN h hv,Oa h hys⟩
theorem jQ:∀{p:List (Nat×Nat)} {s s':Nat} {es es':List V},nhs es→bG p s es=some (s',es')→nhs es'
 | [],s,s',es,es',h,e=>by simp[bG] at e;exact e.2▸h
 | (i,k)::p,s,s',es,es',h,e=>by
  simp only[bG] at e
  split at e
  ·cases e
  ·rename_i v hv
   have hvn:=dj h hv
   split at e
   ·rename_i s1 x hx
    have:=cr hvn hx
    exact jQ (by simpa[nh] using this) e
   ·rename_i x hx
    have:=cr hvn hx
    exact jQ (by simpa[nh,nhs] using this) e
   ·cases e
theorem Kd (h:ij rt){o nv path s}{es:List V}(e:cJ rt o nv path=some (s,es)):nhs es:=by
 unfold cJ at e
 simp only[aV] at e
 obtain⟨r,hr,hrow⟩:=e
 exact jQ (h o r (eF hr).1) hrow
theorem adB {o nv:Nat}{path}{i k:Nat}{x:V}(ho:¬N o nv)(h:nh x):aB N (O9 o nv path i k x):=by
 cases x<;>simp only[O9]<;>first | (simp only[aB];exact ho) | exact dB h
theorem Q2 (hr:ij rt)(hN:∀o r,rt o=some r→¬N o r.nv){p:V}{cs:List V}(hp:aB N p)(h:kK rt p=some cs):dG N cs:=by
 unfold kK at h
 split at h
 ·rename_i e k
  cases h
  have:nh e:=by simpa[aB] using hp
  exact ep.2 fun v hv=>dB (dN.1 (wu this) v (List.mem_of_mem_drop hv))
 ·rename_i o nv path s i k
  simp only[aV] at h
  obtain⟨r,hr',x,hx,h⟩:=h
  split at h
  ·simp only[ba] at h
   obtain⟨e,he,rfl⟩:=h
   have hes:=jQ (hr o r (eF hr').1) hx
   have hen:=dj hes he
   refine ep.2 fun v hv=>?_
   obtain⟨j,hj⟩:=List.mem_iff_getElem?.1 hv
   obtain⟨y,hy,rfl⟩:=tS hj
   rw[List.getElem?_drop] at hy
   exact adB (hN o r (eF hr').1) (cr hen hy)
  ·cases h
 ·cases h
theorem DZ {a:Bool}{cs:List V}{v:V}(h:kM a cs=some v)(hn:dG N cs):aB N v:=by
 unfold kM at h
 split at h
 ·cases h;simpa[aB] using hn
 ·split at h
  ·split at h<;>cases h
   exact hn.1
  ·cases h
theorem zS {vs:List V}{n:Nat}(h:dG N vs):dG N (vs.take n):=ep.2 fun v hv=>ep.1 h v (List.mem_of_mem_take hv)
theorem QX {vs:List V}{n:Nat}(h:dG N vs):dG N (vs.drop n):=ep.2 fun v hv=>ep.1 h v (List.mem_of_mem_drop hv)
theorem sA {v:V}(h:cZ v=true)(hn:aB N v):nh v:=by
 unfold cZ at h
 split at h<;>first | (simp[nh,nhs];done) | (simpa[nh,aB] using hn) | cases h
theorem XK {v:V}(h:(cells v).all cZ=true)(hn:aB N v):nh v:=by
 by_cases ha:aA v=true
 ·cases v<;>simp[aA] at ha
  rename_i cs
  simp only[nh]
  refine dN.2 fun x hx=>sA (List.all_eq_true.1 h x hx) (ep.1 (by simpa[aB] using hn) x hx)
 ·have hc:cells v=[v]:=by cases v<;>simp_all[cells,aA]
  rw[hc] at h
  exact sA (by simpa using h) hn
theorem J9 {place:Nat→Option (Nat×Nat)}:∀{pv:List (Nat×V)} {cs cs':List V},dG N cs→(∀p∈pv,aB N p.2)→nm place cs pv=some cs'→dG N cs'
 | [],cs,cs',h,_,e=>by simp[nm] at e;exact e▸h
 | (i,v)::pv,cs,cs',h,hp,e=>by
  simp only[nm] at e
  split at e
  ·cases e
  ·rename_i off size hpl
   split at e
   ·refine J9 ?_ (fun p hp'=>hp p (by simp[hp'])) e
    refine ep.2 fun x hx=>?_
    simp only[List.mem_append] at hx
    rcases hx with (hx | hx) | hx
    ·exact ep.1 (zS h) x hx
    ·exact ep.1 (tI (hp (i,v) (by simp))) x hx
    ·exact ep.1 (QX h) x hx
   ·cases e
theorem qZ {st:St}(h:Bf N st.tm):∀{ps:List (Nat×Operand)} {pv:List (Nat×V)},fQ st ps=some pv→∀p∈pv,aB N p.2
 | [],pv,e=>by simp[fQ] at e;subst e;simp
 | (i,x)::ps,pv,e=>by
  simp only[fQ,aV,ba] at e
  obtain⟨v,hv,r,hr,rfl⟩:=e
  intro p hp
  simp only[List.mem_cons] at hp
  rcases hp with rfl | hp
  ·exact gN h hv
  ·exact qZ h hr p hp
def vm:Op→Bool
 | .move _ | .assign _ | .pick .. | .build .. | .load .. | .nilCheck _ | .unOp .. | .convert .. | .makeInterface .. | .makeFunc .. | .slice .. | .fieldAddr .. | .field .. | .indexAddr .. | .index .. | .extract ..=>true
 | .binOp ..=>true
 | .call { callee:=.builtin b,.. }=>match b with
  | .len=>true
  | .min=>true
  | .max=>true
  | _=>false
 | _=>false
section
variable {P : Program} {E : Env} (A : Agree P E) {st : St} {a : Act} {o : Oper} (H : eS w ρ st.rt) (J : fp ρ) (T : kc w ρ st.rt st.tm a.tmps) (hm : Bf N st.tm) (hr : ij st.rt)
include A H J T hm hr
omit hm hr in
theorem Sk {op:BinOp}{t t':TypeId}{x y:Operand}{xs:List V}{n v:V}{lit:Bool}(ho:o.op=.binOp op t x y t')(hx:ev st x=some (.agg xs))(hy:ev st y=some n)(h:yu E op t (.agg xs) n lit=some v):fh P a.eval o w ρ st.rt v∧nh v:=by
 have agg:∀{ys:List V} {b:Bool} {ti:TI} {fs:Array Field},n=.agg ys→E.ty t=some ti→ti.desc=.struct fs→E.eqs.contains t=true→kY E.ty 0 fs.toList xs ys=some b→((op=.eql∧v=.bool b)∨(op=.neq∧v=.bool !b))→fh P a.eval o w ρ st.rt v∧nh v:=by
  intro ys b ti fs hn ht hd hq hf hv
  subst hn
  obtain⟨g,hxu,hxg⟩:=wD (cU T hx)
  obtain⟨g',hyu,hyg⟩:=wD (cU T hy)
  obtain⟨h1,h2⟩:=WV A ht hd hq hf hxg hyg
  have hgd:(eqGuard op t x y (.agg (dQ xs.length g)) (.agg (dQ ys.length g'))).run P w=.ok () w:=run_eqGuard_agg w op t x y _ _ h2
  rcases hv with⟨rfl,rfl⟩ | ⟨rfl,rfl⟩
  ·exact⟨⟨.bool b,by simp[execOp,ho,hxu,hyu,hgd,binOp,h1],jm _⟩,by simp[nh]⟩
  ·exact⟨⟨.bool !b,by simp[execOp,ho,hxu,hyu,hgd,binOp,h1],jm _⟩,by simp[nh]⟩
 cases n<;>simp only[yu] at h
 case agg ys=>
  split at h
  ·rename_i fs hti
   split at h
   ·rename_i hc
    simp only[ba] at h
    obtain⟨b,hb,rfl⟩:=h
    exact agg rfl hti rfl hc hb (.inl ⟨rfl,rfl⟩)
   ·cases h
  ·rename_i fs hti
   split at h
   ·rename_i hc
    simp only[ba] at h
    obtain⟨b,hb,rfl⟩:=h
    exact agg rfl hti rfl hc hb (.inr ⟨rfl,rfl⟩)
   ·cases h
  ·cases h
 all_goals
  split at h
  ·split at h
   ·rename_i hc
    simp only[Bool.and_eq_true] at hc
    rename_i d _
    have:=hc.1
    cases d<;>simp[vj] at this
   ·cases h
  ·cases h
theorem aan {op:BinOp}{t t':TypeId}{x y:Operand}{m n v:V}(ho:o.op=.binOp op t x y t')(hx:ev st x=some m)(hy:ev st y=some n)(h:yu E op t m n (qf x||qf y)=some v)(hna:aA m=false):fh P a.eval o w ρ st.rt v∧nh v:=by
 unfold yu at h
 split at h
 ·rename_i k m k' n
  refine⟨aaB A H J T ho hx hy h,?_⟩
  unfold IG at h
  split at h
  ·split at h<;>cases h;simp[nh]
  ·split at h<;>cases h;simp[nh]
  ·split at h
   ·unfold IE at h
    split at h<;>first | (cases h;simp[nh];done) | (split at h<;>cases h;simp[nh];done) | skip
    simp only[intBits] at h
    split at h<;>cases h<;>simp[nh]
   ·cases h
 ·refine⟨aaC A H J T ho hx hy h,?_⟩
  unfold zQ at h
  split at h<;>first | (cases h;simp[nh];done) | (cases h;done) | (split at h<;>cases h;simp[nh];done)
 ·split at h
  ·cases h
   rename_i hd
   exact⟨KU A H J T ho hx hy hd (.inl ⟨rfl,rfl⟩),by simp[nh]⟩
  ·cases h
   rename_i hd
   exact⟨KU A H J T ho hx hy hd (.inr ⟨rfl,rfl⟩),by simp[nh]⟩
  ·cases h
 ·simp[aA] at hna
 ·split at h
  ·rename_i d hd
   split at h
   ·rename_i hc
    simp only[Bool.and_eq_true,Bool.or_eq_true] at hc
    split at h
    ·simp only[ba] at h
     obtain⟨b,hb,rfl⟩:=h
     exact⟨Oj A H J T ho hx hy hd hc.1 hb (fun hi=>by rcases hc.2 with h2 | h2<;>first | simpa using h2 | simp[hi] at h2) (.inl ⟨rfl,rfl⟩),by simp[nh]⟩
    ·simp only[ba] at h
     obtain⟨b,hb,rfl⟩:=h
     exact⟨Oj A H J T ho hx hy hd hc.1 hb (fun hi=>by rcases hc.2 with h2 | h2<;>first | simpa using h2 | simp[hi] at h2) (.inr ⟨rfl,rfl⟩),by simp[nh]⟩
    ·cases h
   ·cases h
  ·cases h
theorem XQ {t:TypeId}{x v:V}{lo hi:Option V}(h:jG E st.rt t x lo hi=some v)(hx:aB N x):aB N v:=by
 unfold jG at h
 split at h
 ·simp only[aV] at h
  obtain⟨_,_,_,_,h⟩:=h
  split at h<;>cases h
  simp[aB]
 ·simp only[aV] at h
  obtain⟨_,_,_,_,_,_,h⟩:=h
  split at h<;>cases h
  simp only[aB] at hx ⊢
  exact dN.2 fun v hv=>dN.1 hx v (List.mem_of_mem_drop (List.mem_of_mem_take hv))
 ·split at h
  ·simp only[aV] at h
   obtain⟨_,_,_,_,h⟩:=h
   split at h<;>cases h
   simpa[aB] using hx
  ·cases h
 ·cases h
theorem SB {t:TypeId}{x v:V}{i:Int}(h:iz E t x i=some v)(hx:aB N x):aB N v:=by
 unfold iz at h
 split at h
 ·split at h
  ·simp only[aV] at h
   obtain⟨el,hel,h⟩:=h
   split at h<;>cases h
   simp only[aB] at hx ⊢
   exact dj hx hel
  ·cases h
 ·split at h<;>cases h
  simpa[aB] using hx
 ·simp only[aV] at h
  obtain⟨_,_,h⟩:=h
  split at h<;>cases h
  simpa[aB] using hx
 ·simp only[aV] at h
  obtain⟨_,_,h⟩:=h
  split at h<;>cases h
  simpa[aB] using hx
 ·cases h
theorem agn (hN:∀o r,st.rt o=some r→¬N o r.nv){id:Nat}{v:V}{rt':aw}(hp:vm o.op=true)(h:bF E id st o.op=some (v,rt')):rt'=st.rt∧fh P a.eval o w ρ st.rt v∧aB N v:=by
 cases hop:o.op with
 | move x=>
  rw[hop] at h
  simp only[bF,ba] at h
  obtain⟨u,hu,h⟩:=h
  cases h
  exact⟨rfl,age A H J T hop hu,gN hm hu⟩
 | assign x=>
  rw[hop] at h
  simp only[bF,ba] at h
  obtain⟨u,hu,h⟩:=h
  cases h
  exact⟨rfl,aaA A H J T hop hu,gN hm hu⟩
 | pick c x y=>
  rw[hop] at h
  simp only[bF,aV,ba] at h
  obtain⟨cv,hcv,u,hu,h⟩:=h
  cases h
  split at hu
  ·exact⟨rfl,Xf A H J T (b:=true) hop hcv (by simpa using hu),gN hm hu⟩
  ·exact⟨rfl,Xf A H J T (b:=false) hop hcv (by simpa using hu),gN hm hu⟩
  ·cases hu
 | build t ps=>
  rw[hop] at h
  simp only[bF,aV,ba] at h
  obtain⟨pv,hpv,u,hu,h⟩:=h
  cases h
  refine⟨rfl,ac5 A T hop hpv hu,?_⟩
  unfold Ir at hu
  split at hu
  ·simp only[aV] at hu
   obtain⟨z,hz,hu⟩:=hu
   have hzn:dG N (cells z):=tI (dB (pW hz))
   split at hu
   ·simp only[aV,ba] at hu
    obtain⟨_,_,cs,hcs,rfl⟩:=hu
    simpa[aB] using J9 hzn (qZ hm hpv) hcs
   ·simp only[aV,ba] at hu
    obtain⟨_,_,cs,hcs,rfl⟩:=hu
    simpa[aB] using J9 hzn (qZ hm hpv) hcs
   ·cases hu
  ·cases hu
 | load t p=>
  rw[hop] at h
  simp only[bF,aV] at h
  obtain⟨ti,hti,pv,hpv,cs,hcs,h⟩:=h
  split at h
  ·rename_i hc
   simp only[ba] at h
   obtain⟨u,hu,h⟩:=h
   cases h
   exact⟨rfl,agd A H J T hop hti hpv hcs hc.2 hc.1 hu,DZ hu (zS (Q2 hr hN (gN hm hpv) hcs))⟩
  ·cases h
 | nilCheck x=>
  rw[hop] at h
  simp only[bF,aV] at h
  obtain⟨u,hu,h⟩:=h
  split at h
  ·split at h<;>cases h
   rename_i hl
   exact⟨rfl,IB A H J T hop hu hl,gN hm hu⟩
  ·cases h
   exact⟨rfl,IB A H J T hop hu trivial,gN hm hu⟩
  ·cases h
 | unOp op t x=>
  rw[hop] at h
  simp only[bF,aV,ba] at h
  obtain⟨u,hu,v',hv,h⟩:=h
  cases h
  refine⟨rfl,agf A H J T hop hu hv,?_⟩
  unfold unV at hv
  split at hv
  ·split at hv<;>cases hv;simp[aB]
  ·split at hv
   ·cases hv;simp[aB]
   ·simp only[intBits] at hv;cases hv;simp[aB]
   ·cases hv
  ·cases hv
 | convert s d x=>
  rw[hop] at h
  simp only[bF,aV,ba] at h
  obtain⟨u,hu,v',hv,h⟩:=h
  cases h
  unfold wb at hv
  split at hv
  ·rename_i hs hd
   cases hv
   exact⟨rfl,Xc A H J T hop hu hs hd,by simp[aB]⟩
  ·rename_i hs hd
   cases hv
   exact⟨rfl,Xd A H J T hop hu hs hd,by simp[aB]⟩
  ·rename_i e0 hs hd
   split at hv
   ·rename_i h8
    simp only[aV,ba] at hv
    obtain⟨es,hes,bs,hbs,rfl⟩:=hv
    exact⟨rfl,Qf A H J T hop hu hs hd h8 hes hbs,by simp[aB]⟩
   ·cases hv
  ·cases hv
 | makeInterface t x=>
  rw[hop] at h
  simp only[bF,aV] at h
  obtain⟨u,hu,h⟩:=h
  split at h
  ·rename_i hpl
   split at h
   ·cases h
   ·rename_i d hd' hd
    cases h
    have hi:pN d=false:=by cases d<;>first | rfl | exact (hd' _ rfl).elim
    exact⟨rfl,IA A H J T hop hu hd hi,by simpa[aB] using XK hpl (gN hm hu)⟩
   ·cases h
  ·cases h
 | makeFunc fn first caps=>
  rw[hop] at h
  cases fn<;>simp only[bF] at h<;>first | (cases h;done) | skip
  rename_i f
  split at h
  ·rename_i h0
   simp only[aV] at h
   obtain⟨vs,hvs,h⟩:=h
   split at h
   ·rename_i hall
    cases h
    exact⟨rfl,Sw A H J T hop h0 hvs (fun v hv=>by simpa using List.all_eq_true.1 hall v hv),by simpa[aB] using Oa hm hvs⟩
   ·cases h
  ·cases h
 | slice t x lo hi mx=>
  rw[hop] at h
  cases mx with
  | some m=>simp[bF] at h
  | none=>
   simp only[bF,aV] at h
   obtain⟨xv,hx,l,hl,hh,hhh,h⟩:=h
   split at h
   ·rename_i hal
    simp only[ba] at h
    obtain⟨u,hu,h⟩:=h
    cases h
    exact⟨rfl,ac7 A H J T hop hx hl hhh hal hu,XQ A H J T hm hr hu (gN hm hx)⟩
   ·cases h
 | fieldAddr s x f=>
  rw[hop] at h
  simp only[bF,aV] at h
  obtain⟨xv,hx,fl,hf,h⟩:=h
  split at h
  ·split at h<;>cases h
   rename_i hc
   exact⟨rfl,Bn A H J T hop hx hf hc.1 ⟨rfl,rfl⟩,by simpa[aB] using gN hm hx⟩
  ·split at h<;>cases h
   rename_i hc
   exact⟨rfl,Bn A H J T hop hx hf hc.1 ⟨rfl,rfl,rfl,rfl,rfl,rfl,hc.2.2⟩,by simpa[aB] using gN hm hx⟩
  ·cases h
 | field s x f=>
  rw[hop] at h
  simp only[bF,aV] at h
  obtain⟨xv,hx,fl,hf,h⟩:=h
  split at h
  ·split at h
   ·rename_i hc
    simp only[ba] at h
    obtain⟨u,hu,h⟩:=h
    cases h
    have hn:=gN hm hx
    exact⟨rfl,ac6 A H J T hop hx hf rfl hc hu,DZ hu (zS (QX (by simpa[aB] using hn)))⟩
   ·cases h
  ·cases h
 | indexAddr t x i=>
  rw[hop] at h
  simp only[bF,aV] at h
  obtain⟨xv,hx,iv,hi,h⟩:=h
  split at h
  ·split at h
   ·rename_i hal
    simp only[ba] at h
    obtain⟨u,hu,h⟩:=h
    cases h
    exact⟨rfl,Qg A H J T hop hx hi hal hu,SB A H J T hm hr hu (gN hm hx)⟩
   ·cases h
  ·cases h
 | index t x i=>
  rw[hop] at h
  simp only[bF,aV] at h
  obtain⟨xv,hx,iv,hi,h⟩:=h
  split at h
  ·simp only[ba] at h
   obtain⟨u,hu,h⟩:=h
   cases h
   unfold Oq at hu
   split at hu
   ·rename_i hti
    split at hu
    ·rename_i h0
     simp only[ba] at hu
     obtain⟨c,hc,rfl⟩:=hu
     exact⟨rfl,Sv A H J T hop hx hi (by simp[Env.desc,hti]) h0 hc,by simp[aB]⟩
    ·cases hu
   ·cases hu
  ·cases h
 | extract x i=>
  rw[hop] at h
  simp only[bF,aV] at h
  obtain⟨xv,hx,h⟩:=h
  split at h
  ·simp only[ba] at h
   obtain⟨u,hu,h⟩:=h
   cases h
   exact⟨rfl,Xe A H J T hop hx hu,gD (by simpa[aB] using gN hm hx) hu⟩
  ·cases h
 | binOp op t x y t'=>
  rw[hop] at h
  simp only[bF,aV,ba] at h
  obtain⟨xv,hx,yv,hy,u,hu,h⟩:=h
  cases h
  by_cases hna:aA xv=true
  ·cases xv<;>first | (simp[aA] at hna;done) | skip
   have:=Sk A H J T hop hx hy hu
   exact⟨rfl,this.1,dB this.2⟩
  ·have:=aan A H J T hm hr hop hx hy hu (by simpa using hna)
   exact⟨rfl,this.1,dB this.2⟩
 | call c=>
  obtain⟨cal,args,ts⟩:=c
  rw[hop] at h hp
  cases cal<;>simp only[vm] at hp<;>first | (cases hp;done) | skip
  rename_i b
  simp only[bF,mc,aV] at h
  obtain⟨vs,hvs,h⟩:=h
  cases b<;>first | (simp only[Bool.false_eq_true] at hp;done) | skip
  case len=>
   match vs,hvs,h with
   | [xv],hvs,h=>
    simp only[fi] at h
    split at h
    ·rename_i hal
     simp only[aV,ba] at h
     obtain⟨t,ht,u,hu,h⟩:=h
     cases h
     obtain⟨hl,_⟩:=vd T hvs
     obtain⟨x0,hx0⟩:∃x0,args=#[x0]:=by
      have:args.size=1:=by simpa using hl.symm
      exact⟨args[0],Array.ext (by simp[this]) (fun i h1 h2=>by
       have:i=0:=by simp at h2;exact h2
       subst this;rfl)⟩
     subst hx0
     simp only[io,aV,ba] at hvs
     obtain⟨x1,hx1,_,hq,hvs⟩:=hvs
     cases hq
     cases hvs
     refine⟨rfl,ahk A H J T hop ht hx1 hal hu,?_⟩
     unfold tE at hu
     split at hu<;>first | (split at hu<;>cases hu;simp[aB];done) | cases hu
    ·cases h
   | [],_,h=>simp[fi] at h
   | _::_::_,_,h=>simp[fi] at h
  case min=>
   simp only[fi,ba] at h
   obtain⟨u,hu,h⟩:=h
   cases h
   refine⟨rfl,Ok T hop (.inl ⟨rfl,rfl⟩) hvs hu,?_⟩
   unfold zE at hu
   split at hu
   ·simp only[ba] at hu
    obtain⟨m,_,rfl⟩:=hu
    simp[aB]
   ·cases hu
  case max=>
   simp only[fi,ba] at h
   obtain⟨u,hu,h⟩:=h
   cases h
   refine⟨rfl,Ok T hop (.inr ⟨rfl,rfl⟩) hvs hu,?_⟩
   unfold zE at hu
   split at hu
   ·simp only[ba] at hu
    obtain⟨m,_,rfl⟩:=hu
    simp[aB]
   ·cases hu
 | _=>rw[hop] at hp;simp[vm] at hp
end
end
section
variable {w w' : World} {ρ ρ' : bX} {rt rt' : aw} {New : Nat→Nat→Prop}
theorem cl {v:V}(hv:aA v=false):cells v=[v]:=by cases v<;>simp_all[cells,aA]
theorem sE {e v:V}{k:Nat}(he:aA e=false):d7 e k v=v:=by cases e<;>simp_all[d7,aA]
theorem hI {e v x:V}{k k':Nat}(hx:(cells e)[k]?=some x)(hv:aA v=false):(cells (d7 e k v))[k']?=if k'=k then some v else (cells e)[k']?:=by
 have hk:=(cX.1 hx).1
 by_cases he:aA e=true
 ·cases e<;>simp[aA] at he
  rename_i cs
  simp only[d7,cells] at hk ⊢
  by_cases h:k'=k
  ·subst h;simp[hk]
  ·rw[if_neg h,List.getElem?_set_ne (by omega)]
 ·have he':aA e=false:=by simpa using he
  rw[cl he'] at hk ⊢
  have hk0:k=0:=by simpa using hk
  subst hk0
  rw[sE he',cl hv]
  cases k'<;>simp
theorem kf {e v:V}{k:Nat}(hk:k<(cells e).length)(hv:aA v=false):(cells (d7 e k v)).length=(cells e).length:=by
 by_cases he:aA e=true
 ·cases e<;>simp[aA] at he
  simp[d7,cells]
 ·have he':aA e=false:=by simpa using he
  rw[sE he',cl hv,cl he']
  rfl
theorem qP {new:List V}:∀{p:List (Nat×Nat)} {s s1:Nat} {es es' old:List V},bG p s es=some (s1,old)→setRow new p es=some es'→new.length=old.length→es'.length=es.length
 | [],s,s1,es,es',old,h,e,hl=>by simp[bG] at h;simp[setRow] at e;rw[←e,hl,←h.2]
 | (i,k)::p,s,s1,es,es',old,h,e,hl=>by
  simp only[setRow] at e
  split at e
  ·cases e
  ·split at e
   ·simp only[ba] at e
    obtain⟨y,_,rfl⟩:=e
    simp
   ·simp only[aV] at e
    obtain⟨y,_,e⟩:=e
    split at e<;>cases e
    simp
   ·cases e
theorem RepV.under (K:Keep New w ρ rt w' ρ' rt'){o:Nat}{q:List (Nat×Nat)}(hU:∀b l,ρ b=some (o,l)→q <+: l→ρ' b=some (o,l)∧w'.heap[b]?=w.heap[b]?){v:V}{u:Value}(h:RepV w ρ rt (some (o,q)) v u)(hn:nh v):RepV w' ρ' rt' (some (o,q)) v u:=by
 have:=h.mono K id (fun l=>l.1=o∧q <+: l.2) (fun _ _ _ _=>rfl) (fun l i k hl=>⟨hl.1,hl.2.trans (by simp[dJ.at])⟩) (fun b l hl hb=>by
  obtain⟨l1,l2⟩:=l
  obtain⟨rfl,hl2⟩:=hl
  exact hU b l2 hb hl2) (fun l hl=>by cases hl;exact⟨rfl,List.prefix_refl _⟩) (dB hn)
 simpa using this
theorem XL {q p0:List (Nat×Nat)}{x y:Nat×Nat}{l p:List (Nat×Nat)}(h1:p0++[x] <+: l)(hne:x≠y):¬p0++y::p <+: l:=by
 rintro⟨t,ht⟩
 obtain⟨t',ht'⟩:=h1
 rw[←ht'] at ht
 simp only[List.append_assoc,List.cons_append,List.append_cancel_left_eq,List.nil_append] at ht
 injection ht with h _
 exact hne h.symm
theorem qF (K:Keep New w ρ rt w' ρ' rt')(J':fp ρ'){o s1:Nat}{new old:List V}(hlen:new.length=old.length):∀{p p0:List (Nat×Nat)} {s:Nat} {es es':List V},cO w ρ rt (o,p0) s es→nhs es→
  bG p s es=some (s1,old)→setRow new p es=some es'→
  (∀b l,ρ b=some (o,l)→p0 <+: l→¬(p0++p) <+: l→ρ' b=some (o,l)∧w'.heap[b]?=w.heap[b]?)→
  (∀b arr T,ρ b=some (o,p0++p)→w.heap[b]?=some (.cells arr T (0,0))→ρ' b=some (o,p0++p)∧∃arr' T',w'.heap[b]?=some (.cells arr' T' (0,0))∧arr'.size=arr.size)→
  cO w' ρ' rt' (o,p0++p) s1 new→cO w' ρ' rt' (o,p0) s es'
 | [],p0,s,es,es',h,hn,hr,he,hU,hS,hR=>by
  simp[bG] at hr
  simp[setRow] at he
  obtain⟨rfl,rfl⟩:=hr
  subst he
  simpa using hR
 | (i,k)::p,p0,s,es,es',h,hn,hr,he,hU,hS,hR=>by
  simp only[bG] at hr
  simp only[setRow] at he
  cases hei:es[i]? with
  | none=>simp[hei] at he
  | some e=>
   simp only[hei] at he hr
   rcases h with rfl | ⟨b,arr,T,g,h1,h2,h3,h4,h5⟩
   ·simp at hei
   have hen:=dj hn hei
   have hb:=hU b p0 h1 (List.prefix_refl _) (by rintro⟨t,ht⟩;have:=congrArg List.length ht;simp at this)
   have hil:=(cX.1 hei).1
   -- the new element,and what it holds at the cell
   have main:∀(x v:V) ,(cells e)[k]?=some x→aA v=false→RepV w' ρ' rt' (some (o,p0++[(i,k)])) v (g i k)→cO w' ρ' rt' (o,p0) s (es.set i (d7 e k v)):=by
    intro x v hx hva hv
    refine .inr ⟨b,arr,T,g,hb.1,by rw[hb.2];exact h2,?_,?_,?_⟩
    ·intro i' e' he'
     by_cases hi:i'=i
     ·subst hi
      rw[List.getElem?_set_self hil] at he'
      cases he'
      rw[kf (cX.1 hx).1 hva]
      exact h3 _ _ hei
     ·rw[List.getElem?_set_ne (by omega)] at he'
      exact h3 _ _ he'
    ·intro i' e' k' y he' hy
     by_cases hi:i'=i
     ·subst hi
      rw[List.getElem?_set_self hil] at he'
      cases he'
      have hk':k'<(cells e).length:=by
       have:=(cX.1 hy).1
       rwa[kf (cX.1 hx).1 hva] at this
      exact h4 i' e k' _ hei (em hk')
     ·rw[List.getElem?_set_ne (by omega)] at he'
      exact h4 _ _ _ _ he' hy
    ·intro i' e' k' y he' hy
     have other:∀z,(i',k')≠(i,k)→RepV w ρ rt (some ((o,p0) |> fun l:dJ=>l.at i' k')) z (g i' k')→nh z→RepV w' ρ' rt' (some (dJ.at (o,p0) i' k')) z (g i' k'):=by
      intro z hne hz hzn
      refine RepV.under K (fun b l hb hl=>hU b l hb ((List.prefix_append _ _).trans hl) (XL (q:=p0) hl hne)) hz hzn
     by_cases hi:i'=i
     ·subst hi
      rw[List.getElem?_set_self hil] at he'
      cases he'
      rw[hI hx hva] at hy
      split at hy
      ·rename_i hk
       cases hy
       subst hk
       exact hv
      ·rename_i hk
       exact other y (by intro hq;cases hq;exact hk rfl) (h5 i' e k' y hei hy) (cr hen hy)
     ·rw[List.getElem?_set_ne (by omega)] at he'
      exact other y (by intro hq;cases hq;exact hi rfl) (h5 i' e' k' y he' hy) (cr (dj hn he') hy)
   have hassoc:p0++(i,k)::p=(p0++[(i,k)])++p:=by simp
   rw[hassoc] at hU hS hR
   have hU':∀b l,ρ b=some (o,l)→(p0++[(i,k)]) <+: l→¬((p0++[(i,k)])++p) <+: l→ρ' b=some (o,l)∧w'.heap[b]?=w.heap[b]?:=fun b l hb hl hl'=>hU b l hb ((List.prefix_append _ _).trans hl) hl'
   -- the block of the nested row
   have blk:∀b2 arr2 T2,ρ b2=some (o,p0++[(i,k)])→w.heap[b2]?=some (.cells arr2 T2 (0,0))→ρ' b2=some (o,p0++[(i,k)])∧∃arr' T',w'.heap[b2]?=some (.cells arr' T' (0,0))∧arr'.size=arr2.size:=by
    intro b2 arr2 T2 hb2 hh2
    by_cases hp:p=[]
    ·subst hp
     have:=hS b2 arr2 T2 (by simpa using hb2) hh2
     simpa using this
    ·have:=hU' b2 _ hb2 (List.prefix_refl _) (by rintro⟨t,ht⟩;have:=congrArg List.length ht;simp at this;exact hp this.1)
     exact⟨this.1,arr2,T2,by rw[this.2];exact hh2,rfl⟩
   cases hc:(cells e)[k]? with
   | none=>simp[hc] at hr
   | some x=>
    have hxn:=cr hen hc
    have hxr:=h5 i e k x hei hc
    cases x<;>simp only[hc] at hr he<;>first | (cases hr;done) | skip
    case uptr z=>
     simp only[aV] at he
     obtain⟨y,hy,he⟩:=he
     have hzn:nh z:=by simpa[nh] using hxn
     have ih:=qF K J' hlen (pe hxr) (by simpa[nhs] using hzn) hr hy hU' hS hR
     have hyl:=qP hr hy hlen
     split at he
     ·rename_i z'
      cases he
      refine main (.uptr z) (.uptr z') hc rfl ?_
      generalize hgu:g i k=gu at hxr ⊢
      cases hxr with
      | uptr _ _ b2 arr2 T2 g2 hρ2 hh2 hc2 hr2=>
       obtain⟨q1,arr',T',q2,q3⟩:=blk b2 arr2 T2 hρ2 hh2
       rcases ih with ih | ⟨b',arr'',T',g',i1,i2,i3,i4,i5⟩
       ·cases ih
       ·have hbb:=J' b2 b' _ q1 i1
        subst hbb
        exact .uptr _ _ b2 arr'' T' (g' 0) i1 i2 (fun k x hx=>by simpa using i4 0 z' k x rfl hx) (fun k x hx=>i5 0 z' k x rfl hx)
     ·cases he
    case usl s2 z=>
     simp only[ba] at he
     obtain⟨y,hy,rfl⟩:=he
     have hzn:nhs z:=by simpa[nh] using hxn
     have ih:=qF K J' hlen (qG hxr) hzn hr hy hU' hS hR
     have hyl:=qP hr hy hlen
     refine main (.usl s2 z) (.usl s2 y) hc rfl ?_
     generalize hgu:g i k=gu at hxr ⊢
     cases hxr with
     | usl0=>
      have:y=[]:=List.length_eq_zero_iff.1 (by simpa using hyl)
      subst this
      exact .usl0 _ _ _
     | usl _ _ _ b2 A2 c2 arr2 T2 g2 hρ2 hh2 hl2 hA2 hcap2 hs2 hc2 hr2=>
      obtain⟨q1,arr',T',q2,q3⟩:=blk b2 arr2 T2 hρ2 hh2
      rw[←hyl]
      rcases ih with ih | ⟨b',arr'',T'',g',i1,i2,i3,i4,i5⟩
      ·subst ih
       exact .usl _ s2 [] b2 A2 c2 arr' T' g2 q1 q2 (by simp) hA2 (by rw[q3];exact hcap2) (by simp) (by simp) (by simp)
      ·have hbb:=J' b2 b' _ q1 i1
       subst hbb
       rw[q2] at i2
       cases i2
       exact .usl _ s2 y b2 A2 c2 arr' T' g' q1 q2 (by rw[hyl];exact hl2) hA2 (by rw[q3];exact hcap2) i3 i4 i5
end
section
variable {w w' : World} {ρ ρ' : bX} {rt rt' : aw} {New : Nat→Nat→Prop}
theorem Kh:∀{p:List (Nat×Nat)} {s s':Nat} {es:List V},(bG p s es).isSome=(bG p s' es).isSome
 | [],s,s',es=>by simp[bG]
 | (i,k)::p,s,s',es=>by simp[bG]
theorem yY:∀{p t:List (Nat×Nat)} {s s1:Nat} {es es1:List V},bG p s es=some (s1,es1)→bG (p++t) s es=bG t s1 es1
 | [],t,s,s1,es,es1,h=>by simp[bG] at h;simp[h.1,h.2]
 | (i,k)::p,t,s,s1,es,es1,h=>by
  simp only[bG,List.cons_append] at h ⊢
  cases hei:es[i]? with
  | none=>simp[hei] at h
  | some v=>
   simp only[hei] at h ⊢
   cases hc:(cells v)[k]? with
   | none=>simp[hc] at h
   | some x=>cases x<;>simp only[hc] at h ⊢<;>first | (cases h;done) | exact yY h
theorem kP {new:List V}:∀{q t:List (Nat×Nat)} {s sy:Nat} {es es' old:List V},bG q s es=some (sy,old)→setRow new q es=some es'→(bG (q++t) s es').isSome=(bG t sy new).isSome
 | [],t,s,sy,es,es',old,h,e=>by simp[bG] at h;simp[setRow] at e;subst e;simp[Kh (s:=s) (s':=sy)]
 | (i,k)::q,t,s,sy,es,es',old,h,e=>by
  simp only[bG] at h
  simp only[setRow] at e
  cases hei:es[i]? with
  | none=>simp[hei] at e
  | some v=>
   simp only[hei] at e h
   have hil:=(cX.1 hei).1
   cases hc:(cells v)[k]? with
   | none=>simp[hc] at h
   | some x=>
    cases x<;>simp only[hc] at h e<;>first | (cases h;done) | skip
    case uptr z=>
     simp only[aV] at e
     obtain⟨y,hy,e⟩:=e
     split at e
     ·rename_i z'
      cases e
      simp only[bG,List.cons_append,List.getElem?_set_self hil,hI (v:=.uptr z') hc rfl,if_true]
      rw[Kh (s':=(cells z).length)]
      exact kP h hy
     ·cases e
    case usl s2 z=>
     simp only[ba] at e
     obtain⟨y,hy,rfl⟩:=e
     simp only[bG,List.cons_append,List.getElem?_set_self hil,hI (v:=.usl s2 y) hc rfl,if_true]
     exact kP h hy
theorem wq {new:List V}{sy:Nat}{old:List V}(hnew:∀t,(bG t sy new).isSome=true→(bG t sy old).isSome=true):∀{q p:List (Nat×Nat)} {s:Nat} {es es':List V},bG q s es=some (sy,old)→setRow new q es=some es'→(bG p s es').isSome=true→(bG p s es).isSome=true
 | [],p,s,es,es',h,e,hl=>by
  simp[bG] at h
  simp[setRow] at e
  obtain⟨rfl,rfl⟩:=h
  subst e
  exact hnew p hl
 | (i,k)::q,[],s,es,es',h,e,hl=>by simp[bG]
 | (i,k)::q,(i',k')::p,s,es,es',h,e,hl=>by
  simp only[bG] at h hl ⊢
  simp only[setRow] at e
  cases hei:es[i]? with
  | none=>simp[hei] at e
  | some v=>
   simp only[hei] at e h
   have hil:=(cX.1 hei).1
   cases hc:(cells v)[k]? with
   | none=>simp[hc] at h
   | some x=>
    have go:∀(x':V),aA x'=false→(x' matches .usl _ _)=(x' matches .usl _ _)→True:=fun _ _ _=>trivial
    cases x<;>simp only[hc] at h e<;>first | (cases h;done) | skip
    case uptr z=>
     simp only[aV] at e
     obtain⟨y,hy,e⟩:=e
     split at e
     ·rename_i z'
      cases e
      by_cases hi:i'=i
      ·subst hi
       simp only[List.getElem?_set_self hil,hI (v:=.uptr z') hc rfl] at hl
       simp only[hei]
       by_cases hk:k'=k
       ·subst hk
        simp only[if_true] at hl
        simp only[hc]
        rw[Kh (s':=(cells z).length)] at hl
        exact wq hnew h hy hl
       ·simp only[hk,if_false] at hl
        exact hl
      ·rw[List.getElem?_set_ne (by omega)] at hl
       exact hl
     ·cases e
    case usl s2 z=>
     simp only[ba] at e
     obtain⟨y,hy,rfl⟩:=e
     by_cases hi:i'=i
     ·subst hi
      simp only[List.getElem?_set_self hil,hI (v:=.usl s2 y) hc rfl] at hl
      simp only[hei]
      by_cases hk:k'=k
      ·subst hk
       simp only[if_true] at hl
       simp only[hc]
       exact wq hnew h hy hl
      ·simp only[hk,if_false] at hl
       exact hl
     ·rw[List.getElem?_set_ne (by omega)] at hl
      exact hl
def eZ (ρ:bX)(o:Nat)(path:List (Nat×Nat))(q:Nat)(dst:List (Nat×Nat)):bX:=fun b=>
 match ρ b with
 | some (o',l)=>if o'=o∧path <+: l then some (q,dst++l.drop path.length) else some (o',l)
 | none=>none
theorem o8 {o path q dst b}:eZ ρ o path q dst b=none↔ρ b=none:=by
 unfold eZ
 cases ρ b with
 | none=>simp
 | some l=>simp;split<;>simp
theorem ef {o path q dst b o' l}(h:ρ b=some (o',l))(hn:¬(o'=o∧path <+: l)):eZ ρ o path q dst b=some (o',l):=by
 unfold eZ
 rw[h]
 exact if_neg hn
theorem la {o path q dst b l}(h:ρ b=some (o,path++l)):eZ ρ o path q dst b=some (q,dst++l):=by
 unfold eZ
 rw[h]
 simp
theorem gx {o path q dst b o' l}(h:eZ ρ o path q dst b=some (o',l)):(ρ b=some (o',l)∧¬(o'=o∧path <+: l))∨(o'=q∧∃t,l=dst++t∧ρ b=some (o,path++t)):=by
 unfold eZ at h
 cases hb:ρ b with
 | none=>simp[hb] at h
 | some x=>
  obtain⟨o1,l1⟩:=x
  simp only[hb] at h
  split at h
  ·rename_i hc
   obtain⟨rfl,t,rfl⟩:=hc
   cases h
   exact .inr ⟨rfl,t,by simp,rfl⟩
  ·rename_i hc
   cases h
   exact .inl ⟨rfl,hc⟩
theorem tF (J:fp ρ){o path q dst}(hq:∀b l,ρ b≠some (q,dst++l)):fp (eZ ρ o path q dst):=by
 intro b b' ⟨o',l⟩ h h'
 rcases gx h with⟨h1,_⟩ | ⟨rfl,t,rfl,h1⟩<;>rcases gx h' with⟨h2,_⟩ | ⟨e,t',e',h2⟩
 ·exact J _ _ _ h1 h2
 ·subst e;subst e';exact absurd h1 (hq _ _)
 ·exact absurd h2 (hq _ _)
 ·rw[List.append_cancel_left_eq] at e'
  subst e'
  exact J _ _ _ h1 h2
end
section
variable {w w' : World} {ρ ρ' : bX} {rt rt' : aw} {New : Nat→Nat→Prop}
theorem cO.under (K:Keep New w ρ rt w' ρ' rt'){o:Nat}{q:List (Nat×Nat)}(hU:∀b l,ρ b=some (o,l)→q <+: l→ρ' b=some (o,l)∧w'.heap[b]?=w.heap[b]?){s:Nat}{es:List V}(h:cO w ρ rt (o,q) s es)(hn:nhs es):cO w' ρ' rt' (o,q) s es:=by
 rcases h with h | ⟨b,arr,T,g,h1,h2,h3,h4,h5⟩
 ·exact .inl h
 ·have hb:=hU b q h1 (List.prefix_refl _)
  exact .inr ⟨b,arr,T,g,hb.1,by rw[hb.2];exact h2,h3,h4,fun i e k x he hx=>RepV.under K (fun b l hl hp=>hU b l hl ((List.prefix_append _ _).trans hp)) (h5 i e k x he hx) (cr (dj hn he) hx)⟩
theorem cO.move (K:Keep New w ρ rt w' ρ' rt'){o q:Nat}{path dst:List (Nat×Nat)}(hU:∀b l,ρ b=some (o,path++l)→ρ' b=some (q,dst++l)∧w'.heap[b]?=w.heap[b]?){s:Nat}{es:List V}(h:cO w ρ rt (o,path) s es)(hn:nhs es):cO w' ρ' rt' (q,dst) s es:=by
 rcases h with h | ⟨b,arr,T,g,h1,h2,h3,h4,h5⟩
 ·exact .inl h
 ·have hb:=hU b [] (by simpa using h1)
  refine .inr ⟨b,arr,T,g,by simpa using hb.1,by rw[hb.2];exact h2,h3,h4,fun i e k x he hx=>?_⟩
  have:=(h5 i e k x he hx).mono K (fun l=>(q,dst++l.2.drop path.length)) (fun l=>l.1=o∧path <+: l.2)
   (fun l i k hl=>by
    obtain⟨_,t,ht⟩:=hl
    simp[dJ.at,←ht])
   (fun l i k hl=>⟨hl.1,hl.2.trans (by simp[dJ.at])⟩)
   (fun b l hl hb=>by
    obtain⟨l1,l2⟩:=l
    obtain⟨rfl,t,rfl⟩:=hl
    have:=hU b t hb
    simpa using this)
   (fun l hl=>by cases hl;exact⟨rfl,by simp[dJ.at]⟩) (dB (cr (dj hn he) hx))
  simpa[dJ.at] using this
theorem Lv (K:Keep New w ρ rt w' ρ' rt'){o:Nat}{p0:List (Nat×Nat)}{s:Nat}{es:List V}{i k:Nat}{e x v:V}(h:cO w ρ rt (o,p0) s es)(hn:nhs es)(hei:es[i]?=some e)(hx:(cells e)[k]?=some x)(hva:aA v=false)(hU:∀b l,ρ b=some (o,l)→p0 <+: l→l≠p0→¬(p0++[(i,k)]) <+: l→ρ' b=some (o,l)∧w'.heap[b]?=w.heap[b]?)(hB:∀b arr T,ρ b=some (o,p0)→w.heap[b]?=some (.cells arr T (0,0))→∃arr' u,ρ' b=some (o,p0)∧w'.heap[b]?=some (.cells arr' T (0,0))∧(∀j,j≠i*s+k→arr'[j]?=arr[j]?)∧arr'[i*s+k]?=some u∧
   (∀y,arr[i*s+k]?=some y→RepV w ρ rt (some (o,p0++[(i,k)])) x y→RepV w' ρ' rt' (some (o,p0++[(i,k)])) v u)) :
  cO w' ρ' rt' (o,p0) s (es.set i (d7 e k v)):=by
 rcases h with rfl | ⟨b,arr,T,g,h1,h2,h3,h4,h5⟩
 ·simp at hei
 have hen:=dj hn hei
 obtain⟨arr',u,b1,b2,b3,b4,b5⟩:=hB b arr T h1 h2
 have hil:=(cX.1 hei).1
 have hkl:=(cX.1 hx).1
 have hs:=h3 i e hei
 have hne:∀(i' k':Nat) (e':V),es[i']?=some e'→k'<(cells e').length→(i',k')≠(i,k)→i'*s+k'≠i*s+k:=by
  intro i' k' e' he' hk' hne hq
  have hk2:k'<s:=by rw[←h3 i' e' he'];exact hk'
  have hk1:k<s:=by rw[←hs];exact hkl
  have e1:(i'*s+k') / s=i':=by rw[Nat.mul_comm,Nat.mul_add_div (by omega)];simp[Nat.div_eq_of_lt hk2]
  have e2:(i*s+k) / s=i:=by rw[Nat.mul_comm,Nat.mul_add_div (by omega)];simp[Nat.div_eq_of_lt hk1]
  have:i'=i:=by rw[←e1,←e2,hq]
  subst this
  exact hne (by congr 1;omega)
 have g':∀(i':Nat) (e':V) k' y,(es.set i (d7 e k v))[i']?=some e'→(cells e')[k']?=some y→∃z,arr'[i'*s+k']?=some z∧RepV w' ρ' rt' (some (dJ.at (o,p0) i' k')) y z:=by
  intro i' e' k' y he' hy
  have other:∀(e'':V),es[i']?=some e''→(cells e'')[k']?=some y→(i',k')≠(i,k)→∃z,arr'[i'*s+k']?=some z∧RepV w' ρ' rt' (some (dJ.at (o,p0) i' k')) y z:=by
   intro e'' he'' hy'' hnn
   have hk'':=(cX.1 hy'').1
   refine⟨g i' k',by rw[b3 _ (hne i' k' e'' he'' hk'' hnn)];exact h4 i' e'' k' y he'' hy'',?_⟩
   refine RepV.under K (fun b l hb hl=>hU b l hb ((List.prefix_append _ _).trans hl) ?_ (XL (q:=[]) (p:=[]) hl hnn)) (h5 i' e'' k' y he'' hy'') (cr (dj hn he'') hy'')
   rintro rfl
   obtain⟨t,ht⟩:=hl
   have:=congrArg List.length ht
   simp at this
  by_cases hi:i'=i
  ·subst hi
   rw[List.getElem?_set_self hil] at he'
   cases he'
   rw[hI hx hva] at hy
   split at hy
   ·rename_i hk
    cases hy
    subst hk
    exact⟨u,b4,b5 _ (h4 _ _ _ _ hei hx) (h5 _ _ _ _ hei hx)⟩
   ·rename_i hk
    exact other e hei hy (by intro hq;cases hq;exact hk rfl)
  ·rw[List.getElem?_set_ne (by omega)] at he'
   exact other e' he' hy (by intro hq;cases hq;exact hi rfl)
 refine .inr ⟨b,arr',T,fun i' k'=>arr'.getD (i'*s+k') undef,b1,b2,?_,?_,?_⟩
 ·intro i' e' he'
  by_cases hi:i'=i
  ·subst hi
   rw[List.getElem?_set_self hil] at he'
   cases he'
   rw[kf hkl hva]
   exact hs
  ·rw[List.getElem?_set_ne (by omega)] at he'
   exact h3 _ _ he'
 ·intro i' e' k' y he' hy
  obtain⟨z,hz,_⟩:=g' i' e' k' y he' hy
  have hlt:=(oE.1 hz).1
  simp[Array.getD,hlt]
 ·intro i' e' k' y he' hy
  obtain⟨z,hz,hr⟩:=g' i' e' k' y he' hy
  obtain⟨hlt,hz'⟩:=oE.1 hz
  simpa[Array.getD,hlt,hz'] using hr
theorem tP {e v:V}{k:Nat}(he:nh e)(hv:nh v):nh (d7 e k v):=by
 by_cases ha:aA e=true
 ·cases e<;>simp[aA] at ha
  rename_i cs
  simp only[d7,nh] at he ⊢
  refine dN.2 fun x hx=>?_
  rcases List.mem_or_eq_of_mem_set hx with h | h
  ·exact dN.1 he x h
  ·exact h▸hv
 ·rw[sE (by simpa using ha)];exact hv
theorem I8 {es:List V}{i:Nat}{v:V}(he:nhs es)(hv:nh v):nhs (es.set i v):=dN.2 fun x hx=>by
 rcases List.mem_or_eq_of_mem_set hx with h | h
 ·exact dN.1 he x h
 ·exact h▸hv
theorem oB {new:List V}(hnew:nhs new):∀{p:List (Nat×Nat)} {es es':List V},nhs es→setRow new p es=some es'→nhs es'
 | [],es,es',h,e=>by simp[setRow] at e;exact e▸hnew
 | (i,k)::p,es,es',h,e=>by
  simp only[setRow] at e
  split at e
  ·cases e
  ·rename_i v hv
   have hvn:=dj h hv
   split at e
   ·rename_i s x hx
    simp only[ba] at e
    obtain⟨y,hy,rfl⟩:=e
    have hxn:=cr hvn hx
    exact I8 h (tP hvn (by simp only[nh] at hxn ⊢;exact oB hnew hxn hy))
   ·rename_i x hx
    simp only[aV] at e
    obtain⟨y,hy,e⟩:=e
    split at e<;>cases e
    have hxn:=cr hvn hx
    have:=oB hnew (by simpa[nhs,nh] using hxn) hy
    exact I8 h (tP hvn (by simpa[nh,nhs] using this))
   ·cases e
structure Taken (New:Nat→Nat→Prop) (w:World) (ρ:bX) (rt:aw) (ρ':bX) (rt':aw) (o q:Nat) (dst:List (Nat×Nat)) (s:Nat) (es:List V):Prop where
 rok:eS w ρ' rt'
 inj:fp ρ'
 rtn:ij rt'
 row:cO w ρ' rt' (q,dst) s es
 keep:Keep New w ρ rt w ρ' rt'
 cell:∀q' d v u,q'≠o→RepV w ρ rt (some (q',d)) v u→nh v→RepV w ρ' rt' (some (q',d)) v u
 lab:∀b o' l,ρ' b=some (o',l)→(o'=q∧dst <+: l)∨(ρ b=some (o',l)∧(o'=o→∃r,rt' o=some r))
 low:∀x,rt x=none→rt' x=none
 oth:∀x,x≠o→rt' x=rt x
theorem Je (H:eS w ρ rt)(J:fp ρ)(hr:ij rt){o nv q:Nat}{path dst:List (Nat×Nat)}{r:Root}{s:Nat}{es:List V}(hv:cy rt o nv path=some r)(hrow:bG path r.s r.es=some (s,es))(hq:∀b l,ρ b≠some (q,dst++l))(hz:rt 0=none)(h:fg rt o r path=some rt'):Taken New w ρ rt (eZ ρ o path q dst) rt' o q dst s es:=by
 obtain⟨hro,hvv⟩:=eF hv
 have ho0:0≠o:=by rintro rfl;rw[hz] at hro;cases hro
 have hR:=kQ (p0:=[]) (H o r hro) hrow
 simp only[List.nil_append] at hR
 have hesn:nhs es:=jQ (hr o r hro) hrow
 unfold fg at h
 rcases List.eq_nil_or_concat path with rfl | ⟨q0,ik,rfl⟩
 ·simp only[List.reverse_nil] at h
  cases h
  have K:Keep New w ρ rt w (eZ ρ o [] q dst) (upd rt o none):=⟨fun b hb _=>⟨o8.2 hb,rfl⟩,fun o' nv' p' _ hl=>by
   have hne:o'≠o:=by
    rintro rfl
    simp[cV,cJ,cy,upd] at hl
   refine⟨by simpa[cV,cJ,cy,upd,hne] using hl,fun b n hb hn=>⟨ef hb (by simp[hne]),hn⟩⟩,fun b l hb=>⟨ef hb (by simp[ho0]),rfl⟩⟩
  refine⟨?_,tF J hq,?_,?_,K,?_,?_,?_,?_⟩
  ·intro o' r' h'
   by_cases hne:o'=o
   ·simp[upd,hne] at h'
   ·simp only[upd,hne,if_false] at h'
    exact cO.under K (fun b l hb _=>⟨ef hb (by simp[hne]),rfl⟩) (H o' r' h') (hr o' r' h')
  ·intro o' r' h'
   by_cases hne:o'=o
   ·simp[upd,hne] at h'
   ·simp only[upd,hne,if_false] at h'
    exact hr o' r' h'
  ·exact cO.move K (fun b l hb=>⟨by simpa using la (path:=[]) hb,rfl⟩) hR hesn
  ·intro q' d v u hne hrow' hn'
   exact RepV.under K (fun b l hb _=>⟨ef hb (by simp[hne]),rfl⟩) hrow' hn'
  ·intro b o' l hb
   rcases gx hb with⟨h1,h2⟩ | ⟨rfl,t,rfl,h1⟩
   ·exact .inr ⟨h1,fun he=>absurd ⟨he,List.nil_prefix⟩ h2⟩
   ·exact .inl ⟨rfl,by simp⟩
  ·intro x hx
   simp only[upd]
   split<;>simp_all
  ·intro x hx
   simp[upd,hx]
 ·obtain⟨i,k⟩:=ik
  rw[List.concat_eq_append] at *
  simp only[List.reverse_append,List.reverse_cons,List.reverse_nil,List.nil_append,List.singleton_append,List.reverse_reverse,aV,ba] at h
  obtain⟨⟨sy,y⟩,hy,e,he,es',hes',rfl⟩:=h
  simp only at he hes'
  have hyn:nhs y:=jQ (hr o r hro) hy
  have hen:=dj hyn he
  have hcell:∃x,(cells e)[k]?=some x:=by
   have h1:=yY (t:=[(i,k)]) hy
   rw[hrow] at h1
   simp only[bG,he] at h1
   cases hc:(cells e)[k]? with
   | none=>simp[hc] at h1
   | some x=>exact⟨x,rfl⟩
  obtain⟨x,hx⟩:=hcell
  have hil:=(cX.1 he).1
  have hnewlive:∀t,(bG t sy (y.set i (d7 e k .dead))).isSome=true→(bG t sy y).isSome=true∧¬[(i,k)] <+: t:=by
   intro t ht
   match t,ht with
   | [],_=>exact⟨by simp[bG],by rintro⟨t,ht⟩;simp at ht⟩
   | (i',k')::t',ht=>
    simp only[bG] at ht ⊢
    by_cases hi:i'=i
    ·subst hi
     simp only[List.getElem?_set_self hil,hI hx (v:=.dead) rfl] at ht
     by_cases hk:k'=k
     ·subst hk
      simp at ht
     ·simp only[hk,if_false] at ht
      refine⟨by simpa[he] using ht,?_⟩
      rintro⟨t,ht⟩
      simp at ht
      exact hk ht.1.symm
    ·rw[List.getElem?_set_ne (by omega)] at ht
     refine⟨ht,?_⟩
     rintro⟨t,ht⟩
     simp at ht
     exact hi ht.1.1.symm
  have K:Keep New w ρ rt w (eZ ρ o (q0++[(i,k)]) q dst) (upd rt o (some { r with es:=es' })):=⟨fun b hb _=>⟨o8.2 hb,rfl⟩,fun o' nv' p' _ hl=>by
   by_cases hne:o'=o
   ·subst hne
    have hl':(p'=[]∨r.nv=nv')∧(bG p' r.s es').isSome=true:=by
     unfold cV cJ at hl
     cases hvv':cy (upd rt o' (some { r with es:=es' })) o' nv' p' with
     | none=>simp[hvv'] at hl
     | some r2=>
      obtain⟨h1,h2⟩:=eF hvv'
      simp[upd] at h1
      subst h1
      simp only[hvv',cG] at hl
      exact⟨h2,hl⟩
    have h1:=wq (fun t ht=>(hnewlive t ht).1) hy hes' hl'.2
    have h2:¬(q0++[(i,k)]) <+: p':=by
     rintro⟨t,rfl⟩
     have:=hl'.2
     rw[List.append_assoc,kP hy hes'] at this
     exact (hnewlive _ this).2 (by simp)
    refine⟨?_,fun b n hb hn=>⟨ef hb (by simp[h2]),hn⟩⟩
    unfold cV cJ cy
    have:(p'.isEmpty||r.nv==nv')=true:=by
     rcases hl'.1 with h | h<;>simp[h]
    simp[hro,this,h1]
   ·refine⟨by simpa[cV,cJ,cy,upd,hne] using hl,fun b n hb hn=>⟨ef hb (by simp[hne]),hn⟩⟩,fun b l hb=>⟨ef hb (by simp[ho0]),rfl⟩⟩
  have hRy:=kQ (p0:=[]) (H o r hro) hy
  simp only[List.nil_append] at hRy
  have hnew:cO w (eZ ρ o (q0++[(i,k)]) q dst) (upd rt o (some { r with es:=es' })) (o,q0) sy (y.set i (d7 e k .dead)):=by
   refine Lv K hRy hyn he hx rfl (fun b l hb hl hne hnp=>⟨ef hb (by simp[hnp]),rfl⟩) (fun b arr T hb hh=>?_)
   obtain⟨b',arr2,T2,z,g1,g2,g3,g4,g5⟩:=ry hRy he hx
   have:=J _ _ _ hb g1
   subst this
   rw[hh] at g2
   cases g2
   refine⟨arr,z,ef hb ?_,hh,fun j _=>rfl,g4,fun _ _ _=>.dead _ _⟩
   rintro⟨_,t,ht⟩
   have:=congrArg List.length ht
   simp at this
  refine⟨?_,tF J hq,?_,?_,K,?_,?_,?_,?_⟩
  ·intro o' r' h'
   by_cases hne:o'=o
   ·subst hne
    simp only[upd,if_true,Option.some.injEq] at h'
    subst h'
    refine qF (p0:=[]) K (tF J hq) (by simp) (H o' r hro) (hr o' r hro) hy hes' (fun b l hb _ hl=>⟨ef hb ?_,rfl⟩) (fun b arr T hb hh=>⟨ef (by simpa using hb) ?_,arr,T,hh,rfl⟩) (by simpa using hnew)
    ·rintro⟨_,h2⟩
     exact hl (by simpa using (List.prefix_append q0 [(i,k)]).trans h2)
    ·rintro⟨_,t,ht⟩
     have:=congrArg List.length ht
     simp at this
   ·simp only[upd,hne,if_false] at h'
    exact cO.under K (fun b l hb _=>⟨ef hb (by simp[hne]),rfl⟩) (H o' r' h') (hr o' r' h')
  ·intro o' r' h'
   by_cases hne:o'=o
   ·simp only[upd,hne,if_true,Option.some.injEq] at h'
    subst h'
    exact oB (I8 hyn (tP hen (by simp[nh]))) (hr o r hro) hes'
   ·simp only[upd,hne,if_false] at h'
    exact hr o' r' h'
  ·exact cO.move K (fun b l hb=>⟨la hb,rfl⟩) hR hesn
  ·intro q' d v u hne hrow' hn'
   exact RepV.under K (fun b l hb _=>⟨ef hb (by simp[hne]),rfl⟩) hrow' hn'
  ·intro b o' l hb
   rcases gx hb with⟨h1,h2⟩ | ⟨rfl,t,rfl,h1⟩
   ·exact .inr ⟨h1,fun he=>⟨{ r with es:=es' },by simp[upd]⟩⟩
   ·exact .inl ⟨rfl,by simp⟩
  ·intro x' hx'
   simp only[upd]
   split
   ·rename_i hxo
    subst hxo
    rw[hro] at hx'
    cases hx'
   ·exact hx'
  ·intro x' hx'
   simp[upd,hx']
end
section
variable {w w' : World} {ρ ρ' ρ'' : bX} {rt rt' rt'' : aw} {N : Nat→Nat→Prop}
abbrev Pl:=Nat→List (Nat×Nat)→Prop
structure Lab (w:World) (ρ:bX) (rt:aw) (U:Pl):Prop where
 l:∀b o l,ρ b=some (o,l)→b<w.heap.size∧(U o l∨∃r,rt o=some r)
 z:rt 0=none
 f:∀b l,ρ b=some (0,l)→l=[(b,0)]
instance {w:World}{ρ:bX}{rt:aw}{U:Pl}:CoeFun (Lab w ρ rt U) (fun _=>∀b o l,ρ b=some (o,l)→b<w.heap.size∧(U o l∨∃r,rt o=some r)):=⟨Lab.l⟩
structure Abs (N:Nat→Nat→Prop) (w:World) (ρ:bX) (rt:aw) (ρ':bX) (rt':aw) (U':Pl):Prop where
 rok:eS w ρ' rt'
 inj:fp ρ'
 rtn:ij rt'
 keep:Keep N w ρ rt w ρ' rt'
 tr:∀q d v u,rt q=none→RepV w ρ rt (some (q,d)) v u→nh v→RepV w ρ' rt' (some (q,d)) v u
 lab:Lab w ρ' rt' U'
 nv:∀o r',rt' o=some r'→∃r,rt o=some r∧r'.nv=r.nv∧r'.s=r.s∧r'.es.length=r.es.length
 f0:∀b l,ρ' b=some (0,l)→ρ b=some (0,l)
theorem Keep.refl:Keep N w ρ rt w ρ rt:=⟨fun _ h _=>⟨h,rfl⟩,fun _ _ _ _ h=>⟨h,fun _ _ h1 h2=>⟨h1,h2⟩⟩,fun _ _ h=>⟨h,rfl⟩⟩
theorem Keep.trans {w'':World}(K:Keep N w ρ rt w' ρ' rt')(K':Keep N w' ρ' rt' w'' ρ'' rt'')(hs:w.heap.size≤w'.heap.size):Keep N w ρ rt w'' ρ'' rt'':=by
 refine⟨fun b hb hl=>?_,fun o nv p hN hl=>?_,fun b l h=>⟨(K'.k0 b l (K.k0 b l h).1).1,(K'.k0 b l (K.k0 b l h).1).2.trans (K.k0 b l h).2⟩⟩
 ·have h1:=K.k1 b hb hl
  have h2:=K'.k1 b h1.1 (by omega)
  exact⟨h2.1,h2.2.trans h1.2⟩
 ·have h2:=K'.k2 o nv p hN hl
  have h1:=K.k2 o nv p hN h2.1
  exact⟨h1.1,fun b n hb hn=>by
   obtain⟨h3,h4⟩:=h1.2 b n hb hn
   exact h2.2 b n h3 h4⟩
theorem Abs.refl (H:eS w ρ rt)(J:fp ρ)(hr:ij rt){U:Pl}(hL:Lab w ρ rt U):Abs N w ρ rt ρ rt U:=
 ⟨H,J,hr,Keep.refl,fun _ _ _ _ _ h _=>h,hL,fun o r h=>⟨r,h,rfl,rfl,rfl⟩,fun _ _ h=>h⟩
theorem Abs.gone {U:Pl}(a:Abs N w ρ rt ρ' rt' U){x:Nat}(h:rt x=none):rt' x=none:=by
 cases hx:rt' x with
 | none=>rfl
 | some r=>
  obtain⟨r',h',_⟩:=a.nv x r hx
  rw[h] at h'
  cases h'
theorem Abs.trans {U U':Pl}(a:Abs N w ρ rt ρ' rt' U)(b:Abs N w ρ' rt' ρ'' rt'' U'):Abs N w ρ rt ρ'' rt'' U':=
 ⟨b.rok,b.inj,b.rtn,a.keep.trans b.keep (Nat.le_refl _),fun q d v u hq h hn=>b.tr q d v u (a.gone hq) (a.tr q d v u hq h hn) hn,b.lab,fun o r h=>by
  obtain⟨r1,h1,e1,e2,e3⟩:=b.nv o r h
  obtain⟨r2,h2,e4,e5,e6⟩:=a.nv o r1 h1
  exact⟨r2,h2,e1.trans e4,e2.trans e5,e3.trans e6⟩,fun x l h=>a.f0 x l (b.f0 x l h)⟩
theorem Abs.weaken {U U':Pl}(a:Abs N w ρ rt ρ' rt' U)(h:∀o l,U o l→U' o l):Abs N w ρ rt ρ' rt' U':=
 { a with lab:=⟨fun b o l hb=>⟨(a.lab b o l hb).1,(a.lab b o l hb).2.imp (h o l) id⟩,a.lab.z,a.lab.f⟩ }
def atP (U:Pl)(q:Nat)(dst:List (Nat×Nat)):Pl:=fun o l=>U o l∨(o=q∧dst <+: l)
theorem S5 {o:Nat}{r:Root}{path:List (Nat×Nat)}(hro:rt o=some r)(h:fg rt o r path=some rt'):∀o' r',rt' o'=some r'→∃r,rt o'=some r∧r'.nv=r.nv∧r'.s=r.s∧r'.es.length=r.es.length:=by
 unfold fg at h
 intro o' r' h'
 split at h
 ·cases h
  by_cases he:o'=o
  ·simp[upd,he] at h'
  ·simp[upd,he] at h';exact⟨r',h',rfl,rfl,rfl⟩
 ·simp only[aV,ba] at h
  obtain⟨y,hy,e,he',es,hes,rfl⟩:=h
  by_cases he:o'=o
  ·simp[upd,he] at h';subst h';subst he
   exact⟨r,hro,rfl,rfl,qP hy hes (by simp)⟩
  ·simp[upd,he] at h';exact⟨r',h',rfl,rfl,rfl⟩
theorem BC (H:eS w ρ rt)(J:fp ρ)(hr:ij rt){U:Pl}(hL:Lab w ρ rt U){o nv q:Nat}{path dst:List (Nat×Nat)}{r:Root}{s:Nat}{es:List V}(hv:cy rt o nv path=some r)(hrow:bG path r.s r.es=some (s,es))(hq:∀l,¬U q (dst++l))(hq0:q≠0)(hq':rt q=none)(h:fg rt o r path=some rt'):Abs N w ρ rt (eZ ρ o path q dst) rt' (atP U q dst)∧cO w (eZ ρ o path q dst) rt' (q,dst) s es∧nhs es:=by
 have hro:=(eF hv).1
 have t:=Je (New:=N) H J hr hv hrow (q:=q) (dst:=dst) (fun b l hb=>by
  rcases (hL b q _ hb).2 with h | ⟨r,h⟩
  ·exact hq _ h
  ·rw[hq'] at h;cases h) hL.z h
 refine⟨⟨t.rok,t.inj,t.rtn,t.keep,fun q' d v u hq1 hv hn=>t.cell q' d v u (by rintro rfl;rw[hro] at hq1;cases hq1) hv hn,⟨fun b o' l hb=>?_,t.low 0 hL.z,fun b l hb=>?_⟩,S5 hro h,fun b l hb=>?_⟩,t.row,jQ (hr o r hro) hrow⟩
 ·rcases t.lab b o' l hb with⟨h1,h2⟩ | ⟨h1,h2⟩
  ·refine⟨?_,.inl (.inr ⟨h1,h2⟩)⟩
   rcases gx hb with⟨h3,_⟩ | ⟨_,_,_,h3⟩
   ·exact (hL _ _ _ h3).1
   ·exact (hL _ _ _ h3).1
  ·refine⟨(hL _ _ _ h1).1,?_⟩
   rcases (hL _ _ _ h1).2 with h3 | ⟨r',h3⟩
   ·exact .inl (.inl h3)
   ·by_cases he:o'=o
    ·subst he;exact .inr (h2 rfl)
    ·exact .inr ⟨r',by rw[t.oth _ he];exact h3⟩
 ·rcases gx hb with⟨h3,_⟩ | ⟨h3,_⟩
  ·exact hL.f _ _ h3
  ·exact absurd h3.symm hq0
 ·rcases gx hb with⟨h3,_⟩ | ⟨h3,_⟩
  ·exact h3
  ·exact absurd h3.symm hq0
theorem ni (H:eS w ρ rt)(J:fp ρ)(hr:ij rt){U:Pl}(hL:Lab w ρ rt U){q:Nat}{dst:List (Nat×Nat)}(hq:∀l,¬U q (dst++l))(hq0:q≠0)(hq':rt q=none){v v':V}{u:Value}(hv:RepV w ρ rt none v u)(hn:aB N v)(h:cS rt v=some (v',rt')):∃ρ',Abs N w ρ rt ρ' rt' (atP U q dst)∧RepV w ρ' rt' (some (q,dst)) v' u∧nh v'∧fx v'=true:=by
 unfold cS at h
 split at h
 ·rename_i o nv path s off len
  simp only[aV] at h
  obtain⟨r,hval,⟨s1,es⟩,hrow,h⟩:=h
  split at h
  ·rename_i hc
   simp only[ba] at h
   obtain⟨rt1,ht,h⟩:=h
   cases h
   obtain⟨h0,hlen,rfl⟩:=hc
   subst h0
   obtain⟨a,hrok,hesn⟩:=BC (N:=N) H J hr hL hval hrow hq hq0 hq' ht
   refine⟨_,a,?_,?_,rfl⟩
   ·have hlive:cV rt o nv path:=by simp[cV,cJ,hval,hrow]
    cases hv with
    | hs _ _ _ _ _ _ _ _ hh h1=>
     obtain⟨c,A,rfl,hlc,hcc⟩:=hh hlive
     by_cases hc0:c=0
     ·subst hc0
      have:len=0:=by omega
      subst this
      simpa using RepV.usl0 (w:=w) (ρ:=eZ ρ o path q dst) (rt:=rt') (q,dst) s A
     ·obtain⟨b,n,hb,⟨arr,T,hbb,rfl⟩,rfl,hle⟩:=hcc hc0
      have hb':eZ ρ o path q dst b=some (q,dst):=by simpa using la (q:=q) (dst:=dst) (l:=[]) (by simpa using hb)
      have hlen':len≤es.length:=hlen
      obtain⟨ts,hts⟩:∃ts,ts=es.take len:=⟨_,rfl⟩
      have hlt:ts.length=len:=by rw[hts,List.length_take];omega
      have ht':∀(i:Nat) (e:V),ts[i]?=some e→es[i]?=some e:=fun i e he=>by
       rw[hts,List.getElem?_take] at he
       split at he
       ·exact he
       ·cases he
      rw[←hts]
      rw[←hlt] at hlc ⊢
      rw[Nat.zero_add] at hle
      rcases hrok with rfl | ⟨b2,arr2,T2,g2,i1,i2,i3,i4,i5⟩
      ·have:ts=[]:=by simpa using hts
       subst this
       exact .usl _ s [] b (some ⟨b,0*s,none⟩) c arr T (fun _ _=>undef) hb' hbb hlc (fun _=>by rw[Nat.zero_mul]) hle (by simp) (by simp) (by simp)
      ·have:=a.inj b b2 _ hb' i1
       subst this
       rw[hbb] at i2
       cases i2
       exact .usl _ _ _ b _ c arr T g2 hb' hbb hlc (fun _=>by rw[Nat.zero_mul]) hle (fun i e he=>i3 i e (ht' i e he)) (fun i e k x he hx=>i4 i e k x (ht' i e he) hx) (fun i e k x he hx=>i5 i e k x (ht' i e he) hx)
   ·simp only[nh]
    exact dN.2 fun x hx=>dN.1 hesn x (List.mem_of_mem_take hx)
  ·cases h
 ·rename_i o nv path s i k
  simp only[aV] at h
  obtain⟨r,hval,⟨s1,es⟩,hrow,h⟩:=h
  simp only at h
  split at h
  ·rename_i e
   split at h
   ·rename_i hc
    obtain⟨rfl,rfl⟩:=hc
    simp only[ba] at h
    obtain⟨rt1,ht,h⟩:=h
    cases h
    obtain⟨a,hrok,hesn⟩:=BC (N:=N) H J hr hL hval hrow hq hq0 hq' ht
    refine⟨_,a,?_,by simpa[nh,nhs] using hesn,rfl⟩
    have hlive:cV rt o nv path:=by simp[cV,cJ,hval,hrow]
    cases hv with
    | hp _ _ _ _ _ _ _ _ hh h1=>
     obtain⟨b,n,hb,⟨arr,T,hbb,rfl⟩,rfl⟩:=hh hlive
     have hb':eZ ρ o path q dst b=some (q,dst):=by simpa using la (q:=q) (dst:=dst) (l:=[]) (by simpa using hb)
     rcases hrok with h | ⟨b2,arr2,T2,g2,i1,i2,i3,i4,i5⟩
     ·cases h
     ·have:=a.inj b b2 _ hb' i1
      subst this
      rw[hbb] at i2
      cases i2
      simp only[Nat.zero_mul,Nat.add_zero]
      exact .uptr _ e b arr T (g2 0) hb' hbb (fun k x hx=>by simpa using i4 0 e k x rfl hx) (fun k x hx=>i5 0 e k x rfl hx)
   ·cases h
  ·cases h
 ·split at h
  ·rename_i hp
   cases h
   refine⟨ρ,(Abs.refl H J hr hL).weaken fun o l h=>.inl h,?_,sA hp hn,?_⟩
   ·exact hv.place (by cases v<;>first | trivial | exact absurd hp (by simp[cZ]))
   ·cases v<;>first | rfl | exact absurd hp (by simp[cZ])
  ·cases h
def af5 (U:Pl)(q i k0 n:Nat):Pl:=fun o l=>U o l∨(o=q∧∃j,j<n∧[(i,k0+j)] <+: l)
theorem agq {x y:Nat×Nat}{l:List (Nat×Nat)}(h:[x] <+: [y]++l):x=y:=by
 obtain⟨t,ht⟩:=h
 simp at ht
 exact ht.1
theorem Ik {q i:Nat}:∀{vs vs':List V} {k0:Nat} {w:World} {ρ:bX} {rt rt':aw} {U:Pl} {g:Nat→Value},eS w ρ rt→fp ρ→ij rt→Lab w ρ rt U→(∀j l,k0≤j→¬U q ([(i,j)]++l))→q≠0→rt q=none→
  (∀(k:Nat) x,vs[k]?=some x→RepV w ρ rt none x (g k))→dG N vs→fO rt vs=some (vs',rt')→
  ∃ρ',Abs N w ρ rt ρ' rt' (af5 U q i k0 vs.length)∧vs'.length=vs.length∧∀(k:Nat) x,vs'[k]?=some x→RepV w ρ' rt' (some (q,[(i,k0+k)])) x (g k)∧nh x∧fx x=true
 | [],vs',k0,w,ρ,rt,rt',U,g,H,J,hr,hL,hq,hq0,hq',hv,hn,h=>by
  simp[fO] at h
  obtain⟨rfl,rfl⟩:=h
  exact⟨ρ,(Abs.refl H J hr hL).weaken fun o l h=>.inl h,rfl,by simp⟩
 | v::vs,vs',k0,w,ρ,rt,rt',U,g,H,J,hr,hL,hq,hq0,hq',hv,hn,h=>by
  simp only[fO,aV,ba] at h
  obtain⟨⟨x,rt1⟩,hx,⟨ys,rt2⟩,hys,h⟩:=h
  cases h
  simp only at hys
  obtain⟨ρ1,a1,r1,n1,c1⟩:=ni (N:=N) H J hr hL (q:=q) (dst:=[(i,k0)]) (fun l=>hq k0 l (Nat.le_refl _)) hq0 hq' (hv 0 v rfl) hn.1 hx
  obtain⟨ρ2,a2,l2,r2⟩:=Ik (k0:=k0+1) (g:=fun k=>g (k+1)) a1.rok a1.inj a1.rtn a1.lab (fun j l hj hu=>by
   rcases hu with hu | ⟨_,hu⟩
   ·exact hq j l (by omega) hu
   ·have:=agq hu
    cases this
    omega) hq0 (a1.gone hq') (fun k x hx=>(hv (k+1) x (by simpa using hx)).keep a1.keep (gD hn.2 hx)) hn.2 hys
  refine⟨ρ2,(a1.trans a2).weaken fun o l h=>?_,by simp[l2],fun k y hy=>?_⟩
  ·rcases h with (h | ⟨h,h'⟩) | ⟨h,j,hj,h'⟩
   ·exact .inl h
   ·exact .inr ⟨h,0,by simp,by simpa using h'⟩
   ·exact .inr ⟨h,j+1,by simp;omega,by rw[show k0+(j+1)=k0+1+j by omega];exact h'⟩
  ·cases k with
   | zero=>
    simp at hy
    subst hy
    exact⟨a2.tr _ _ _ _ (a1.gone hq') r1 n1,n1,c1⟩
   | succ k=>
    have:=r2 k y (by simpa using hy)
    rwa[show k0+1+k=k0+(k+1) by omega] at this
theorem yq (H:eS w ρ rt)(J:fp ρ)(hr:ij rt){U:Pl}(hL:Lab w ρ rt U){q i:Nat}(hq:∀j l,¬U q ([(i,j)]++l))(hq0:q≠0)(hq':rt q=none){v v':V}{u:Value}(hv:bm w ρ rt ca v u)(hn:aB N v)(h:il rt v=some (v',rt')):∃ρ',Abs N w ρ rt ρ' rt' (af5 U q i 0 (cells v).length)∧bm w ρ' rt' (fun k=>some (q,[(i,k)])) v' u∧nh v'∧aA v'=aA v∧(cells v').length=(cells v).length∧(cells v').all fx=true:=by
 by_cases ha:aA v=true
 ·cases v<;>simp[aA] at ha
  rename_i cs
  simp only[il,ba] at h
  obtain⟨⟨ys,rt1⟩,hys,h⟩:=h
  cases h
  obtain⟨g,rfl,hg⟩:=wD hv
  obtain⟨ρ',a,l,r⟩:=Ik (N:=N) (i:=i) (k0:=0) H J hr hL (fun j l _=>hq j l) hq0 hq' hg (by simpa[aB] using hn) hys
  refine⟨ρ',a,⟨g,by simp[fT,aA,cells,l],fun k x hx=>by simpa using (r k x hx).1⟩,?_,rfl,l,?_⟩
  ·simp only[nh]
   refine dN.2 fun x hx=>?_
   obtain⟨k,hk⟩:=List.mem_iff_getElem?.1 hx
   exact (r k x hk).2.1
  ·refine List.all_eq_true.2 fun x hx=>?_
   obtain⟨k,hk⟩:=List.mem_iff_getElem?.1 hx
   exact (r k x hk).2.2
 ·have ha':aA v=false:=by simpa using ha
  have h':cS rt v=some (v',rt'):=by
   cases v<;>first | exact h | exact absurd rfl ha
  obtain⟨ρ',a,r,n,c⟩:=ni (N:=N) H J hr hL (q:=q) (dst:=[(i,0)]) (hq 0) hq0 hq' (bm.one ha' hv) hn h'
  have hc:aA v'=false:=by cases v'<;>first | rfl | exact absurd c (by simp[fx])
  refine⟨ρ',a.weaken fun o l h=>?_,bm.mk1 hc r,n,by rw[hc,ha'],by rw[cl hc,cl ha'];rfl,by simp[cl hc,c]⟩
  rcases h with h | ⟨h,h'⟩
  ·exact .inl h
  ·exact .inr ⟨h,0,by simp[cl ha'],by simpa using h'⟩
def ahA (U:Pl)(q i0 n:Nat):Pl:=fun o l=>U o l∨(o=q∧∃i k,i<n∧[(i0+i,k)] <+: l)
theorem bm.tr {U:Pl}(a:Abs N w ρ rt ρ' rt' U){q i:Nat}{v:V}{u:Value}(hq:rt q=none)(h:bm w ρ rt (fun k=>some (q,[(i,k)])) v u)(hn:nh v):bm w ρ' rt' (fun k=>some (q,[(i,k)])) v u:=by
 obtain⟨g,hu,hg⟩:=h
 exact⟨g,hu,fun k x hx=>a.tr _ _ _ _ hq (hg k x hx) (cr hn hx)⟩
theorem qL {q:Nat}:∀{vs vs':List V} {i0:Nat} {w:World} {ρ:bX} {rt rt':aw} {U:Pl} {g:Nat→Value},eS w ρ rt→fp ρ→ij rt→Lab w ρ rt U→(∀i j l,i0≤i→¬U q ([(i,j)]++l))→q≠0→rt q=none→
  (∀(i:Nat) x,vs[i]?=some x→bm w ρ rt ca x (g i))→dG N vs→d3 rt vs=some (vs',rt')→
  ∃ρ',Abs N w ρ rt ρ' rt' (ahA U q i0 vs.length)∧vs'.length=vs.length∧∀(i:Nat) x y,vs'[i]?=some x→vs[i]?=some y→bm w ρ' rt' (fun k=>some (q,[(i0+i,k)])) x (g i)∧nh x∧aA x=aA y∧(cells x).length=(cells y).length∧(cells x).all fx=true
 | [],vs',i0,w,ρ,rt,rt',U,g,H,J,hr,hL,hq,hq0,hq',hv,hn,h=>by
  simp[d3] at h
  obtain⟨rfl,rfl⟩:=h
  exact⟨ρ,(Abs.refl H J hr hL).weaken fun o l h=>.inl h,rfl,by simp⟩
 | v::vs,vs',i0,w,ρ,rt,rt',U,g,H,J,hr,hL,hq,hq0,hq',hv,hn,h=>by
  simp only[d3,aV,ba] at h
  obtain⟨⟨x,rt1⟩,hx,⟨ys,rt2⟩,hys,h⟩:=h
  cases h
  simp only at hys
  obtain⟨ρ1,a1,r1,n1,c1,d1,e1⟩:=yq (N:=N) H J hr hL (q:=q) (i:=i0) (fun j l=>hq i0 j l (Nat.le_refl _)) hq0 hq' (hv 0 v rfl) hn.1 hx
  obtain⟨ρ2,a2,l2,r2⟩:=qL (i0:=i0+1) (g:=fun k=>g (k+1)) a1.rok a1.inj a1.rtn a1.lab (fun i j l hi hu=>by
   rcases hu with hu | ⟨_,j',_,hu⟩
   ·exact hq i j l (by omega) hu
   ·have:=agq hu
    cases this
    omega) hq0 (a1.gone hq') (fun k x hx=>(hv (k+1) x (by simpa using hx)).keep a1.keep (gD hn.2 hx)) hn.2 hys
  refine⟨ρ2,(a1.trans a2).weaken fun o l h=>?_,by simp[l2],fun k y z hy hz=>?_⟩
  ·rcases h with (h | ⟨h,j,_,h'⟩) | ⟨h,i,k,hj,h'⟩
   ·exact .inl h
   ·exact .inr ⟨h,0,j,by simp,by simpa using h'⟩
   ·exact .inr ⟨h,i+1,k,by simp;omega,by rw[show i0+(i+1)=i0+1+i by omega];exact h'⟩
  ·cases k with
   | zero=>
    simp at hy hz
    subst hy hz
    exact⟨bm.tr a2 (a1.gone hq') r1 n1,n1,c1,d1,e1⟩
   | succ k=>
    have:=r2 k y z (by simpa using hy) (by simpa using hz)
    rwa[show i0+1+k=i0+(k+1) by omega] at this
end
section
variable {w w' : World} {ρ ρ' ρ'' : bX} {rt rt' rt'' : aw} {N : Nat→Nat→Prop}
def iD (ρ:bX)(b:Nat)(L:dJ):bX:=fun x=>if x=b then some L else ρ x
structure Wk (w w':World):Prop where
 os:w'.os=w.os
 out:w'.output=w.output
 tape:w'.tape=w.tape
 size:w.heap.size≤w'.heap.size
 blk:∀b n,lH w b n→lH w' b n
theorem Wk.refl:Wk w w:=⟨rfl,rfl,rfl,Nat.le_refl _,fun _ _ h=>h⟩
theorem Wk.push {arr:Array Value}{T:TypeId}(hw:w'.heap=w.heap.push (.cells arr T (0,0)))(hos:w'.os=w.os)(hout:w'.output=w.output)(htape:w'.tape=w.tape):Wk w w':=
 ⟨hos,hout,htape,by rw[hw];simp,fun b n ⟨a,t,h1,h2⟩=>⟨a,t,by rw[hw,Array.getElem?_push,if_neg (by have:=rk h1;omega)];exact h1,h2⟩⟩
theorem Wk.trans {w'':World}(a:Wk w w')(b:Wk w' w''):Wk w w'':=⟨b.os.trans a.os,b.out.trans a.out,b.tape.trans a.tape,Nat.le_trans a.size b.size,fun c n h=>b.blk c n (a.blk c n h)⟩
def kC:Pl:=fun o _=>o=0
structure Eff (N:Nat→Nat→Prop) (w:World) (ρ:bX) (rt:aw) (w':World) (ρ':bX) (rt':aw) (id:Nat):Prop where
 rok:eS w' ρ' rt'
 inj:fp ρ'
 rtn:ij rt'
 keep:Keep N w ρ rt w' ρ' rt'
 lab:Lab w' ρ' rt' kC
 wk:Wk w w'
 nv:∀o r',rt' o=some r'→(∃r,rt o=some r∧r.nv≤r'.nv)∨(id≤o∧o<id+cH)
 f0:∀b l,ρ' b=some (0,l)→ρ b=some (0,l)
theorem XR {at_:Nat→Option dJ}{x y:V}{g:Nat→Value}(h:bm w ρ rt at_ x (fT y g))(ha:aA x=aA y)(hl:(cells x).length=(cells y).length):∀(k:Nat) z,(cells x)[k]?=some z→RepV w ρ rt (at_ k) z (g k):=by
 obtain⟨g',hu,hg⟩:=h
 intro k z hz
 have hk:=(cX.1 hz).1
 have:g k=g' k:=by
  unfold fT at hu
  rw[ha] at hu
  split at hu
  ·injection hu with hu
   have h1:=congrArg (fun a:Array Value=>a[k]?) hu
   have e1:(dQ (cells y).length g)[k]?=some (g k):=jx (by omega)
   have e2:(dQ (cells x).length g')[k]?=some (g' k):=jx hk
   simp only[e1,e2] at h1
   simpa using h1
  ·rename_i hna
   have hx:aA x=false:=by rw[ha];simpa using hna
   rw[cl hx] at hk
   have:k=0:=by simpa using hk
   subst this
   exact hu
 rw[this]
 exact hg k z hz
theorem newRoot (H:eS w ρ rt)(J:fp ρ)(hr:ij rt){U:Pl}(hL:Lab w ρ rt U){id:Nat}(hp:0<id)(hU:∀o l,U o l→o=0∨(o=id∧l≠[]))(d5:rt id=none)(hN:∀nv,N id nv){arr:Array Value}{T:TypeId}(hw:w'.heap=w.heap.push (.cells arr T (0,0))){es:List V}{s:Nat}{g:Nat→Nat→Value}(hs:∀(i:Nat) (e:V),es[i]?=some e→(cells e).length=s)(hc:∀(i:Nat) (e:V) k x,es[i]?=some e→(cells e)[k]?=some x→arr[i*s+k]?=some (g i k))(hR:∀(i:Nat) (e:V) k x,es[i]?=some e→(cells e)[k]?=some x→RepV w ρ rt (some (id,[(i,k)])) x (g i k))(hn:nhs es) :
  eS w' (iD ρ w.heap.size (id,[])) (upd rt id (some ⟨0,s,es⟩))∧fp (iD ρ w.heap.size (id,[]))∧ij (upd rt id (some ⟨0,s,es⟩))∧Keep N w ρ rt w' (iD ρ w.heap.size (id,[])) (upd rt id (some ⟨0,s,es⟩))∧
   Lab w' (iD ρ w.heap.size (id,[])) (upd rt id (some ⟨0,s,es⟩)) kC:=by
 have hnew:w'.heap[w.heap.size]?=some (.cells arr T (0,0)):=by rw[hw];simp
 have hold:∀b,b<w.heap.size→w'.heap[b]?=w.heap[b]?:=fun b hb=>by
  rw[hw,Array.getElem?_push,if_neg (by omega)]
 have hoth:∀b l,ρ b=some l→iD ρ w.heap.size (id,[]) b=some l∧w'.heap[b]?=w.heap[b]?:=fun b l hb=>by
  have:=(hL b l.1 l.2 hb).1
  exact⟨by simp[iD,Nat.ne_of_lt this,hb],hold b this⟩
 have K:Keep N w ρ rt w' (iD ρ w.heap.size (id,[])) (upd rt id (some ⟨0,s,es⟩)):=by
  refine⟨fun b hb hl=>⟨by simp[iD,Nat.ne_of_lt hl,hb],hold b hl⟩,fun o nv p hNo hl=>?_,fun b l hb=>hoth b _ hb⟩
  have hne:o≠id:=by rintro rfl;exact hNo (hN nv)
  refine⟨by simpa[cV,cJ,cy,upd,hne] using hl,fun b n hb hbl=>?_⟩
  have:=hoth b _ hb
  refine⟨this.1,?_⟩
  obtain⟨arr',T',h1,h2⟩:=hbl
  exact⟨arr',T',by rw[this.2];exact h1,h2⟩
 refine⟨?_,?_,?_,K,?_⟩
 ·intro o r h
  by_cases ho:o=id
  ·subst ho
   simp[upd] at h
   subst h
   refine .inr ⟨w.heap.size,arr,T,g,by simp[iD],hnew,hs,hc,fun i e k x he hx=>?_⟩
   exact RepV.under K (fun b l hb _=>hoth b _ hb) (hR i e k x he hx) (cr (dj hn he) hx)
  ·simp[upd,ho] at h
   exact cO.under K (fun b l hb _=>hoth b _ hb) (H o r h) (hr o r h)
 ·intro b b' L h h'
  unfold iD at h h'
  split at h<;>split at h'
  ·simp_all
  ·cases h
   exfalso
   rcases (hL b' _ _ h').2 with hu | ⟨r,hu⟩
   ·rcases hU _ _ hu with h | h
    ·omega
    ·exact h.2 rfl
   ·rw[d5] at hu;cases hu
  ·cases h'
   exfalso
   rcases (hL b _ _ h).2 with hu | ⟨r,hu⟩
   ·rcases hU _ _ hu with h | h
    ·omega
    ·exact h.2 rfl
   ·rw[d5] at hu;cases hu
  ·exact J _ _ _ h h'
 ·intro o r h
  by_cases ho:o=id
  ·simp[upd,ho] at h
   subst h
   exact hn
  ·simp[upd,ho] at h
   exact hr o r h
 ·refine⟨fun b o l h=>?_,by simp[upd,Nat.ne_of_lt hp,hL.z],fun b l h=>?_⟩
  rotate_left
  ·unfold iD at h
   split at h
   ·cases h;exact absurd hp (Nat.lt_irrefl _)
   ·exact hL.f b l h
  unfold iD at h
  split at h
  ·cases h
   rename_i hb
   subst hb
   exact⟨by rw[hw];simp,.inr ⟨⟨0,s,es⟩,by simp[upd]⟩⟩
  ·have:=hL b o l h
   refine⟨by rw[hw];simp;omega,?_⟩
   by_cases ho:o=id
   ·exact .inr ⟨⟨0,s,es⟩,by simp[upd,ho]⟩
   ·rcases this.2 with hu | ⟨r,hu⟩
    ·rcases hU _ _ hu with h | h
     ·exact .inl h
     ·exact absurd h.1 ho
    ·exact .inr ⟨r,by simp[upd,ho,hu]⟩
theorem Abs.newRoot {U:Pl}(a:Abs N w ρ rt ρ' rt' U){id:Nat}(hp:0<id)(hU:∀o l,U o l→o=0∨(o=id∧l≠[]))(d5:rt id=none)(hN:∀nv,N id nv){arr:Array Value}{T:TypeId}(hw:w'.heap=w.heap.push (.cells arr T (0,0)))(hos:w'.os=w.os)(hout:w'.output=w.output)(htape:w'.tape=w.tape){es:List V}{s:Nat}{g:Nat→Nat→Value}(hs:∀(i:Nat) (e:V),es[i]?=some e→(cells e).length=s)(hc:∀(i:Nat) (e:V) k x,es[i]?=some e→(cells e)[k]?=some x→arr[i*s+k]?=some (g i k))(hR:∀(i:Nat) (e:V) k x,es[i]?=some e→(cells e)[k]?=some x→RepV w ρ' rt' (some (id,[(i,k)])) x (g i k))(hn:nhs es) :
  Eff N w ρ rt w' (iD ρ' w.heap.size (id,[])) (upd rt' id (some ⟨0,s,es⟩)) id:=by
 obtain⟨h1,h2,h3,h4,h5⟩:=Ln.newRoot a.rok a.inj a.rtn a.lab hp hU (a.gone d5) hN hw hs hc hR hn
 refine⟨h1,h2,h3,a.keep.trans h4 (Nat.le_refl _),h5,Wk.push hw hos hout htape,fun o r h=>?_,fun b l h=>?_⟩
 rotate_left
 ·unfold iD at h
  split at h
  ·cases h;exact absurd hp (Nat.lt_irrefl _)
  ·exact a.f0 b l h
 by_cases ho:o=id
 ·subst ho;exact .inr ⟨Nat.le_refl _,by simp[cH]⟩
 ·simp[upd,ho] at h
  obtain⟨r',h',e,_⟩:=a.nv o r h
  exact .inl ⟨r',h',by omega⟩
theorem QU {arr:Array Value}{T:TypeId}(hw:w'.heap=w.heap.push (.cells arr T (0,0))):lH w' w.heap.size arr.size:=⟨arr,T,by rw[hw];simp,rfl⟩
theorem XB {id nv s:Nat}{arr:Array Value}{T:TypeId}(hw:w'.heap=w.heap.push (.cells arr T (0,0))):RepV w' (iD ρ w.heap.size (id,[])) rt none (.hp id nv [] s 0 0) (.pointer (some ⟨w.heap.size,0,none⟩)):=
 .hp _ _ _ _ _ _ _ _ (fun _=>⟨w.heap.size,_,by simp[iD],QU hw,by simp⟩) trivial
theorem Oz {id nv s len c:Nat}{arr:Array Value}{T:TypeId}(hw:w'.heap=w.heap.push (.cells arr T (0,0)))(hlc:len≤c)(hcs:c*s≤arr.size):RepV w' (iD ρ w.heap.size (id,[])) rt none (.hs id nv [] s 0 len) (.slice (some ⟨w.heap.size,0,none⟩) len c):=
 .hs _ _ _ _ _ _ _ _ (fun _=>⟨c,_,rfl,hlc,fun _=>⟨w.heap.size,_,by simp[iD],QU hw,by simp,by simpa using hcs⟩⟩) trivial
theorem qi {at_:Nat→Option dJ}{v:V}{u:Value}(h:bm w ρ rt at_ v u)(hp:(cells v).all fx=true):∃g,u=fT v g∧u.cells=dQ (cells v).length g∧∀k x,(cells v)[k]?=some x→RepV w ρ rt (at_ k) x (g k):=by
 obtain⟨g,rfl,hg⟩:=h
 refine⟨g,rfl,?_,hg⟩
 by_cases ha:aA v=true
 ·simp[fT,ha,Value.cells]
 ·have ha':aA v=false:=by simpa using ha
  have hc:=cl ha'
  have h1:=vp (hg 0 v (by simp[hc])) (by rw[hc] at hp;simpa using hp)
  rw[show fT v g=g 0 by simp[fT,ha'],h1.cells,hc]
  rfl
end
section
variable {w w' : World} {ρ ρ' ρ'' : bX} {rt rt' rt'' : aw} {N : Nat→Nat→Prop}
structure Fresh (Un:Nat→Prop) (rt:aw) (id:Nat):Prop where
 f:∀o,Un o→rt o=none
 u:∀o,id≤o→o<id+cH→Un o
 p:0<id
theorem Fresh.uid {Un:Nat→Prop}{rt:aw}{id:Nat}(h:Fresh Un rt id):Un id:=h.u id (Nat.le_refl _) (by unfold cH;omega)
theorem Fresh.at {Un:Nat→Prop}{rt:aw}{id:Nat}(h:Fresh Un rt id):rt id=none:=h.f id h.uid
structure Fresh0 (rt:aw) (id:Nat):Prop where
 at':rt id=none
 p:0<id
theorem Fresh.one {Un:Nat→Prop}{rt:aw}{id:Nat}(h:Fresh Un rt id):Fresh0 rt id:=⟨h.at,h.p⟩
def wo (Un:Nat→Prop)(id:Nat):Nat→Prop:=fun o=>Un o∧¬(id≤o∧o<id+cH)
def cF (Un:Nat→Prop)(rt:aw)(o nv:Nat):Prop:=Un o∨∃r,rt o=some r∧r.nv<nv
def lB (Un:Nat→Prop)(w:World)(ρ:bX)(rt:aw)(id:Nat)(v:V)(rt':aw)(u:Value)(w':World):Prop:=
 ∃ρ',Eff (cF Un rt) w ρ rt w' ρ' rt' id∧bm w' ρ' rt' ca v u∧aB (cF (wo Un id) rt') v
theorem aaz {i s:Nat}{v:V}:∀{es:List V},(∀e∈es,(cells e).length=s)→i<es.length→(es.set i v).flatMap cells=(es.flatMap cells).take (i*s)++cells v++(es.flatMap cells).drop (i*s+s):=by
 induction i with
 | zero=>
  intro es hs hi
  cases es with
  | nil=>simp at hi
  | cons e es=>
   have he:=hs e (by simp)
   simp[←he]
 | succ i ih=>
  intro es hs hi
  cases es with
  | nil=>simp at hi
  | cons e es=>
   have he:=hs e (by simp)
   have:=ih (es:=es) (fun e he=>hs e (by simp[he])) (by simpa using hi)
   simp only[List.set_cons_succ,List.flatMap_cons,this]
   have h1:((i+1)*s)=(cells e).length+i*s:=by rw[he,Nat.succ_mul];omega
   rw[h1,List.take_length_add_append,Nat.add_assoc,List.drop_length_add_append]
   simp[List.append_assoc]
theorem DU {s:Nat}:∀{es:List V} {i k:Nat} {e x:V},(∀e∈es,(cells e).length=s)→es[i]?=some e→(cells e)[k]?=some x→(es.flatMap cells)[i*s+k]?=some x
 | [],i,k,e,x,hs,he,hx=>by simp at he
 | e0::es,0,k,e,x,hs,he,hx=>by
  simp at he
  subst he
  have hk:=(cX.1 hx).1
  simp only[List.flatMap_cons,Nat.zero_mul,Nat.zero_add]
  rw[mt hk]
  exact hx
 | e0::es,i+1,k,e,x,hs,he,hx=>by
  have ih:=DU (es:=es) (i:=i) (fun e he=>hs e (by simp[he])) (by simpa using he) hx
  have h0:=hs e0 (by simp)
  simp only[List.flatMap_cons]
  rw[ph (by rw[h0,Nat.succ_mul];omega),←ih]
  congr 1
  rw[h0,Nat.succ_mul]
  omega
theorem su {s:Nat}:∀{es:List V},(∀e∈es,(cells e).length=s)→(es.flatMap cells).length=es.length*s
 | [],h=>by simp
 | e::es,h=>by
  simp only[List.flatMap_cons,List.length_append,List.length_cons]
  rw[su fun e he=>h e (by simp[he]),h e (by simp),Nat.succ_mul]
  omega
theorem Bv {s:Nat}{a:Bool}:∀{pv:List (Nat×V)} {es es':List V},(∀e∈es,(cells e).length=s)→kr s a es pv=some es'→nm (fun i=>some (i*s,s)) (es.flatMap cells) pv=some (es'.flatMap cells)
 | [],es,es',hs,h=>by simp[kr] at h;simp[nm,h]
 | (i,v)::pv,es,es',hs,h=>by
  simp only[kr] at h
  split at h
  ·rename_i hc
   obtain⟨h1,h2,h3,h4⟩:=hc
   have hs':∀e∈es.set i v,(cells e).length=s:=fun e he=>by
    rcases List.mem_or_eq_of_mem_set he with h | h
    ·exact hs e h
    ·rw[h];exact h2
   have:=Bv hs' h
   simp only[nm]
   rw[if_pos,←aaz hs h1]
   ·exact this
   ·refine⟨h2,?_,h4⟩
    rw[su hs]
    have:i*s+s=(i+1)*s:=by rw[Nat.succ_mul]
    rw[this]
    exact Nat.mul_le_mul_right _ h1
  ·cases h
theorem I0 {s:Nat}{a:Bool}:∀{pv:List (Nat×V)} {es es':List V},kr s a es pv=some es'→es'.length=es.length∧∀e∈es',e∈es∨((cells e).length=s∧aA e=a∧∃p∈pv,p.2=e)
 | [],es,es',h=>by simp[kr] at h;subst h;exact⟨rfl,fun e he=>.inl he⟩
 | (i,v)::pv,es,es',h=>by
  simp only[kr] at h
  split at h
  ·rename_i hc
   obtain⟨l,ih⟩:=I0 h
   refine⟨by simpa using l,fun e he=>?_⟩
   rcases ih e he with h1 | ⟨h1,h2,p,hp,h3⟩
   ·rcases List.mem_or_eq_of_mem_set h1 with h | h
    ·exact .inl h
    ·exact .inr ⟨by rw[h];exact hc.2.1,by rw[h];exact hc.2.2.1,(i,v),by simp,h.symm⟩
   ·exact .inr ⟨h1,h2,p,by simp[hp],h3⟩
  ·cases h
theorem aaQ {n s k i:Nat}(hk:k<s):(i*s+k) % s=k:=by rw[Nat.mul_comm,Nat.mul_add_mod,Nat.mod_eq_of_lt hk]
theorem tv {z:Array Value}{n s i k:Nat}(hz:z.size=s)(hi:i<n)(hk:k<s):(madeCells z (n*s))[i*s+k]?=z[k]?:=by
 have hlt:i*s+k<n*s:=by
  have:(i+1)*s≤n*s:=Nat.mul_le_mul_right _ hi
  rw[Nat.succ_mul] at this
  omega
 simp[madeCells,hlt,hz,aaQ (n:=0) hk,hk]
theorem Ja {at_:Nat→Option dJ}{v:V}{u:Value}(h:bm w ρ rt at_ v u)(hp:(cells v).all fx=true){k:Nat}{x:V}(hx:(cells v)[k]?=some x):u.cells[k]?=some (u.cells.getD k undef)∧RepV w ρ rt (at_ k) x (u.cells.getD k undef):=by
 obtain⟨g,_,hg2,hg3⟩:=qi h hp
 have hk:=(cX.1 hx).1
 have:u.cells[k]?=some (g k):=by rw[hg2];exact jx hk
 obtain⟨hlt,e⟩:=oE.1 this
 have hgd:u.cells.getD k undef=g k:=by simp[Array.getD,hlt,e]
 rw[hgd]
 exact⟨this,hg3 k x hx⟩
section
variable {P : Program} {E : Env} (A : Agree P E) {st : St} {a : Act} {o : Oper} (H : eS w ρ st.rt) (J : fp ρ) (T : kc w ρ st.rt st.tm a.tmps) (hr : ij st.rt) (hL : Lab w ρ st.rt kC) {Un : Nat→Prop} {id : Nat} (hm : Bf (cF Un st.rt) st.tm) (hi : Fresh Un st.rt id)
include A H J T hr hL hm hi
theorem IO {s:Nat}{es:List V}:aB (cF (wo Un id) (upd rt id (some ⟨0,s,es⟩))) (.hp id 0 [] s 0 0):=by
 simp only[aB,cF,wo,cH]
 rintro (⟨_,h⟩ | ⟨r,h,h'⟩)
 ·omega
 ·omega
theorem kN {s n m:Nat}{es:List V}:aB (cF (wo Un id) (upd rt id (some ⟨0,s,es⟩))) (.hs id 0 [] s n m):=by
 simp only[aB,cF,wo,cH]
 rintro (⟨_,h⟩ | ⟨r,h,h'⟩)
 ·omega
 ·omega
theorem adg {t:TypeId}{v:V}{rt':aw}(ho:o.op=.alloc t)(h:bF E id st o.op=some (v,rt')) :
  ∃u w',(execOp a.eval o).run P w=.ok (.value u) w'∧lB Un w ρ st.rt id v rt' u w':=by
 rw[ho] at h
 simp only[bF,aV,ba] at h
 obtain⟨ti,hti,z,hz,h⟩:=h
 cases h
 have hzr:=mQ A hti w
 obtain⟨g,hg1,hg2,hg3⟩:=qi (jH (w:=w) (ρ:=ρ) (rt:=st.rt) hz (fun k=>some (id,[(0,k)]))) (iM hz)
 have hN:∀nv,cF Un st.rt id nv:=fun nv=>.inl hi.uid
 refine⟨.pointer (some ⟨w.heap.size,0,none⟩),w.alloc (.cells ti.zv.cells t),?_,iD ρ w.heap.size (id,[]),?_,bm.mk1 rfl (XB rfl),IO A H J T hr hL hm hi⟩
 ·simp[execOp,ho,Instr.alloc,Sem.run_bind,hzr,Result.andThen,newVar,newRow]
 ·refine Abs.newRoot (w':=w.alloc (.cells ti.zv.cells t)) (es:=[z]) (T:=t) (g:=fun _ k=>g k) (Abs.refl H J hr hL) hi.p (fun o l h=>.inl h) (hi.at) hN rfl rfl rfl rfl ?_ ?_ ?_ (by simpa[nhs] using pW hz)
  ·intro i e he
   cases i<;>simp at he
   rw[he]
  ·intro i e k x he hx
   cases i<;>simp at he
   subst he
   rw[hg2,Nat.zero_mul,Nat.zero_add]
   exact jx (cX.1 hx).1
  ·intro i e k x he hx
   cases i<;>simp at he
   subst he
   exact hg3 k x hx
theorem ahn {t:TypeId}{x:Operand}{v:V}{rt':aw}(ho:o.op=.box t x)(h:bF E id st o.op=some (v,rt')) :
  ∃u w',(execOp a.eval o).run P w=.ok (.value u) w'∧lB Un w ρ st.rt id v rt' u w':=by
 rw[ho] at h
 simp only[bF,aV,ba] at h
 obtain⟨xv,hx,⟨y,rt1⟩,hy,h⟩:=h
 cases h
 have d5:=hi.at
 obtain⟨ρ1,ab,sl,yn,ya,yl,yc⟩:=yq (N:=cF Un st.rt) (i:=0) H J hr hL (q:=id) (fun j l h=>absurd hi.p (by simp only[kC] at h;omega)) (Nat.ne_of_gt hi.p) d5 (cU T hx) (gN hm hx) hy
 obtain⟨g,hg1,hg2,hg3⟩:=qi sl yc
 have hN:∀nv,cF Un st.rt id nv:=fun nv=>.inl hi.uid
 refine⟨.pointer (some ⟨w.heap.size,0,none⟩),w.alloc (.cells (a.eval x).cells t),?_,iD ρ1 w.heap.size (id,[]),?_,bm.mk1 rfl (XB rfl),IO A H J T hr hL hm hi⟩
 ·simp[execOp,ho,Instr.box,Sem.run_bind,Result.andThen,newVar,newRow]
 ·refine Abs.newRoot (w':=w.alloc (.cells (a.eval x).cells t)) (es:=[y]) (T:=t) (g:=fun _ k=>g k) ab hi.p ?_ d5 hN rfl rfl rfl rfl ?_ ?_ ?_ (by simpa[nhs] using yn)
  ·rintro o l (h | ⟨h,j,_,h'⟩)
   ·exact .inl h
   ·refine .inr ⟨h,?_⟩
    rintro rfl
    simp at h'
  ·intro i e he
   cases i<;>simp at he
   rw[he]
  ·intro i e k x he hx
   cases i<;>simp at he
   subst he
   rw[hg2,Nat.zero_mul,Nat.zero_add]
   exact jx (cX.1 hx).1
  ·intro i e k x he hx
   cases i<;>simp at he
   subst he
   exact hg3 k x hx
theorem Ql {t:TypeId}{x y:Operand}{v:V}{rt':aw}(ho:o.op=.makeSlice t x y)(h:bF E id st o.op=some (v,rt')) :
  ∃u w',(execOp a.eval o).run P w=.ok (.value u) w'∧lB Un w ρ st.rt id v rt' u w':=by
 rw[ho] at h
 simp only[bF,aV] at h
 obtain⟨lv,hlv,cv,hcv,h⟩:=h
 split at h
 ·rename_i e sz bt zv l c htt
  simp only[aV] at h
  obtain⟨ei,hei,z,hz,h⟩:=h
  split at h
  ·rename_i hc
   cases h
   obtain⟨c1,c2,c3,c4,c5,c6,c7⟩:=hc
   obtain⟨i,hi1,hi2,hi3,hi4⟩:=A.info e ei hei
   have hu:=A.und t _ htt
   simp only at hu
   have e1:=je (cU T hlv)
   have e2:=je (cU T hcv)
   have hzc:ei.zv.cells.size=ei.size:=by
    have:=(vu (jH (w:=w) (ρ:=ρ) (rt:=st.rt) hz ca) (iM hz)).1
    rw[←this];exact c6
   have hc0:0≤c:=by omega
   have hcc:((c.toNat:Nat):Int)=c:=by omega
   have hrun:=run_make (P:=P) w t e i ei.zv hu hi1 hi4 .i64 .i64 l c c1 c2 (by rw[hi3,Int.mul_comm];have:(mX:Int)=1099511627776:=rfl;omega) (by have:(mX:Int)=1099511627776:=rfl;omega)
   have hN:∀nv,cF Un st.rt id nv:=fun nv=>.inl hi.uid
   refine⟨.slice (some ⟨w.heap.size,0,none⟩) l.toNat c.toNat,w.alloc (.cells (madeCells ei.zv.cells (c.toNat*i.size)) e),?_,iD ρ w.heap.size (id,[]),?_,bm.mk1 rfl (Oz rfl (by omega) (by rw[size_madeCells,hi2];exact Nat.le_refl _)),kN A H J T hr hL hm hi⟩
   ·simp only[execOp,ho,Sem.run_bind,e1,e2,hrun,Result.andThen,Sem.run_pure]
   ·refine Abs.newRoot (w':=w.alloc (.cells (madeCells ei.zv.cells (c.toNat*i.size)) e)) (es:=List.replicate l.toNat z) (T:=e) (g:=fun i k=>ei.zv.cells.getD k undef) (Abs.refl H J hr hL) hi.p (fun o l h=>.inl h) (hi.at) hN rfl rfl rfl rfl ?_ ?_ ?_ ?_
    ·intro i e he
     have:=List.eq_of_mem_replicate (iO he)
     rw[this];exact c6
    ·intro j e k x he hx
     have hj:=(cX.1 he).1
     have:=List.eq_of_mem_replicate (iO he)
     subst this
     have hk:=(cX.1 hx).1
     rw[hi2,tv hzc (by simp at hj;omega) (by omega)]
     exact (Ja (jH (w:=w) (ρ:=ρ) (rt:=st.rt) hz ca) (iM hz) hx).1
    ·intro j e k x he hx
     have:=List.eq_of_mem_replicate (iO he)
     subst this
     exact (Ja (jH (w:=w) (ρ:=ρ) (rt:=st.rt) hz (fun k=>some (id,[(j,k)]))) (iM hz) hx).2
    ·refine dN.2 fun x hx=>?_
     rw[List.eq_of_mem_replicate hx]
     exact pW hz
  ·cases h
 ·cases h
theorem Oy {t:TypeId}{n:Nat}{ps:Array (Nat×Operand)}{v:V}{rt':aw}(ho:o.op=.buildSlice t n ps)(h:bF E id st o.op=some (v,rt')) :
  ∃u w',(execOp a.eval o).run P w=.ok (.value u) w'∧lB Un w ρ st.rt id v rt' u w':=by
 rw[ho] at h
 simp only[bF,aV] at h
 obtain⟨pv,hpv,h⟩:=h
 split at h
 ·rename_i e sz bt zv htt
  simp only[aV] at h
  obtain⟨ei,hei,z,hz,h⟩:=h
  split at h
  ·rename_i hc
   obtain⟨c1,c2,c3,c4⟩:=hc
   simp only[aV,ba] at h
   obtain⟨es,hes,⟨ys,rt1⟩,hys,h⟩:=h
   cases h
   obtain⟨i,hi1,hi2,hi3,hi4⟩:=A.info e ei hei
   have hu:=A.und t _ htt
   simp only at hu
   have hzs:=vu (jH (w:=w) (ρ:=ρ) (rt:=st.rt) hz ca) (iM hz)
   have hzc:ei.zv.cells.size=ei.size:=by rw[←hzs.1];exact c3
   have hrep:∀e∈List.replicate n z,(cells e).length=ei.size:=fun e he=>by rw[List.eq_of_mem_replicate he];exact c3
   have hcs0:Cs w ρ st.rt ((List.replicate n z).flatMap cells) (madeCells ei.zv.cells (n*ei.size)):=by
    refine⟨by rw[su hrep,size_madeCells];simp,fun k x y hx hy=>?_⟩
    have hk:=(cX.1 hx).1
    rw[su hrep,List.length_replicate] at hk
    have hd:k / ei.size<n:=Nat.div_lt_of_lt_mul (by rw[Nat.mul_comm];exact hk)
    have hm':k % ei.size<ei.size:=Nat.mod_lt _ c2
    have hdm:k / ei.size*ei.size+k % ei.size=k:=by rw[Nat.mul_comm];exact Nat.div_add_mod k ei.size
    have h1:=DU (i:=k / ei.size) (k:=k % ei.size) (e:=z) hrep (by simp[hd]) (em (by omega))
    rw[hdm,hx] at h1
    have h2:=tv (n:=n) hzc hd hm'
    rw[hdm,hy] at h2
    cases h1
    exact hzs.2 _ _ _ (em _) h2.symm
   obtain⟨hlen,hpr⟩:=tC T hpv
   obtain⟨fl,ff⟩:=I0 hes
   have hses:∀e∈es,(cells e).length=ei.size:=fun e he=>by
    rcases ff e he with h | h
    ·exact hrep e h
    ·exact h.1
   obtain⟨arr,hf1,hf2⟩:=wg hcs0 (Bv hrep hes) (pu:=ps.toList.map fun x=>(x.1,a.eval x.2)) (by simp[hlen]) hpr
   have hparts:(ps.map fun (x:Nat×Operand)=>(x.1,a.eval x.2)).toList=ps.toList.map fun x=>(x.1,a.eval x.2):=by simp
   have hslot:∀(i:Nat) x,es[i]?=some x→∀(k:Nat) y,(cells x)[k]?=some y→arr[i*ei.size+k]?=some (arr.getD (i*ei.size+k) undef)∧RepV w ρ st.rt none y (arr.getD (i*ei.size+k) undef):=by
    intro i x hx k y hy
    have h1:=DU hses hx hy
    have hlt:=(cX.1 h1).1
    rw[hf2.1] at hlt
    have h2:arr[i*ei.size+k]?=some (arr.getD (i*ei.size+k) undef):=by simp[Array.getD,hlt]
    exact⟨h2,hf2.2 _ _ _ h1 h2⟩
   have hnn:dG (cF Un st.rt) es:=ep.2 fun x hx=>by
    rcases ff x hx with h | ⟨_,_,p,hp,rfl⟩
    ·rw[List.eq_of_mem_replicate h];exact dB (pW hz)
    ·exact qZ hm hpv p hp
   have d5:=hi.at
   obtain⟨ρ1,ab,yl,yr⟩:=qL (N:=cF Un st.rt) (q:=id) (i0:=0) (g:=fun i=>fT (es.getD i .und) (fun k=>arr.getD (i*ei.size+k) undef)) H J hr hL (fun i j l _ h=>absurd hi.p (by simp only[kC] at h;omega)) (Nat.ne_of_gt hi.p) d5 (fun i x hx=>by
    refine⟨fun k=>arr.getD (i*ei.size+k) undef,by rw[List.getD_eq_getElem?_getD,hx];rfl,fun k y hy=>(hslot i x hx k y hy).2⟩) hnn hys
   have hN:∀nv,cF Un st.rt id nv:=fun nv=>.inl hi.uid
   have hnl:n=es.length:=by simpa using fl.symm
   have harr:arr.size=n*ei.size:=by rw[←hf2.1,su hses,hnl]
   have hyg:∀(j:Nat) x,ys[j]?=some x→∃y,es[j]?=some y:=fun j x hx=>by
    have:=(cX.1 hx).1
    exact⟨_,em (by omega)⟩
   have hyr:∀(i:Nat) (x y:V),ys[i]?=some x→es[i]?=some y→bm w ρ1 rt1 (fun k=>some (id,[(i,k)])) x (fT y (fun k=>arr.getD (i*ei.size+k) undef))∧nh x∧aA x=aA y∧(cells x).length=(cells y).length:=by
    intro i x y hx hy
    have:=yr i x y hx hy
    rw[List.getD_eq_getElem?_getD,hy,Nat.zero_add] at this
    exact⟨this.1,this.2.1,this.2.2.1,this.2.2.2.1⟩
   refine⟨.slice (some ⟨w.heap.size,0,none⟩) n n,w.alloc (.cells arr e),?_,iD ρ1 w.heap.size (id,[]),?_,bm.mk1 rfl (Oz rfl (Nat.le_refl _) (by rw[harr];exact Nat.le_refl _)),kN A H J T hr hL hm hi⟩
   ·have hnot:¬(16777216<n*ei.size):=by omega
    simp only[execOp,ho,Instr.buildSlice,Sem.run_bind,run_underlying hu,Result.andThen,fz A hei,Sem.run_pure,hparts]
    rw[if_neg (by simpa using hnot)]
    by_cases h0:n*ei.size=0
    ·have hf1':Instr.fill (fun i=>some (i*ei.size,ei.size)) (Array.map (fun x=>(#[]:Array Value)[x % 0]!) (Array.range (n*ei.size))) (List.map (fun x=>(x.fst,a.eval x.snd)) ps.toList)=some arr:=by
      rw[←hf1]
      congr 1
      simp[h0,madeCells]
     simp only[if_pos h0,Sem.run_bind,Sem.run_pure,Result.andThen,Array.size_empty,hf1',newRow,run_newObj,World.alloc]
    ·have hf1':Instr.fill (fun i=>some (i*ei.size,ei.size)) (Array.map (fun x=>ei.zv.cells[x % ei.zv.cells.size]!) (Array.range (n*ei.size))) (List.map (fun x=>(x.fst,a.eval x.snd)) ps.toList)=some arr:=hf1
     simp only[if_neg h0,Sem.run_bind,mQ A hei w,Sem.run_pure,Result.andThen,hf1',newRow,run_newObj,World.alloc]
   ·refine Abs.newRoot (w':=w.alloc (.cells arr e)) (es:=ys) (T:=e) (g:=fun i k=>arr.getD (i*ei.size+k) undef) ab hi.p ?_ d5 hN rfl rfl rfl rfl ?_ ?_ ?_ ?_
    ·rintro o l (h | ⟨h,i,k,_,h'⟩)
     ·exact .inl h
     ·refine .inr ⟨h,?_⟩
      rintro rfl
      simp at h'
    ·intro j x hx
     obtain⟨y,hy⟩:=hyg j x hx
     rw[(hyr j x y hx hy).2.2.2]
     exact hses y (iO hy)
    ·intro j x k c hx hcx
     obtain⟨y,hy⟩:=hyg j x hx
     have hk:=(cX.1 hcx).1
     rw[(hyr j x y hx hy).2.2.2] at hk
     exact (hslot j y hy k _ (em hk)).1
    ·intro j x k c hx hcx
     obtain⟨y,hy⟩:=hyg j x hx
     obtain⟨h1,h2,h3,h4⟩:=hyr j x y hx hy
     exact XR h1 h3 h4 k c hcx
    ·refine dN.2 fun x hx=>?_
     obtain⟨j,hj⟩:=List.mem_iff_getElem?.1 hx
     obtain⟨y,hy⟩:=hyg j x hj
     exact (hyr j x y hj hy).2.1
  ·cases h
 ·cases h
end
end
section
variable {w w' : World} {ρ ρ' ρ'' : bX} {rt rt' rt'' : aw} {N : Nat→Nat→Prop}
theorem Lg {o:Nat}{p0:List (Nat×Nat)}{s:Nat}{es es':List V}(h:cO w ρ rt (o,p0) s es)(hl:es'.length=es.length)(hs:∀(i:Nat) (e':V),es'[i]?=some e'→(cells e').length=s)(hB:∀b arr T,ρ b=some (o,p0)→w.heap[b]?=some (.cells arr T (0,0))→∃arr',ρ' b=some (o,p0)∧w'.heap[b]?=some (.cells arr' T (0,0))∧∀(i:Nat) (e':V) k y,es'[i]?=some e'→(cells e')[k]?=some y→∃z,arr'[i*s+k]?=some z∧RepV w' ρ' rt' (some (o,p0++[(i,k)])) y z) :
  cO w' ρ' rt' (o,p0) s es':=by
 rcases h with rfl | ⟨b,arr,T,g,h1,h2,h3,h4,h5⟩
 ·exact .inl (List.length_eq_zero_iff.1 (by simpa using hl))
 ·obtain⟨arr',q1,q2,q3⟩:=hB b arr T h1 h2
  refine .inr ⟨b,arr',T,fun i k=>arr'.getD (i*s+k) undef,q1,q2,hs,fun i e k x he hx=>?_,fun i e k x he hx=>?_⟩
  ·obtain⟨z,hz,_⟩:=q3 i e k x he hx
   have hlt:=(oE.1 hz).1
   simp[Array.getD,hlt]
  ·obtain⟨z,hz,hr⟩:=q3 i e k x he hx
   obtain⟨hlt,e1⟩:=oE.1 hz
   simp only[Array.getD,hlt,dif_pos,dJ.at]
   rw[show arr'.getInternal (i*s+k) hlt=z from e1]
   exact hr
def under (p:List (Nat×Nat))(i k n:Nat)(l:List (Nat×Nat)):Prop:=∃j t,j<n∧l=p++(i,k+j)::t
open Classical in
noncomputable def ks (ρ:bX)(q o:Nat)(p:List (Nat×Nat))(i k n:Nat):bX:=fun b=>
 match ρ b with
 | none=>none
 | some (o',l)=>if o'=q then (match l with
  | (_,j)::t=>some (o,p++(i,k+j)::t)
  | []=>none) else if o'=o∧under p i k n l then none else some (o',l)
theorem Qo {q o p i k n b}(h:ρ b=none):ks ρ q o p i k n b=none:=by simp[ks,h]
theorem OQ {q o p i k n b i0 j t}(h:ρ b=some (q,(i0,j)::t)):ks ρ q o p i k n b=some (o,p++(i,k+j)::t):=by simp[ks,h]
theorem iu {q o p i k n b o' l}(h:ρ b=some (o',l))(hq:o'≠q)(hu:¬(o'=o∧under p i k n l)):ks ρ q o p i k n b=some (o',l):=by
 simp only[ks,h,hq,if_false]
 rw[if_neg hu]
theorem pc {q o p i k n b o' l}(h:ks ρ q o p i k n b=some (o',l)):(∃i0 j t,ρ b=some (q,(i0,j)::t)∧o'=o∧l=p++(i,k+j)::t)∨(o'≠q∧ρ b=some (o',l)∧¬(o'=o∧under p i k n l)):=by
 unfold ks at h
 split at h
 ·cases h
 ·rename_i o1 l1 hb
  split at h
  ·rename_i hq
   subst hq
   split at h
   ·rename_i i0 j t
    cases h
    exact .inl ⟨i0,j,t,hb,rfl,rfl⟩
   ·cases h
  ·rename_i hq
   split at h
   ·cases h
   ·rename_i hu
    cases h
    exact .inr ⟨hq,hb,hu⟩
theorem Ro {xs ys:List V}{k n k':Nat}(hn:ys.length=n)(hk:k+n≤xs.length):(xs.take k++ys++xs.drop (k+n))[k']?=if k≤k'∧k'<k+n then ys[k' - k]? else xs[k']?:=by
 split
 ·rename_i h
  rw[List.append_assoc,ph (by simp;omega),mt (by simp;omega)]
  congr 1
  simp
  omega
 ·rename_i h
  by_cases h2:k'<k
  ·rw[List.append_assoc,mt (by simp;omega),List.getElem?_take,if_pos h2]
  ·rw[ph (by simp;omega),List.getElem?_drop]
   congr 1
   simp
   omega
theorem Eb {xs ys:List Value}{k n k':Nat}(hn:ys.length=n)(hk:k+n≤xs.length):(xs.take k++ys++xs.drop (k+n))[k']?=if k≤k'∧k'<k+n then ys[k' - k]? else xs[k']?:=by
 split
 ·rename_i h
  rw[List.append_assoc,ph (by simp;omega),mt (by simp;omega)]
  congr 1
  simp
  omega
 ·rename_i h
  by_cases h2:k'<k
  ·rw[List.append_assoc,mt (by simp;omega),List.getElem?_take,if_pos h2]
  ·rw[ph (by simp;omega),List.getElem?_drop]
   congr 1
   simp
   omega
def putCells (e:V)(k n:Nat)(ys:List V):V:=
 let cs':=(cells e).take k++ys++(cells e).drop (k+n)
 if aA e then .agg cs' else cs'.headD .dead
theorem OM {e:V}{k n k':Nat}{ys:List V}(hn:ys.length=n)(hk:k+n≤(cells e).length)(h0:0<n)(hc:ys.all fx=true):(cells (putCells e k n ys))[k']?=if k≤k'∧k'<k+n then ys[k' - k]? else (cells e)[k']?:=by
 unfold putCells
 by_cases ha:aA e=true
 ·simp only[ha,if_true]
  exact Ro hn hk
 ·have ha':aA e=false:=by simpa using ha
  have hce:=cl ha'
  rw[hce] at hk
  have hk0:k=0:=by simp at hk;omega
  have hn1:n=1:=by simp at hk;omega
  subst hk0
  match ys,hn with
  | [y],hn=>
   subst hn1
   have hy:fx y=true:=by simpa using hc
   have hya:aA y=false:=by cases y<;>first | rfl | exact absurd hy (by simp[fx])
   simp only[ha',hce]
   simp only[List.take_zero,List.nil_append,List.cons_append,Bool.false_eq_true,if_false,List.headD_cons,cl hya]
   cases k'<;>simp
  | [],hn=>simp at hn;omega
  | _::_::_,hn=>simp at hn;omega
theorem OO {e:V}{k n:Nat}{ys:List V}(hn:ys.length=n)(hk:k+n≤(cells e).length)(h0:0<n)(hc:ys.all fx=true):(cells (putCells e k n ys)).length=(cells e).length:=by
 unfold putCells
 by_cases ha:aA e=true
 ·simp only[ha,if_true]
  rw[show ∀cs,cells (.agg cs)=cs from fun _=>rfl]
  simp[hn]
  omega
 ·have ha':aA e=false:=by simpa using ha
  have hce:=cl ha'
  rw[hce] at hk
  have hk0:k=0:=by simp at hk;omega
  have hn1:n=1:=by simp at hk;omega
  subst hk0
  match ys,hn with
  | [y],hn=>
   subst hn1
   have hy:fx y=true:=by simpa using hc
   have hya:aA y=false:=by cases y<;>first | rfl | exact absurd hy (by simp[fx])
   simp only[ha',hce]
   simp[cl hya]
  | [],hn=>simp at hn;omega
  | _::_::_,hn=>simp at hn;omega
theorem Qn {e:V}{k n:Nat}{ys:List V}(he:nh e)(hy:nhs ys):nh (putCells e k n ys):=by
 have hcs:nhs ((cells e).take k++ys++(cells e).drop (k+n)):=dN.2 fun x hx=>by
  have h1:=dN.1 (wu he)
  simp only[List.mem_append] at hx
  rcases hx with (hx | hx) | hx
  ·exact h1 x (List.mem_of_mem_take hx)
  ·exact dN.1 hy x hx
  ·exact h1 x (List.mem_of_mem_drop hx)
 unfold putCells
 simp only
 split
 ·simpa[nh] using hcs
 ·cases h:((cells e).take k++ys++(cells e).drop (k+n)) with
  | nil=>simp[nh]
  | cons x xs=>rw[h] at hcs;exact hcs.1
section
variable {P : Program} {E : Env} (A : Agree P E) {st : St} {a : Act} {o : Oper} (H : eS w ρ st.rt) (J : fp ρ) (T : kc w ρ st.rt st.tm a.tmps) (hr : ij st.rt) (hL : Lab w ρ st.rt kC) {Un : Nat→Prop} {id : Nat} (hm : Bf (cF Un st.rt) st.tm) (hi : Fresh Un st.rt id)
include A H J T hr hL hm hi
theorem adi {t:TypeId}{p x:Operand}{v:V}{rt':aw}(ho:o.op=.store t p x)(h:bF E id st o.op=some (v,rt')) :
  ∃w',(execOp a.eval o).run P w=.ok .skip w'∧lB Un w ρ st.rt id v rt' undef w':=by
 rw[ho] at h
 simp only[bF,aV,ba] at h
 obtain⟨pv,hp,xv,hx,rt2,h,hh⟩:=h
 cases hh
 unfold pf at h
 split at h
 ·rename_i o1 nv path s i k
  simp only[aV] at h
  obtain⟨ti,hti,⟨y,rt1⟩,hy,h⟩:=h
  split at h
  ·rename_i hc
   obtain⟨c1,c2,c0⟩:=hc
   simp only at c1 c2
   simp only[aV] at h
   obtain⟨r,hval,⟨s1,z⟩,hz,h⟩:=h
   split at h
   ·rename_i hs1
    simp only at hs1
    subst hs1
    simp only[aV] at h
    obtain⟨e,he,h⟩:=h
    split at h
    ·rename_i hk
     simp only[ba] at h
     obtain⟨es,hes,h⟩:=h
     have d5:=hi.at
     obtain⟨ρ1,ab,sl,yn,ya,yl,yc⟩:=yq (N:=cF Un st.rt) (i:=0) H J hr hL (q:=id) (fun j l h=>absurd hi.p (by simp only[kC] at h;omega)) (Nat.ne_of_gt hi.p) d5 (cU T hx) (gN hm hx) hy
     have hnp:=gN hm hp
     simp only[aB] at hnp
     obtain⟨hro,hvv⟩:=eF hval
     have hlive1:cV rt1 o1 nv path:=by simp[cV,cJ,hval,hz]
     obtain⟨hlive,hkb⟩:=ab.keep.k2 o1 nv path hnp hlive1
     have hpr:=bm.one rfl (cU T hp)
     have hne:o1≠id:=by
      rintro rfl
      rw[ab.gone d5] at hro
      cases hro
     obtain⟨b,n,hb,hbl,hu⟩:∃b n,ρ b=some (o1,path)∧lH w b n∧a.eval p=.pointer (some ⟨b,i*s1+k,none⟩):=by
      generalize a.eval p=up at hpr
      cases hpr with
      | hp _ _ _ _ _ _ _ _ hh _=>exact hh hlive
     obtain⟨hb1,arr,TT,hbb,hsz⟩:=hkb b n hb hbl
     have hrow:=kQ (p0:=[]) (ab.rok o1 r hro) hz
     simp only[List.nil_append] at hrow
     have hzn:nhs z:=jQ (ab.rtn o1 r hro) hz
     have hen:=dj hzn he
     have hil:=(cX.1 he).1
     obtain⟨g,hg⟩:∃g:Nat→Nat→Value,(∀(i:Nat) (e:V),z[i]?=some e→(cells e).length=s1)∧(∀(i:Nat) (e:V) k x,z[i]?=some e→(cells e)[k]?=some x→arr[i*s1+k]?=some (g i k))∧
       (∀(i:Nat) (e:V) k x,z[i]?=some e→(cells e)[k]?=some x→RepV w ρ1 rt1 (some (o1,path++[(i,k)])) x (g i k)):=by
      rcases hrow with rfl | ⟨b',arr',T',g,h1,h2,h3,h4,h5⟩
      ·simp at he
      ·have:=ab.inj b b' _ hb1 h1
       subst this
       rw[hbb] at h2
       cases h2
       exact⟨g,h3,h4,h5⟩
     obtain⟨hg1,hg2,hg3⟩:=hg
     have hes1:=hg1 i e he
     -- what is written
     have hcu:∀(j:Nat) c,(cells y)[j]?=some c→(a.eval x).cells[j]?=some ((a.eval x).cells.getD j undef)∧RepV w ρ1 rt1 (some (id,[(0,j)])) c ((a.eval x).cells.getD j undef):=fun j c hj=>Ja sl yc hj
     have hun:(a.eval x).cells.size=ti.size:=by
      obtain⟨g',_,hg',_⟩:=qi sl yc
      rw[hg',Sj]
      exact c1
     have hone:∀u∈(a.eval x).cells.toList,u.oneCell'=true:=by
      intro u hu'
      obtain⟨j,hj⟩:=List.mem_iff_getElem?.1 hu'
      have hjl:=(cX.1 hj).1
      simp only[Array.length_toList,hun] at hjl
      have hcj:(cells y)[j]?=some ((cells y)[j]'(by omega)):=em _
      obtain⟨q1,q2⟩:=hcu j _ hcj
      simp only[Array.getElem?_toList] at hj
      rw[hj] at q1
      have:=vp q2 (List.all_eq_true.1 yc _ (iO hcj))
      rw[←Option.some.inj q1] at this
      cases u<;>first | rfl | exact this.elim
     have hfit:i*s1+k+ti.size≤arr.size:=by
      have:(cells e)[k+ti.size - 1]?=some ((cells e)[k+ti.size - 1]'(by omega)):=em _
      have:=(oE.1 (hg2 i e _ _ he this)).1
      omega
     have hrun:=run_storeCells_at P b (i*s1+k) TT (a.eval x).cells.toList 0 arr w hbb (by simp[hun];omega) hone
     simp only[Nat.add_zero,Array.length_toList,hun] at hrun
     generalize harr':(arr.toList.take (i*s1+k)++(a.eval x).cells.toList++arr.toList.drop (i*s1+k+ti.size)).toArray=arr' at hrun
     have hget':∀j,arr'[j]?=if i*s1+k≤j∧j<i*s1+k+ti.size then (a.eval x).cells[j - (i*s1+k)]? else arr[j]?:=fun j=>by
      rw[←harr',List.getElem?_toArray,Eb (n:=ti.size) (by simp[hun]) (by simpa using hfit)]
      simp
     have hsz':arr'.size=arr.size:=by rw[←harr'];simp[hun];omega
     have hw1:=setRow_heap w b arr arr' TT (0,0) hbb
     have hw2:∀c,c≠b→(w.setRow b arr').heap[c]?=w.heap[c]?:=fun c hc=>setRow_other w b c arr' hc
     refine⟨w.setRow b arr',?_,ks ρ1 id o1 path i k ti.size,?_,bm.mk1 rfl (.und _),by simp[aB]⟩
     ·have hsz2:(sizeOf t).run P w=.ok ti.size w:=fz A hti w
      simp only[execOp,ho,hu,Instr.storeAt,Instr.sureAddr,storeVar,Sem.run_bind,Sem.run_pure,Result.andThen,hsz2,hun]
      simp[hrun]
     -- the store behind it
     generalize hnv':(if (((((cells e).drop k).take ti.size).all cZ&&(cells y).all cZ)=true) then r.nv else r.nv+1)=nv' at h
     have hpc:(if aA e=true then V.agg ((cells e).take k++cells y++(cells e).drop (k+ti.size)) else ((cells e).take k++cells y++(cells e).drop (k+ti.size)).headD .dead)=putCells e k ti.size (cells y):=rfl
     simp only[hpc] at hes
     have hk':k+ti.size≤(cells e).length:=hk
     subst h
     generalize hE:putCells e k ti.size (cells y)=e' at hes
     have hel:(cells e').length=(cells e).length:=by rw[←hE];exact OO c1 hk' c0 yc
     have heg:∀k',(cells e')[k']?=if k≤k'∧k'<k+ti.size then (cells y)[k' - k]? else (cells e)[k']?:=fun k'=>by rw[←hE];exact OM c1 hk' c0 yc
     have hen':nh e':=by rw[←hE];exact Qn hen (wu yn)
     have hlabid:∀c l,ρ1 c=some (id,l)→∃j t,l=(0,j)::t∧j<ti.size:=by
      intro c l hl
      rcases (ab.lab c id l hl).2 with (h1 | ⟨_,j,h1,t,h2⟩) | ⟨r,h1⟩
      ·exact absurd hi.p (by simp only[kC] at h1;omega)
      ·refine⟨j,t,by rw[←h2];simp,by rw[←c1,yl];exact h1⟩
      ·rw[ab.gone d5] at h1;cases h1
     have ho0:0≠o1:=by rintro rfl;rw[ab.lab.z] at hro;cases hro
     have hund:∀l,¬path <+: l→¬under path i k ti.size l:=by
      rintro l hl ⟨j,t,_,rfl⟩
      exact hl (List.prefix_append _ _)
     have hneb:∀c l,ρ1 c=some (o1,l)→l≠path→c≠b:=by
      rintro c l h1 h2 rfl
      rw[hb1] at h1
      cases h1
      exact h2 rfl
     have hneb':∀c o' l,ρ1 c=some (o',l)→o'≠o1→c≠b:=by
      rintro c o' l h1 h2 rfl
      rw[hb1] at h1
      cases h1
      exact h2 rfl
     have hselfu:¬under path i k ti.size path:=by
      rintro⟨j,t,_,h1⟩
      have:=congrArg List.length h1
      simp at this
     have blk:∀c n,lH w c n→lH (w.setRow b arr') c n:=by
      intro c n hcb
      by_cases hcb2:c=b
      ·subst hcb2
       obtain⟨arr2,T2,q1,q2⟩:=hcb
       rw[hbb] at q1
       cases q1
       exact⟨arr',_,hw1,by rw[hsz',q2]⟩
      ·obtain⟨arr2,T2,q1,q2⟩:=hcb
       exact⟨arr2,T2,by rw[hw2 c hcb2];exact q1,q2⟩
     have K:Keep (cF Un st.rt) w ρ1 rt1 (w.setRow b arr') (ks ρ1 id o1 path i k ti.size) (upd rt1 o1 (some { nv:=nv',s:=r.s,es:=es })):=by
      refine⟨fun c hc hlt=>⟨Qo hc,hw2 c (by rintro rfl;rw[hb1] at hc;cases hc)⟩,fun o' nv2 p' hN hl=>?_,fun c l hc=>⟨iu hc (by have:=hi.p;omega) (by simp[ho0]),hw2 c (hneb' _ _ _ hc ho0)⟩⟩
      by_cases ho':o'=o1
      ·subst ho'
       have hl2:(p'=[]∨nv'=nv2)∧(bG p' r.s es).isSome=true:=by
        unfold cV cJ at hl
        cases hvv':cy (upd rt1 o' (some { nv:=nv',s:=r.s,es:=es })) o' nv2 p' with
        | none=>simp[hvv'] at hl
        | some r2=>
         obtain⟨h1,h2⟩:=eF hvv'
         simp[upd] at h1
         subst h1
         simp only[hvv',cG] at hl
         exact⟨h2,hl⟩
       have hnb:nv2≤r.nv:=by
        obtain⟨r0,h1,h2,_⟩:=ab.nv o' r hro
        rw[h2]
        exact Nat.le_of_not_lt fun hlt=>hN (.inr ⟨r0,h1,hlt⟩)
       have key:cV rt1 o' nv2 p'∧¬under path i k ti.size p':=by
        by_cases hp':p'=[]
        ·subst hp'
         refine⟨by simp[cV,cJ,cy,hro,bG],?_⟩
         rintro⟨j,t,_,h1⟩
         have:=congrArg List.length h1
         simp at this
        ·have hnv2:=hl2.1.resolve_left hp'
         split at hnv'
         ·rename_i hpl
          simp only[Bool.and_eq_true] at hpl
          have hyp:∀(j:Nat) c,(cells y)[j]?=some c→cZ c=true:=fun j c hj=>List.all_eq_true.1 hpl.2 c (iO hj)
          have hnewrow:∀t,(bG t s1 (z.set i e')).isSome=true→(bG t s1 z).isSome=true∧¬under [] i k ti.size t:=by
           intro t ht
           match t,ht with
           | [],_=>exact⟨by simp[bG],by rintro⟨j,t,_,h1⟩;cases h1⟩
           | (i',k')::t',ht=>
            simp only[bG] at ht ⊢
            by_cases hii:i'=i
            ·subst hii
             simp only[List.getElem?_set_self hil,heg] at ht
             by_cases hin:k≤k'∧k'<k+ti.size
             ·simp only[hin,and_self,if_true] at ht
              cases hcy:(cells y)[k' - k]? with
              | none=>simp[hcy] at ht
              | some c=>
               simp only[hcy] at ht
               have:=hyp _ c hcy
               cases c<;>first | (simp at ht;done) | (simp[cZ] at this;done)
             ·simp only[hin,if_false] at ht
              refine⟨by simpa[he] using ht,?_⟩
              rintro⟨j,t,hj,h1⟩
              simp at h1
              omega
            ·rw[List.getElem?_set_ne (by omega)] at ht
             refine⟨ht,?_⟩
             rintro⟨j,t,hj,h1⟩
             simp at h1
             exact hii h1.1.1
          have h1:=wq (fun t ht=>(hnewrow t ht).1) hz hes hl2.2
          refine⟨by simp[cV,cJ,cy,hro,hnv2▸hnv',h1],?_⟩
          rintro⟨j,t,hj,rfl⟩
          have:=hl2.2
          rw[kP hz hes] at this
          exact (hnewrow _ this).2 ⟨j,t,hj,rfl⟩
         ·exfalso
          omega
       refine⟨key.1,fun c n hc hcb=>⟨iu hc hne (by simp[key.2]),blk c n hcb⟩⟩
      ·refine⟨by simpa[cV,cJ,cy,upd,ho'] using hl,fun c n hc hcb=>?_⟩
       have ho2:o'≠id:=by
        rintro rfl
        exact hN (.inl hi.uid)
       exact⟨iu hc ho2 (by simp[ho']),blk c n hcb⟩
     have hnewR:cO (w.setRow b arr') (ks ρ1 id o1 path i k ti.size) (upd rt1 o1 (some { nv:=nv',s:=r.s,es:=es })) (o1,path) s1 (z.set i e'):=by
      refine Lg (kQ (p0:=[]) (ab.rok o1 r hro) hz) (by simp) ?_ ?_
      ·intro i' x' hx'
       by_cases hii:i'=i
       ·subst hii
        rw[List.getElem?_set_self hil] at hx'
        cases hx'
        rw[hel];exact hes1
       ·rw[List.getElem?_set_ne (by omega)] at hx'
        exact hg1 _ _ hx'
      ·intro b2 arr2 T2 hb2 hh2
       have:=ab.inj b b2 _ hb1 hb2
       subst this
       rw[hbb] at hh2
       cases hh2
       refine⟨arr',iu hb1 hne (by simp[hselfu]),hw1,?_⟩
       have old:∀(i' k':Nat) x' c,z[i']?=some x'→(cells x')[k']?=some c→¬(i'=i∧k≤k'∧k'<k+ti.size)→∃u,arr'[i'*s1+k']?=some u∧RepV (w.setRow b arr') (ks ρ1 id o1 path i k ti.size) (upd rt1 o1 (some { nv:=nv',s:=r.s,es:=es })) (some (o1,path++[(i',k')])) c u:=by
        intro i' k' x' c hx' hc' hnin
        refine⟨g i' k',?_,?_⟩
        ·rw[hget',if_neg]
         ·exact hg2 i' x' k' c hx' hc'
         ·rintro⟨q1,q2⟩
          have hk1:=(cX.1 hc').1
          rw[hg1 i' x' hx'] at hk1
          by_cases hii:i'=i
          ·subst hii
           exact hnin ⟨rfl,by omega,by omega⟩
          ·rcases Nat.lt_or_gt_of_ne hii with h1 | h1
           ·have:(i'+1)*s1≤i*s1:=Nat.mul_le_mul_right _ h1
            rw[Nat.succ_mul] at this
            omega
           ·have:(i+1)*s1≤i'*s1:=Nat.mul_le_mul_right _ h1
            rw[Nat.succ_mul] at this
            omega
        ·refine RepV.under K (fun c' l hl hpre=>?_) (hg3 i' x' k' c hx' hc') (cr (dj hzn hx') hc')
         obtain⟨t,rfl⟩:=hpre
         refine⟨iu hl hne ?_,hw2 _ (hneb _ _ hl (by intro hq;have:=congrArg List.length hq;simp at this))⟩
         rintro⟨_,j,t',hj,h1⟩
         simp only[List.append_assoc,List.cons_append,List.nil_append,List.append_cancel_left_eq] at h1
         injection h1 with h1 _
         injection h1 with h1 h2
         exact hnin ⟨h1,by omega,by omega⟩
       intro i' x' k' c hx' hc'
       by_cases hii:i'=i
       ·subst hii
        rw[List.getElem?_set_self hil] at hx'
        cases hx'
        rw[heg] at hc'
        split at hc'
        ·rename_i hin
         obtain⟨q1,q2⟩:=hcu _ c hc'
         refine⟨_,by rw[hget',if_pos (by omega),show i'*s1+k' - (i'*s1+k)=k' - k by omega];exact q1,?_⟩
         have:=q2.mono K (fun l=>(o1,path++match l.2 with
           | (_,j)::t=>(i',k+j)::t
           | []=>[])) (fun l=>l.1=id∧∃t,l.2=(0,k' - k)::t)
          (fun l i2 k2 hl=>by
           obtain⟨_,t,ht⟩:=hl
           simp[dJ.at,ht])
          (fun l i2 k2 hl=>⟨hl.1,by obtain⟨_,t,ht⟩:=hl;exact⟨t++[(i2,k2)],by simp[dJ.at,ht]⟩⟩)
          (fun c' l hl hcl=>by
           obtain⟨l1,l2⟩:=l
           obtain⟨rfl,t,ht⟩:=hl
           simp only at ht
           subst ht
           exact⟨OQ hcl,hw2 _ (hneb' _ _ _ hcl (Ne.symm hne))⟩)
          (fun l hl=>by cases hl;exact⟨rfl,[],rfl⟩) (dB (cr yn hc'))
         simp only[Option.map_some] at this
         rwa[show k+(k' - k)=k' by omega] at this
        ·rename_i hin
         exact old i' k' e c he hc' (by rintro⟨_,h2⟩;exact hin h2)
       ·rw[List.getElem?_set_ne (by omega)] at hx'
        exact old i' k' x' c hx' hc' (by rintro⟨h1,_⟩;exact hii h1)
     have J':fp (ks ρ1 id o1 path i k ti.size):=by
      rintro c c' ⟨o',l⟩ h1 h2
      rcases pc h1 with⟨i0,j,t,q1,q2,q3⟩ | ⟨q1,q2,q3⟩<;>rcases pc h2 with⟨i0',j',t',r1,r2,r3⟩ | ⟨r1,r2,r3⟩
      ·subst q3
       simp only[List.append_cancel_left_eq] at r3
       injection r3 with r3 r4
       injection r3 with r3 r5
       subst r4
       have:j=j':=by omega
       subst this
       obtain⟨_,_,e1,_⟩:=hlabid _ _ q1
       obtain⟨_,_,e2,_⟩:=hlabid _ _ r1
       cases e1
       cases e2
       exact ab.inj _ _ _ q1 r1
      ·exfalso
       obtain⟨j2,t2,e1,e2⟩:=hlabid _ _ q1
       cases e1
       exact r3 ⟨q2,j,t,e2,q3⟩
      ·exfalso
       obtain⟨j2,t2,e1,e2⟩:=hlabid _ _ r1
       cases e1
       exact q3 ⟨r2,j',t',e2,r3⟩
      ·exact ab.inj _ _ _ q2 r2
     refine⟨?_,J',?_,ab.keep.trans K (Nat.le_refl _),?_,⟨rfl,rfl,rfl,by simp,blk⟩,?_,fun c l hc=>ab.f0 c l (by
      rcases pc hc with⟨_,_,_,_,q2,_⟩ | ⟨_,q2,_⟩
      ·exact absurd q2 ho0
      ·exact q2)⟩
     ·intro o' r' hr'
      by_cases ho':o'=o1
      ·subst ho'
       simp[upd] at hr'
       subst hr'
       refine qF (p0:=[]) K J' (by simp) (ab.rok o' r hro) (ab.rtn o' r hro) hz hes (fun c l hc _ hl=>?_) (fun c arr2 T2 hc hh=>?_) (by simpa using hnewR)
       ·simp only[List.nil_append] at hl
        exact⟨iu hc hne (by rintro⟨_,h2⟩;exact hund l hl h2),hw2 _ (hneb _ _ hc (by rintro rfl;exact hl (List.prefix_refl _)))⟩
       ·simp only[List.nil_append] at hc
        have:=ab.inj b c _ hb1 hc
        subst this
        rw[hbb] at hh
        cases hh
        exact⟨iu hb1 hne (by simp[hselfu]),arr',_,hw1,hsz'⟩
      ·simp[upd,ho'] at hr'
       have ho2:o'≠id:=by
        rintro rfl
        rw[ab.gone d5] at hr'
        cases hr'
       exact cO.under K (fun c l hc _=>⟨iu hc ho2 (by simp[ho']),hw2 _ (hneb' _ _ _ hc ho')⟩) (ab.rok o' r' hr') (ab.rtn o' r' hr')
     ·intro o' r' hr'
      by_cases ho':o'=o1
      ·simp[upd,ho'] at hr'
       subst hr'
       exact oB (I8 hzn hen') (ab.rtn o1 r hro) hes
      ·simp[upd,ho'] at hr'
       exact ab.rtn o' r' hr'
     ·refine⟨fun c o' l hc=>?_,by simp[upd,ho0,ab.lab.z],fun c l hc=>?_⟩
      rotate_left
      ·rcases pc hc with⟨_,_,_,_,q2,_⟩ | ⟨_,q2,_⟩
       ·exact absurd q2 ho0
       ·exact ab.lab.f _ _ q2
      rcases pc hc with⟨i0,j,t,q1,q2,q3⟩ | ⟨q1,q2,q3⟩
      ·refine⟨by simpa using (ab.lab _ _ _ q1).1,.inr ?_⟩
       rw[q2]
       exact⟨{ nv:=nv',s:=r.s,es:=es },by simp[upd]⟩
      ·refine⟨by simpa using (ab.lab _ _ _ q2).1,?_⟩
       by_cases ho':o'=o1
       ·exact .inr ⟨{ nv:=nv',s:=r.s,es:=es },by simp[upd,ho']⟩
       ·rcases (ab.lab _ _ _ q2).2 with (h4 | ⟨h4,_⟩) | ⟨r2,h4⟩
        ·exact .inl h4
        ·exact absurd h4 q1
        ·exact .inr ⟨r2,by simp[upd,ho',h4]⟩
     ·intro o' r' hr'
      by_cases ho':o'=o1
      ·simp[upd,ho'] at hr'
       subst hr'
       subst ho'
       obtain⟨r0,h1,h2,_⟩:=ab.nv o' r hro
       refine .inl ⟨r0,h1,?_⟩
       have h2':r.nv=r0.nv:=h2
       have h3:r.nv≤nv':=by
        rw[←hnv']
        split
        ·exact Nat.le_refl _
        ·exact Nat.le_succ _
       exact h2'▸h3
      ·simp[upd,ho'] at hr'
       obtain⟨r0,h1,h2,_⟩:=ab.nv o' r' hr'
       exact .inl ⟨r0,h1,by omega⟩
    ·cases h
   ·cases h
  ·cases h
 ·cases h
end
end
section
variable {w w' : World} {ρ ρ' ρ'' : bX} {rt rt' rt'' : aw} {N : Nat→Nat→Prop}
theorem sw:∀{vs:List V},fS vs=vs.map eH
 | []=>rfl
 | v::vs=>by simp[fS,sw]
theorem yx {e:V}:cells (eH e)=(cells e).map eH:=by
 cases e<;>simp[eH,cells,sw]
theorem nz {vs:List V}{i:Nat}:(fS vs)[i]?=(vs[i]?).map eH:=by rw[sw,List.getElem?_map]
theorem wl {vs:List V}:(fS vs).length=vs.length:=by rw[sw,List.length_map]
theorem pK {e:V}{k:Nat}:(cells (eH e))[k]?=((cells e)[k]?).map eH:=by rw[yx,List.getElem?_map]
mutual
theorem Ot:∀{v:V},nh v→nh (eH v)
 | .und,_=>by simp[eH,nh]
 | .dead,_=>by simp[eH,nh]
 | .bool _,_=>by simp[eH,nh]
 | .int _ _,_=>by simp[eH,nh]
 | .str _,_=>by simp[eH,nh]
 | .nilp,_=>by simp[eH,nh]
 | .nilfn,_=>by simp[eH,nh]
 | .nilif,_=>by simp[eH,nh]
 | .fn _ cs,h=>by simpa[eH] using h
 | .iface _ v,h=>by simpa[eH] using h
 | .agg cs,h=>by simp only[eH,nh] at h ⊢;exact zG h
 | .tup cs,h=>by simpa[eH] using h
 | .iptr e _,h=>by simpa[eH] using h
 | .isl _ es,h=>by simpa[eH] using h
 | .uptr e,h=>by simp only[eH,nh] at h ⊢;exact Ot h
 | .usl _ es,h=>by simp only[eH,nh] at h ⊢;exact zG h
 | .hp _ _ _ _ _ _,h=>by simp[nh] at h
 | .hs _ _ _ _ _ _,h=>by simp[nh] at h
theorem zG:∀{vs:List V},nhs vs→nhs (fS vs)
 | [],_=>by simp[fS,nhs]
 | v::vs,h=>by simp only[fS,nhs] at h ⊢;exact⟨Ot h.1,zG h.2⟩
end
def notOwn:V→Prop
 | .usl _ _=>False
 | .uptr _=>False
 | _=>True
theorem RepV.any {L L':Option dJ}{v:V}{u:Value}(h:RepV w ρ rt L v u)(hv:notOwn v):RepV w ρ rt L' v u:=h.place (by cases v<;>first | trivial | exact hv.elim)
theorem RepV.notOwn {v:V}{u:Value}(h:RepV w ρ rt none v u):notOwn v:=by cases h<;>trivial
theorem RepV.anyN {L':Option dJ}{v:V}{u:Value}(h:RepV w ρ rt none v u):RepV w ρ rt L' v u:=h.any h.notOwn
theorem RepV.freeze (K:Keep N w ρ rt w' ρ' rt'){o:Nat}{L:Option dJ}{v:V}{u:Value}(h:RepV w ρ rt L v u):∀q,L=some (o,q)→(∀b l,ρ b=some (o,l)→q <+: l→ρ' b=none∧b<w'.heap.size∧w'.heap[b]?=w.heap[b]?)→nh v→RepV w' ρ' rt' none (eH v) u:=by
 induction h with
 | usl0 l s A=>exact fun q _ _ _=>by simpa[eH,fS] using RepV.isl0 (w:=w') (ρ:=ρ') (rt:=rt') none false A 0 (by simp)
 | usl l s es b A c arr T g hρ hb hl hA hcap hs hc h ih=>
  intro q hL hF hn
  cases hL
  by_cases h0:es=[]
  ·subst h0
   simpa[eH,fS] using RepV.isl0 (w:=w') (ρ:=ρ') (rt:=rt') none false A c (by simp)
  ·have hpos:0<es.length:=List.length_pos_iff.2 h0
   obtain⟨f1,f2,f3⟩:=hF b q hρ (List.prefix_refl _)
   rw[hA (by omega)]
   simp only[eH]
   rw[←wl (vs:=es)]
   refine .isl _ (fS es) b 0 c s g (by rw[wl];exact hl) (by rw[wl];exact hpos) f1 f2 ?_ ?_ ?_
   ·intro i e he
    rw[nz] at he
    obtain⟨e0,he0,rfl⟩:=ba.1 he
    rw[yx,List.length_map]
    exact hs i e0 he0
   ·intro i e k x he hx
    rw[nz] at he
    obtain⟨e0,he0,rfl⟩:=ba.1 he
    rw[pK] at hx
    obtain⟨x0,hx0,rfl⟩:=ba.1 hx
    rw[md f3]
    simp only[World.cell?,hb,Nat.zero_add]
    exact hc i e0 k x0 he0 hx0
   ·intro i e k x he hx
    rw[nz] at he
    obtain⟨e0,he0,rfl⟩:=ba.1 he
    rw[pK] at hx
    obtain⟨x0,hx0,rfl⟩:=ba.1 hx
    exact ih i e0 k x0 he0 hx0 (q++[(i,k)]) rfl (fun b l hb hp=>hF b l hb ((List.prefix_append _ _).trans hp)) (cr (dj (by simpa[nh] using hn) he0) hx0)
 | uptr l e b arr T g hρ hb hc h ih=>
  intro q hL hF hn
  cases hL
  obtain⟨f1,f2,f3⟩:=hF b q hρ (List.prefix_refl _)
  simp only[eH]
  refine .iptr _ (eH e) 0 b 0 g f2 f1 ?_ ?_
  ·intro j x hx
   rw[Nat.zero_add,pK] at hx
   obtain⟨x0,hx0,rfl⟩:=ba.1 hx
   rw[md f3]
   simp only[World.cell?,hb,Nat.zero_add]
   exact hc j x0 hx0
  ·intro j x hx
   rw[Nat.zero_add,pK] at hx
   obtain⟨x0,hx0,rfl⟩:=ba.1 hx
   exact ih j x0 hx0 (q++[(0,j)]) rfl (fun b l hb hp=>hF b l hb ((List.prefix_append _ _).trans hp)) (cr (by simpa[nh] using hn) hx0)
 | und L=>exact fun _ _ _ _=>by simpa[eH] using RepV.und none
 | dead L u=>exact fun _ _ _ _=>by simpa[eH] using RepV.dead none u
 | bool L b=>exact fun _ _ _ _=>by simpa[eH] using RepV.bool none b
 | int L k n=>exact fun _ _ _ _=>by simpa[eH] using RepV.int none k n
 | str L s=>exact fun _ _ _ _=>by simpa[eH] using RepV.str none s
 | nilp L=>exact fun _ _ _ _=>by simpa[eH] using RepV.nilp none
 | nilfn L=>exact fun _ _ _ _=>by simpa[eH] using RepV.nilfn none
 | nilif L=>exact fun _ _ _ _=>by simpa[eH] using RepV.nilif none
 | fn L f caps g h ih=>exact fun _ _ _ hn=>by simpa[eH] using (RepV.fn none f caps g h).keep K (dB hn)
 | iface L t v g h ih=>exact fun _ _ _ hn=>by simpa[eH] using (RepV.iface none t v g h).keep K (dB hn)
 | tup L vs p g hp h ih=>exact fun _ _ _ hn=>by simpa[eH] using (RepV.tup none vs p g hp h).keep K (dB hn)
 | iptr L e k b off g hb hρ hc h ih=>exact fun _ _ _ hn=>by simpa[eH] using (RepV.iptr none e k b off g hb hρ hc h).keep K (dB hn)
 | isl0 L nl A c hn=>exact fun _ _ _ _=>by simpa[eH] using RepV.isl0 none nl A c hn
 | isl L es b off c s g hl h0 hρ hb hs hc h ih=>exact fun _ _ _ hn=>by simpa[eH] using (RepV.isl none es b off c s g hl h0 hρ hb hs hc h).keep K (dB hn)
 | hp L o nv path s i k u h h1=>exact fun _ _ _ hn=>by simp[nh] at hn
 | hs L o nv path s off len u h h1=>exact fun _ _ _ hn=>by simp[nh] at hn
theorem cO.freeze (K:Keep N w ρ rt w' ρ' rt'){o:Nat}{q:List (Nat×Nat)}{s:Nat}{es:List V}(h:cO w ρ rt (o,q) s es)(hF:∀b l,ρ b=some (o,l)→q <+: l→ρ' b=none∧b<w'.heap.size∧w'.heap[b]?=w.heap[b]?)(hn:nhs es) :
  es=[]∨∃b,∃g:Nat→Nat→Value,ρ b=some (o,q)∧ρ' b=none∧b<w'.heap.size∧(∀(i:Nat) (e:V),(fS es)[i]?=some e→(cells e).length=s)∧
   (∀(i:Nat) (e:V) k x,(fS es)[i]?=some e→(cells e)[k]?=some x→w'.cell? ⟨b,i*s+k,none⟩=some (g i k))∧
   (∀(i:Nat) (e:V) k x,(fS es)[i]?=some e→(cells e)[k]?=some x→RepV w' ρ' rt' none x (g i k)):=by
 rcases h with h | ⟨b,arr,T,g,h1,h2,h3,h4,h5⟩
 ·exact .inl h
 ·obtain⟨f1,f2,f3⟩:=hF b q h1 (List.prefix_refl _)
  refine .inr ⟨b,g,h1,f1,f2,?_,?_,?_⟩
  ·intro i e he
   rw[nz] at he
   obtain⟨e0,he0,rfl⟩:=ba.1 he
   rw[yx,List.length_map]
   exact h3 i e0 he0
  ·intro i e k x he hx
   rw[nz] at he
   obtain⟨e0,he0,rfl⟩:=ba.1 he
   rw[pK] at hx
   obtain⟨x0,hx0,rfl⟩:=ba.1 hx
   rw[md f3]
   simp only[World.cell?,h2]
   exact h4 i e0 k x0 he0 hx0
  ·intro i e k x he hx
   rw[nz] at he
   obtain⟨e0,he0,rfl⟩:=ba.1 he
   rw[pK] at hx
   obtain⟨x0,hx0,rfl⟩:=ba.1 hx
   exact (h5 i e0 k x0 he0 hx0).freeze K (q++[(i,k)]) rfl (fun b l hb hp=>hF b l hb ((List.prefix_append _ _).trans hp)) (cr (dj hn he0) hx0)
theorem aaM {b s c len off:Nat}{es:List V}{g:Nat→Nat→Value}{A:Option Addr}(f1:ρ b=none)(f2:b<w.heap.size)(h3:∀(i:Nat) (e:V),es[i]?=some e→(cells e).length=s)(h4:∀(i:Nat) (e:V) k x,es[i]?=some e→(cells e)[k]?=some x→w.cell? ⟨b,i*s+k,none⟩=some (g i k))(h5:∀(i:Nat) (e:V) k x,es[i]?=some e→(cells e)[k]?=some x→RepV w ρ rt none x (g i k))(hlen:off+len≤es.length)(hlc:len≤c)(hA:len≠0→A=some ⟨b,off*s,none⟩) :
  RepV w ρ rt none (.isl false ((es.drop off).take len)) (.slice A len c):=by
 have hl:((es.drop off).take len).length=len:=by simp;omega
 have hget:∀(i:Nat) (e:V),((es.drop off).take len)[i]?=some e→es[off+i]?=some e:=fun i e he=>by
  rw[List.getElem?_take] at he
  split at he
  ·rwa[List.getElem?_drop] at he
  ·cases he
 by_cases h0:len=0
 ·subst h0
  simpa using RepV.isl0 none false A c (by simp)
 ·rw[hA h0]
  have:=RepV.isl (w:=w) (ρ:=ρ) (rt:=rt) none ((es.drop off).take len) b (off*s) c s (fun i k=>g (off+i) k) (by rw[hl];exact hlc) (by rw[hl];omega) f1 f2
   (fun i e he=>h3 _ _ (hget i e he))
   (fun i e k x he hx=>by
    have:=h4 _ _ _ _ (hget i e he) hx
    rwa[Nat.add_mul,Nat.add_assoc] at this)
   (fun i e k x he hx=>h5 _ _ _ _ (hget i e he) hx)
  rwa[hl] at this
theorem Xk {es:List V}{off len:Nat}:fS ((es.drop off).take len)=((fS es).drop off).take len:=by simp[sw]
theorem O2 (H:eS w ρ rt)(J:fp ρ)(hr:ij rt)(K:Keep N w ρ rt w ρ' rt'){v x:V}{u:Value}(h:gF rt v=some x)(hv:RepV w ρ rt none v u)(hn:aB N v)(hF:∀b o l,o∈eb v→ρ b=some (o,l)→ρ' b=none∧b<w.heap.size):RepV w ρ' rt' none x u∧nh x:=by
 unfold gF at h
 split at h
 ·rename_i o nv path s off len
  simp only[aV] at h
  obtain⟨⟨s1,es⟩,hl,h⟩:=h
  split at h
  ·rename_i hc
   cases h
   simp only at hc
   obtain⟨rfl,hc⟩:=hc
   have hes:=Kd hr hl
   refine⟨?_,by simp only[nh];exact zG (dN.2 fun x hx=>dN.1 hes x (List.mem_of_mem_drop (List.mem_of_mem_take hx)))⟩
   have hlive:cV rt o nv path:=by simp[cV,hl]
   cases hv with
   | hs _ _ _ _ _ _ _ _ hh h1=>
    obtain⟨c,A,rfl,hlc,hcc⟩:=hh hlive
    simp only[Xk]
    rcases (pP H hl).freeze K (fun b l hb _=>⟨(hF b o l (by simp[eb]) hb).1,(hF b o l (by simp[eb]) hb).2,rfl⟩) hes with rfl | ⟨b,g,f0,f1,f2,f3,f4,f5⟩
    ·have:len=0:=by simp at hc;omega
     subst this
     simpa using RepV.isl0 none false A c (by simp)
    ·refine aaM (g:=g) f1 f2 f3 f4 f5 (by rw[wl];exact hc) hlc fun h0=>?_
     obtain⟨b',n,hb,_,hA,_⟩:=hcc (by omega)
     have:=J _ _ _ f0 hb
     subst this
     exact hA
  ·cases h
 ·rename_i o nv path s i k
  simp only[aV] at h
  obtain⟨⟨s1,es⟩,hl,h⟩:=h
  have hs1:s=s1:=by
   split at h
   ·assumption
   ·cases h
  subst hs1
  simp only[if_true,ba] at h
  obtain⟨e,he,rfl⟩:=h
  have hes:=Kd hr hl
  refine⟨?_,by simp only[nh];exact Ot (dj hes he)⟩
  have hlive:cV rt o nv path:=by simp[cV,hl]
  cases hv with
  | hp _ _ _ _ _ _ _ _ hh h1=>
   obtain⟨b',n,hb,_,rfl⟩:=hh hlive
   rcases (pP H hl).freeze K (fun b l hb _=>⟨(hF b o l (by simp[eb]) hb).1,(hF b o l (by simp[eb]) hb).2,rfl⟩) hes with rfl | ⟨b,g,f0,f1,f2,f3,f4,f5⟩
   ·simp at he
   ·have:=J _ _ _ f0 hb
    subst this
    have hei:(fS es)[i]?=some (eH e):=by rw[nz,he];rfl
    exact .iptr _ (eH e) k b (i*s+k) (fun j=>g i (k+j)) f2 f1 (fun j x hx=>by rw[Nat.add_assoc];exact f4 i _ (k+j) x hei hx) fun j x hx=>f5 i _ (k+j) x hei hx
 ·cases h
  have hv':=hv.keep K hn
  refine⟨?_,by simpa[nh,aB] using hn⟩
  cases hv' with
  | isl0 _ _ A c _=>exact .isl0 _ _ A c (by simp)
  | isl _ _ b off c s g hl h0 hρ hb hs hc hh=>exact .isl _ _ b off c s g hl h0 hρ hb hs hc hh
 ·split at h
  ·rename_i hp
   cases h
   exact⟨hv.keep K hn,sA hp hn⟩
  ·cases h
end
section
variable {w w' : World} {ρ ρ' ρ'' : bX} {rt rt' rt'' : aw} {N : Nat→Nat→Prop}
theorem aay {es:List V}{s:Nat}{nv:Nat}{p:List (Nat×Nat)}(hf:es.all kJ=true)(h:(bG p s es).isSome=true):p=[]:=by
 match p,h with
 | [],_=>rfl
 | (i,k)::p,h=>
  exfalso
  simp only[bG] at h
  cases he:es[i]? with
  | none=>simp[he] at h
  | some e=>
   simp only[he] at h
   have h1:=List.all_eq_true.1 hf e (iO he)
   cases hc:(cells e)[k]? with
   | none=>simp[hc] at h
   | some x=>
    have h2:=List.all_eq_true.1 (show (cells e).all cZ=true from h1) x (iO hc)
    cases x<;>simp[hc] at h<;>simp[cZ] at h2
theorem OL {L L':Option dJ}{v:V}{u:Value}(K:Keep N w ρ rt w' ρ' rt')(h:RepV w ρ rt L v u)(hp:cZ v=true)(hn:nh v):RepV w' ρ' rt' L' v u:=by
 have hno:Ln.notOwn v:=by cases v<;>first | trivial | (simp[cZ] at hp)
 exact ((h.any (L':=none) hno).keep K (dB hn)).anyN
section
variable {P : Program} {E : Env} (A : Agree P E) {st : St} {a : Act} {o : Oper} (H : eS w ρ st.rt) (J : fp ρ) (T : kc w ρ st.rt st.tm a.tmps) (hr : ij st.rt) (hL : Lab w ρ st.rt kC) {Un : Nat→Prop} {id : Nat} (hm : Bf (cF Un st.rt) st.tm) (hi : Fresh Un st.rt id)
include A H J T hr hL hm hi
theorem adh {x:Operand}{xv:V}{t:TypeId}{ts:Array TypeId}{rt':aw}(ho:o.op=.call { callee:=.builtin .clear,args:=#[x],argTypes:=ts })(ht:ts[0]?=some t)(hx:ev st x=some xv)(h:oS E st.rt t xv=some rt') :
  ∃u w',(execOp a.eval o).run P w=.ok (.value u) w'∧lB Un w ρ st.rt id (.tup []) rt' u w':=by
 have tup0:∀{w':World} {ρ':bX} {rt':aw},bm w' ρ' rt' ca (.tup []) (.tuple #[]):=fun {w' ρ' rt'}=>bm.mk1 rfl (.tup none [] (fun _=>undef) (fun _ _=>undef) (fun c v h=>by simp at h) (fun c v k x h=>by simp at h))
 have hxr:=cU T hx
 unfold oS at h
 split at h
 ·split at h
  ·rename_i hs
   cases h
   obtain⟨e,he⟩:∃e,E.desc t=some (.slice e):=by
    unfold gc at hs
    split at hs
    ·rename_i e he;exact⟨e,he⟩
    ·cases hs
   have hu:=A.desc he
   obtain⟨A1,l,c,hev,_⟩:=kB (bm.one rfl hxr)
   have hl:l=0:=by
    have:=bm.one rfl hxr
    rw[hev] at this
    cases this<;>first | rfl | (rename_i h0 _ _ _ _ _;simp at h0)
   subst hl
   refine⟨.tuple #[],w,?_,ρ,⟨H,J,hr,Keep.refl,hL,Wk.refl,fun o r h=>.inl ⟨r,h,Nat.le_refl _⟩,fun _ _ h=>h⟩,tup0,by simp[aB,dG]⟩
   cases A1<;>simp[execOp,ho,resolve,invoke,builtin,Builtin.clear_,ht,hev,run_underlying hu]
  ·cases h
 ·rename_i o1 nv s off len
  split at h
  ·rename_i e sz bt zv htt
   simp only[aV] at h
   obtain⟨ei,hei,z,hz,r,hro,h⟩:=h
   split at h
   ·rename_i hc
    obtain⟨⟨rfl,c2,c3,c4⟩,c5⟩:=hc
    simp only[Bool.and_eq_true] at c5
    cases h
    have hu:=A.und t _ htt
    simp only at hu
    have hp:=bm.one rfl hxr
    have hlive:cV st.rt o1 nv []:=by simp[cV,cJ,cy,hro,bG]
    obtain⟨c,AA,hev,hlc,hcc⟩:∃c AA,a.eval x=.slice AA len c∧len≤c∧(c≠0→∃b n,ρ b=some (o1,[])∧lH w b n∧AA=some ⟨b,off*r.s,none⟩∧(off+c)*r.s≤n):=by
     generalize a.eval x=up at hp
     cases hp with
     | hs _ _ _ _ _ _ _ _ hh _=>exact hh hlive
    generalize hes:r.es.take off++List.replicate len z++r.es.drop (off+len)=es'
    by_cases hlen:len=0
    ·subst hlen
     have hee:es'=r.es:=by rw[←hes];simp
     subst hee
     have hst:upd st.rt o1 (some ⟨r.nv,r.s,r.es⟩)=st.rt:=by
      funext y
      by_cases hy:y=o1
      ·subst hy;simp[upd,hro]
      ·simp[upd,hy]
     rw[hst]
     refine⟨.tuple #[],w,?_,ρ,⟨H,J,hr,Keep.refl,hL,Wk.refl,fun o r h=>.inl ⟨r,h,Nat.le_refl _⟩,fun _ _ h=>h⟩,tup0,by simp[aB,dG]⟩
     cases AA<;>simp[execOp,ho,resolve,invoke,builtin,Builtin.clear_,ht,hev,run_underlying hu]
    obtain⟨b,n,hb,⟨arr,TT,hbb,hsz⟩,rfl,hfit⟩:=hcc (by omega)
    obtain⟨g,hg1,hg2,hg3⟩:∃g:Nat→Nat→Value,(∀(i:Nat) (e:V),r.es[i]?=some e→(cells e).length=r.s)∧(∀(i:Nat) (e:V) k x,r.es[i]?=some e→(cells e)[k]?=some x→arr[i*r.s+k]?=some (g i k))∧
      (∀(i:Nat) (e:V) k x,r.es[i]?=some e→(cells e)[k]?=some x→RepV w ρ st.rt (some (o1,[(i,k)])) x (g i k)):=by
     rcases H o1 r hro with h0 | ⟨b',arr',T',g,h1,h2,h3,h4,h5⟩
     ·rw[h0] at c2;simp at c2;omega
     ·have:=J b b' _ hb h1
      subst this
      rw[hbb] at h2
      cases h2
      exact⟨g,h3,h4,h5⟩
    have hzs:=vu (jH (w:=w) (ρ:=ρ) (rt:=st.rt) hz ca) (iM hz)
    have hzc:ei.zv.cells.size=r.s:=by rw[←hzs.1];exact c3
    have hzcells:Builtin.zeroCells ei.zv.cells len=madeCells ei.zv.cells (len*r.s):=by simp[Builtin.zeroCells,madeCells,hzc]
    have hnsz:(Builtin.zeroCells ei.zv.cells len).toList.length=len*r.s:=by rw[hzcells];simp[size_madeCells]
    have hone:∀u∈(Builtin.zeroCells ei.zv.cells len).toList,u.oneCell'=true:=by
     intro u hu'
     obtain⟨j,hj⟩:=List.mem_iff_getElem?.1 hu'
     have hjl:=(cX.1 hj).1
     rw[hnsz] at hjl
     have hd:j / r.s<len:=Nat.div_lt_of_lt_mul (by rw[Nat.mul_comm];exact hjl)
     have hm':j % r.s<r.s:=Nat.mod_lt _ c4
     have hdm:j / r.s*r.s+j % r.s=j:=by rw[Nat.mul_comm];exact Nat.div_add_mod j r.s
     have h2:=tv (n:=len) hzc hd hm'
     rw[hdm,←hzcells] at h2
     simp only[Array.getElem?_toList] at hj
     rw[hj] at h2
     have hcz:(cells z)[j % r.s]?=some ((cells z)[j % r.s]'(by omega)):=em _
     have hr2:=hzs.2 _ _ _ hcz h2.symm
     have:=vp hr2 (List.all_eq_true.1 (iM hz) _ (iO hcz))
     cases u<;>first | rfl | exact this.elim
    have hle:(off+len)*r.s≤arr.size:=by
     have:(off+len)*r.s≤(off+c)*r.s:=Nat.mul_le_mul_right _ (by omega)
     omega
    have hadd:(off+len)*r.s=off*r.s+len*r.s:=Nat.add_mul ..
    have hrun:=run_storeCells_at P b (off*r.s) TT (Builtin.zeroCells ei.zv.cells len).toList 0 arr w hbb (by rw[hnsz];omega) hone
    simp only[Nat.add_zero,hnsz] at hrun
    generalize harr':(arr.toList.take (off*r.s)++(Builtin.zeroCells ei.zv.cells len).toList++arr.toList.drop (off*r.s+len*r.s)).toArray=arr' at hrun
    have hget':∀j,arr'[j]?=if off*r.s≤j∧j<off*r.s+len*r.s then (Builtin.zeroCells ei.zv.cells len)[j - off*r.s]? else arr[j]?:=fun j=>by
     rw[←harr',List.getElem?_toArray,Eb (n:=len*r.s) hnsz (by simp;omega)]
     simp
    have hsz':arr'.size=arr.size:=by
     rw[←harr']
     have:=hnsz
     simp only[List.size_toArray,List.length_append,List.length_take,List.length_drop,this,Array.length_toList]
     omega
    have hw1:=setRow_heap w b arr arr' TT (0,0) hbb
    have hw2:∀c,c≠b→(w.setRow b arr').heap[c]?=w.heap[c]?:=fun c hc=>setRow_other w b c arr' hc
    have hlen':es'.length=r.es.length:=by rw[←hes];simp;omega
    have hesg:∀i:Nat,es'[i]?=if off≤i∧i<off+len then some z else r.es[i]?:=fun i=>by
     have:=Ro (xs:=r.es) (ys:=List.replicate len z) (k:=off) (n:=len) (k':=i) (by simp) c2
     rw[←hes,this]
     split
     ·rw[List.getElem?_replicate,if_pos (by omega)]
     ·rfl
    have hflat':es'.all kJ=true:=by
     refine List.all_eq_true.2 fun y hy=>?_
     obtain⟨i,hi'⟩:=List.mem_iff_getElem?.1 hy
     rw[hesg] at hi'
     split at hi'
     ·cases hi';exact c5.2
     ·exact List.all_eq_true.1 c5.1 y (iO hi')
    have blk:∀c n,lH w c n→lH (w.setRow b arr') c n:=by
     intro c n hcb
     by_cases hcb2:c=b
     ·subst hcb2
      obtain⟨arr2,T2,q1,q2⟩:=hcb
      rw[hbb] at q1
      cases q1
      exact⟨arr',_,hw1,by rw[hsz',q2]⟩
     ·obtain⟨arr2,T2,q1,q2⟩:=hcb
      exact⟨arr2,T2,by rw[hw2 c hcb2];exact q1,q2⟩
    have hneb:∀c L,ρ c=some L→L≠(o1,[])→c≠b:=by
     rintro c L h1 h2 rfl
     rw[hb] at h1
     cases h1
     exact h2 rfl
    have K:Keep (cF Un st.rt) w ρ st.rt (w.setRow b arr') ρ (upd st.rt o1 (some ⟨r.nv,r.s,es'⟩)):=by
     refine⟨fun c hc _=>⟨hc,hw2 c (by rintro rfl;rw[hb] at hc;cases hc)⟩,fun o' nv2 p' hN hl=>⟨?_,fun c n h1 h2=>⟨h1,blk c n h2⟩⟩,fun c l hc=>⟨hc,hw2 c (hneb c _ hc (by rintro h;cases h;rw[hL.z] at hro;cases hro))⟩⟩
     by_cases ho':o'=o1
     ·subst ho'
      unfold cV cJ at hl
      cases hvv':cy (upd st.rt o' (some ⟨r.nv,r.s,es'⟩)) o' nv2 p' with
      | none=>simp[hvv'] at hl
      | some r2=>
       obtain⟨h1,h2⟩:=eF hvv'
       simp[upd] at h1
       subst h1
       simp only[hvv',cG] at hl
       have:=aay (nv:=0) hflat' hl
       subst this
       simp[cV,cJ,cy,hro,bG]
     ·simpa[cV,cJ,cy,upd,ho'] using hl
    have hzn:nh z:=pW hz
    refine⟨.tuple #[],w.setRow b arr',?_,ρ,⟨?_,J,?_,K,?_,⟨rfl,rfl,rfl,by simp,blk⟩,?_,fun _ _ h=>h⟩,tup0,by simp[aB,dG]⟩
    ·obtain⟨m,rfl⟩:∃m,len=m+1:=⟨len - 1,by omega⟩
     simp[execOp,ho,resolve,invoke,builtin,Builtin.clear_,ht,hev,run_underlying hu,mQ A hei,hrun]
    ·intro o' r' hr'
     by_cases ho':o'=o1
     ·subst ho'
      simp[upd] at hr'
      subst hr'
      refine Lg (s:=r.s) (H o' r hro) hlen' (fun i e he=>?_) fun b2 arr2 T2 hb2 hh2=>?_
      ·rw[hesg] at he
       split at he
       ·cases he;exact c3
       ·exact hg1 i e he
      ·have:=J b b2 _ hb hb2
       subst this
       rw[hbb] at hh2
       cases hh2
       refine⟨arr',hb,hw1,fun i e k y he hy=>?_⟩
       have hk:=(cX.1 hy).1
       rw[hesg] at he
       split at he
       ·rename_i hin
        cases he
        rw[c3] at hk
        have hlt:i*r.s+k<off*r.s+len*r.s:=by
         have:(i+1)*r.s≤(off+len)*r.s:=Nat.mul_le_mul_right _ (by omega)
         rw[Nat.succ_mul,hadd] at this
         omega
        have hge:off*r.s≤i*r.s:=Nat.mul_le_mul_right _ hin.1
        have hsub:i*r.s+k - off*r.s=(i - off)*r.s+k:=by rw[Nat.sub_mul];omega
        have hzz:=Ja (jH (w:=w) (ρ:=ρ) (rt:=st.rt) hz ca) (iM hz) hy
        refine⟨_,by rw[hget',if_pos ⟨by omega,hlt⟩,hsub,hzcells,tv hzc (by omega) hk];exact hzz.1,?_⟩
        exact OL K hzz.2 (List.all_eq_true.1 (show (cells z).all cZ=true from c5.2) _ (iO hy)) (cr hzn hy)
       ·rename_i hin
        have hks:=hk
        rw[hg1 i e he] at hks
        refine⟨g i k,?_,?_⟩
        ·rw[hget',if_neg]
         ·exact hg2 i e k y he hy
         ·rintro⟨q1,q2⟩
          rcases Nat.lt_or_ge i off with h1 | h1
          ·have:(i+1)*r.s≤off*r.s:=Nat.mul_le_mul_right _ h1
           rw[Nat.succ_mul] at this
           omega
          ·have:(off+len)*r.s≤i*r.s:=Nat.mul_le_mul_right _ (by omega)
           omega
        ·exact OL K (hg3 i e k y he hy) (List.all_eq_true.1 (show (cells e).all cZ=true from List.all_eq_true.1 c5.1 e (iO he)) _ (iO hy)) (cr (dj (hr o' r hro) he) hy)
     ·simp[upd,ho'] at hr'
      exact cO.under K (fun c l hc _=>⟨hc,hw2 c (hneb c _ hc (by rintro h;cases h;exact ho' rfl))⟩) (H o' r' hr') (hr o' r' hr')
    ·intro o' r' hr'
     by_cases ho':o'=o1
     ·subst ho'
      simp[upd] at hr'
      subst hr'
      refine dN.2 fun y hy=>?_
      obtain⟨i,hi'⟩:=List.mem_iff_getElem?.1 hy
      rw[hesg] at hi'
      split at hi'
      ·cases hi';exact hzn
      ·exact dj (hr o' r hro) hi'
     ·simp[upd,ho'] at hr'
      exact hr o' r' hr'
    ·refine⟨fun c o' l hc=>⟨by simpa using (hL c o' l hc).1,?_⟩,?_,hL.f⟩
     ·rcases (hL c o' l hc).2 with h1 | ⟨r1,h1⟩
      ·exact .inl h1
      ·refine .inr ?_
       by_cases ho':o'=o1
       ·subst ho';exact⟨_,by simp[upd];rfl⟩
       ·exact⟨r1,by simpa[upd,ho'] using h1⟩
     ·have:(0:Nat)≠o1:=by rintro rfl;rw[hL.z] at hro;cases hro
      simp[upd,this,hL.z]
    ·intro o' r' hr'
     by_cases ho':o'=o1
     ·subst ho'
      simp[upd] at hr'
      subst hr'
      exact .inl ⟨r,hro,Nat.le_refl _⟩
     ·simp[upd,ho'] at hr'
      exact .inl ⟨r',hr',Nat.le_refl _⟩
   ·cases h
  ·cases h
 ·cases h
end
end
section
variable {w w' : World} {ρ ρ' ρ'' : bX} {rt rt' rt'' : aw} {N : Nat→Nat→Prop}
structure AbsL (N:Nat→Nat→Prop) (w:World) (ρ:bX) (rt:aw) (ρ':bX) (rt':aw) (U':Pl):Prop where
 rok:eS w ρ' rt'
 inj:fp ρ'
 rtn:ij rt'
 keep:Keep N w ρ rt w ρ' rt'
 lab:Lab w ρ' rt' U'
 nv:∀o r',rt' o=some r'→∃r,rt o=some r∧r'.nv=r.nv∧r'.s=r.s∧r'.es.length=r.es.length
 f0:∀b l,ρ' b=some (0,l)→ρ b=some (0,l)
theorem Abs.l {U:Pl}(a:Abs N w ρ rt ρ' rt' U):AbsL N w ρ rt ρ' rt' U:=⟨a.rok,a.inj,a.rtn,a.keep,a.lab,a.nv,a.f0⟩
theorem AbsL.gone {U:Pl}(a:AbsL N w ρ rt ρ' rt' U){x:Nat}(h:rt x=none):rt' x=none:=by
 cases hx:rt' x with
 | none=>rfl
 | some r=>
  obtain⟨r',h',_⟩:=a.nv x r hx
  rw[h] at h'
  cases h'
theorem AbsL.newRoot {U:Pl}(a:AbsL N w ρ rt ρ' rt' U){id:Nat}(hp:0<id)(hU:∀o l,U o l→o=0∨(o=id∧l≠[]))(d5:rt id=none)(hN:∀nv,N id nv){arr:Array Value}{T:TypeId}(hw:w'.heap=w.heap.push (.cells arr T (0,0)))(hos:w'.os=w.os)(hout:w'.output=w.output)(htape:w'.tape=w.tape){es:List V}{s:Nat}{g:Nat→Nat→Value}(hs:∀(i:Nat) (e:V),es[i]?=some e→(cells e).length=s)(hc:∀(i:Nat) (e:V) k x,es[i]?=some e→(cells e)[k]?=some x→arr[i*s+k]?=some (g i k))(hR:∀(i:Nat) (e:V) k x,es[i]?=some e→(cells e)[k]?=some x→RepV w ρ' rt' (some (id,[(i,k)])) x (g i k))(hn:nhs es) :
  Eff N w ρ rt w' (iD ρ' w.heap.size (id,[])) (upd rt' id (some ⟨0,s,es⟩)) id:=by
 obtain⟨h1,h2,h3,h4,h5⟩:=Ln.newRoot a.rok a.inj a.rtn a.lab hp hU (a.gone d5) hN hw hs hc hR hn
 refine⟨h1,h2,h3,a.keep.trans h4 (Nat.le_refl _),h5,Wk.push hw hos hout htape,fun o r h=>?_,fun b l h=>?_⟩
 rotate_left
 ·unfold iD at h
  split at h
  ·cases h;exact absurd hp (Nat.lt_irrefl _)
  ·exact a.f0 b l h
 by_cases ho:o=id
 ·subst ho;exact .inr ⟨Nat.le_refl _,by simp[cH]⟩
 ·simp[upd,ho] at h
  obtain⟨r',h',e,_⟩:=a.nv o r h
  exact .inl ⟨r',h',by omega⟩
theorem X6 (H:eS w ρ rt)(J:fp ρ)(hr:ij rt)(hL:Lab w ρ rt kC){o:Nat}{r:Root}(ho:rt o=some r):Abs N w ρ rt ρ (upd rt o none) (fun o' _=>o'=0∨o'=o):=by
 have ho0:0≠o:=by rintro rfl;rw[hL.z] at ho;cases ho
 have K:Keep N w ρ rt w ρ (upd rt o none):=⟨fun b hb _=>⟨hb,rfl⟩,fun o' nv p _ hl=>by
  have hne:o'≠o:=by
   rintro rfl
   simp[cV,cJ,cy,upd] at hl
  exact⟨by simpa[cV,cJ,cy,upd,hne] using hl,fun b n hb hn=>⟨hb,hn⟩⟩,fun b l hb=>⟨hb,rfl⟩⟩
 refine⟨?_,J,?_,K,?_,?_,?_,fun b l h=>h⟩
 ·intro o' r' h'
  by_cases hne:o'=o
  ·simp[upd,hne] at h'
  ·simp[upd,hne] at h'
   exact cO.under K (fun b l hb _=>⟨hb,rfl⟩) (H o' r' h') (hr o' r' h')
 ·intro o' r' h'
  by_cases hne:o'=o
  ·simp[upd,hne] at h'
  ·simp[upd,hne] at h'
   exact hr o' r' h'
 ·intro q d v u hq h hn
  exact RepV.under K (fun b l hb _=>⟨hb,rfl⟩) h hn
 ·refine⟨fun b o' l h=>⟨(hL _ _ _ h).1,?_⟩,by simp[upd,ho0,hL.z],fun b l h=>hL.f _ _ h⟩
  by_cases hne:o'=o
  ·exact .inl (.inr hne)
  ·rcases (hL _ _ _ h).2 with h1 | ⟨r',h1⟩
   ·exact .inl (.inl h1)
   ·exact .inr ⟨r',by simp[upd,hne,h1]⟩
 ·intro o' r' h'
  by_cases hne:o'=o
  ·simp[upd,hne] at h'
  ·simp[upd,hne] at h'
   exact⟨r',h',rfl,rfl,rfl⟩
def I9 (n:Nat):List (Nat×Nat)→List (Nat×Nat)
 | (i,k)::t=>(n+i,k)::t
 | []=>[]
def fk (ρ:bX)(q id n:Nat):bX:=fun b=>
 match ρ b with
 | none=>none
 | some (o,l)=>if o=q then (match l with
  | x::t=>some (id,I9 n (x::t))
  | []=>none)
  else if o=id then (match l with
  | (j,k)::t=>if j<n then some (o,(j,k)::t) else none
  | []=>some (o,[]))
  else some (o,l)
theorem SS {q id n b}(h:ρ b=none):fk ρ q id n b=none:=by simp[fk,h]
theorem tQ {q id n b o l}(h:ρ b=some (o,l))(h1:o≠q)(h2:o≠id):fk ρ q id n b=some (o,l):=by simp[fk,h,h1,h2]
theorem XP {q id n b x t}(h:ρ b=some (q,x::t)):fk ρ q id n b=some (id,I9 n (x::t)):=by simp[fk,h]
theorem shift_low {q id n b j k t}(h:ρ b=some (id,(j,k)::t))(h1:id≠q)(hj:j<n):fk ρ q id n b=some (id,(j,k)::t):=by simp[fk,h,h1,hj]
theorem XO {q id n b}(h:ρ b=some (id,[]))(h1:id≠q):fk ρ q id n b=some (id,[]):=by simp[fk,h,h1]
theorem mn {q id n b o' l'}(h:fk ρ q id n b=some (o',l')):(o'≠q∧o'≠id∧ρ b=some (o',l'))∨(o'=id∧((∃i k t,ρ b=some (q,(i,k)::t)∧l'=(n+i,k)::t)∨(id≠q∧ρ b=some (id,l')∧∀j k t,l'=(j,k)::t→j<n))):=by
 unfold fk at h
 split at h
 ·cases h
 ·rename_i o l hb
  split at h
  ·rename_i hq
   subst hq
   split at h
   ·rename_i x t
    cases h
    exact .inr ⟨rfl,.inl ⟨x.1,x.2,t,hb,rfl⟩⟩
   ·cases h
  ·rename_i hq
   split at h
   ·rename_i hi
    subst hi
    split at h
    ·rename_i j k t
     split at h
     ·rename_i hj
      cases h
      exact .inr ⟨rfl,.inr ⟨hq,hb,fun j' k' t' e=>by cases e;exact hj⟩⟩
     ·cases h
    ·cases h
     exact .inr ⟨rfl,.inr ⟨hq,hb,fun j' k' t' e=>by cases e⟩⟩
   ·rename_i hi
    cases h
    exact .inl ⟨hq,hi,hb⟩
theorem Lm {U:Pl}(a:AbsL N w ρ rt ρ' rt' U){q id n:Nat}(hU:∀o l,U o l→o=0∨o=q∨o=id)(hq0:q≠0)(hid0:id≠0)(hqi:id≠q)(hq:rt' q=none)(d5:rt' id=none) :
  Keep N w ρ' rt' w (fk ρ' q id n) rt'∧AbsL N w ρ rt (fk ρ' q id n) rt' (fun o _=>o=0∨o=id):=by
 have K:Keep N w ρ' rt' w (fk ρ' q id n) rt':=⟨fun b hb _=>⟨SS hb,rfl⟩,fun o nv p _ hl=>⟨hl,fun b m hb hm=>by
  have h1:o≠q:=by rintro rfl;simp[cV,cJ,cy,hq] at hl
  have h2:o≠id:=by rintro rfl;simp[cV,cJ,cy,d5] at hl
  exact⟨tQ hb h1 h2,hm⟩⟩,fun b l hb=>⟨tQ hb (Ne.symm hq0) (Ne.symm hid0),rfl⟩⟩
 refine⟨K,?_,?_,a.rtn,a.keep.trans K (Nat.le_refl _),?_,a.nv,fun b l h=>?_⟩
 ·intro o r h
  have h1:o≠q:=by rintro rfl;rw[hq] at h;cases h
  have h2:o≠id:=by rintro rfl;rw[d5] at h;cases h
  exact cO.under K (fun b l hb _=>⟨tQ hb h1 h2,rfl⟩) (a.rok o r h) (a.rtn o r h)
 ·rintro b b' ⟨o,l⟩ h h'
  rcases mn h with⟨h1,h2,h3⟩ | ⟨rfl,h1⟩
  ·rcases mn h' with⟨_,_,h4⟩ | ⟨rfl,_⟩
   ·exact a.inj _ _ _ h3 h4
   ·exact absurd rfl h2
  ·rcases mn h' with⟨_,h2,_⟩ | ⟨_,h2⟩
   ·exact absurd rfl h2
   ·rcases h1 with⟨i,k,t,e1,rfl⟩ | ⟨_,e1,e2⟩
    ·rcases h2 with⟨i',k',t',e3,e4⟩ | ⟨_,e3,e4⟩
     ·simp only[List.cons.injEq,Prod.mk.injEq] at e4
      obtain⟨⟨e5,rfl⟩,rfl⟩:=e4
      obtain rfl:i=i':=by omega
      exact a.inj _ _ _ e1 e3
     ·have:=e4 _ _ _ rfl
      omega
    ·rcases h2 with⟨i',k',t',e3,rfl⟩ | ⟨_,e3,e4⟩
     ·have:=e2 _ _ _ rfl
      omega
     ·exact a.inj _ _ _ e1 e3
 ·refine⟨fun b o l h=>?_,a.lab.z,fun b l h=>?_⟩
  ·rcases mn h with⟨h1,h2,h3⟩ | ⟨rfl,h1⟩
   ·refine⟨(a.lab _ _ _ h3).1,?_⟩
    rcases (a.lab _ _ _ h3).2 with hu | hu
    ·rcases hU _ _ hu with h4 | h4 | h4
     ·exact .inl (.inl h4)
     ·exact absurd h4 h1
     ·exact absurd h4 h2
    ·exact .inr hu
   ·refine⟨?_,.inl (.inr rfl)⟩
    rcases h1 with⟨i,k,t,e1,rfl⟩ | ⟨_,e1,e2⟩
    ·exact (a.lab _ _ _ e1).1
    ·exact (a.lab _ _ _ e1).1
  ·rcases mn h with⟨h1,h2,h3⟩ | ⟨h1,_⟩
   ·exact a.lab.f _ _ h3
   ·exact absurd h1.symm hid0
 ·rcases mn h with⟨h1,h2,h3⟩ | ⟨h1,_⟩
  ·exact a.f0 _ _ h3
  ·exact absurd h1.symm hid0
theorem RepV.shift {q id n:Nat}(K:Keep N w ρ rt w (fk ρ q id n) rt){i k:Nat}{v:V}{u:Value}(h:RepV w ρ rt (some (q,[(i,k)])) v u)(hn:nh v):RepV w (fk ρ q id n) rt (some (id,[(n+i,k)])) v u:=by
 have:=h.mono K (fun l=>(id,I9 n l.2)) (fun l=>l.1=q∧l.2≠[]) (fun l i' k' hl=>by
  obtain⟨l1,l2⟩:=l
  cases l2 with
  | nil=>exact absurd rfl hl.2
  | cons x t=>rfl) (fun l i' k' hl=>⟨hl.1,by simp[dJ.at]⟩) (fun b l hl hb=>by
  obtain⟨l1,l2⟩:=l
  obtain⟨rfl,hl2⟩:=hl
  cases l2 with
  | nil=>exact absurd rfl hl2
  | cons x t=>exact⟨XP hb,rfl⟩) (fun l hl=>by cases hl;exact⟨rfl,by simp⟩) (dB hn)
 simpa[I9] using this
theorem RepV.shift_low {q id n:Nat}(hqi:id≠q)(K:Keep N w ρ rt w (fk ρ q id n) rt){j k:Nat}(hj:j<n){v:V}{u:Value}(h:RepV w ρ rt (some (id,[(j,k)])) v u)(hn:nh v):RepV w (fk ρ q id n) rt (some (id,[(j,k)])) v u:=
 RepV.under K (fun b l hb hp=>by
  obtain⟨t,rfl⟩:=hp
  exact⟨Ln.shift_low hb hqi hj,rfl⟩) h hn
structure Src (w:World) (size:Nat) (es:List V) (u:Value) (g:Nat→Nat→Value):Prop where
 shape:∃A c,u=.slice A es.length c∧(es≠[]→∃b off,A=some ⟨b,off,none⟩∧∀(i:Nat) (e:V) k x,es[i]?=some e→(cells e)[k]?=some x→w.cell? ⟨b,off+(i*size+k),none⟩=some (g i k))
theorem S4 (H : eS w ρ rt)(J : fp ρ)(hr : ij rt)(hL : Lab w ρ rt kC){x : V}{u : Value}{es : List V}{size : Nat}(hx : RepV w ρ rt none x u)(hn : aB N x)(h : fH rt x = some (es, rt'))(hs : ∀ e ∈ es,(cells e).length=size)(h0 : 0 < size) : ∃ g,nhs es ∧ Src w size es u g ∧
      ((rt'=rt ∧ ∀ (i : Nat) (e : V) k x,es[i]?=some e→(cells e)[k]?=some x→RepV w ρ rt none x (g i k)) ∨
       ∃ q r,rt q=some r ∧ rt'=upd rt q none ∧ ∀ (i : Nat) (e : V) k x,es[i]?=some e→(cells e)[k]?=some x→RepV w ρ rt (some (q,[(i,k)])) x (g i k)):=by
  unfold fH at h
  split at h
  · rename_i nl es'
    cases h
    have hne : nhs es:=by simpa [aB] using hn
    cases hx with
    | isl0 _ _ A c hn=>exact ⟨fun _ _=>undef,by simp [nhs],⟨A,c,rfl,by simp⟩,.inl ⟨rfl,by simp⟩⟩
    | isl _ _ b off c s g hl hp hρ hb hs' hc hh =>
      obtain ⟨e0,he0⟩ : ∃ e,es[0]?=some e:=⟨_,em hp⟩
      have : s=size:=by rw [← hs' 0 e0 he0]; exact hs e0 (iO he0)
      subst this
      exact ⟨g,hne,⟨some ⟨b,off,none⟩,c,rfl,fun _=>⟨b,off,rfl,hc⟩⟩,.inl ⟨rfl,hh⟩⟩
  · rename_i o nv p s off len
    simp only [aV] at h
    obtain ⟨⟨s1,row⟩,hl,h⟩:=h
    simp only at h
    split at h
    · rename_i hc
      split at h
      · cases h
      · rename_i hs1
        have hs1 : s=s1:=Classical.byContradiction hs1
        subst hs1
        have hrn:=Kd hr hl
        have hrow:=pP H hl
        have hlive : cV rt o nv p:=by simp [cV,hl]
        have hget : ∀ (i : Nat) (e : V),((row.drop off).take len)[i]?=some e→row[off + i]?=some e:=fun i e he=>by
          rw [List.getElem?_take] at he
          split at he
          · rwa [List.getElem?_drop] at he
          · cases he
        have hlen : ((row.drop off).take len).length=len:=by simp; omega
        obtain ⟨c,A,rfl,hlc,hcc⟩ : ∃ c A,u=.slice A len c ∧ len ≤ c ∧ (c ≠ 0→∃ b n,ρ b=some (o,p) ∧ lH w b n ∧ A=some ⟨b,off * s,none⟩ ∧ (off + c) * s ≤ n):=by
          cases hx with
          | hs _ _ _ _ _ _ _ _ hh h1=>exact hh hlive
        have hsrc : ∃ g,Src w size ((row.drop off).take len) (.slice A len c) g ∧ ∀ (i : Nat) (e : V) k x,((row.drop off).take len)[i]?=some e→(cells e)[k]?=some x→RepV w ρ rt (some (o,p ++ [(off + i,k)])) x (g i k):=by
          have hs : ∀ e ∈ (row.drop off).take len,(cells e).length=size:=by
            split at h
            · cases h; exact hs
            · split at h
              · rename_i hcond
                cases h
                exact hs
              · cases h
          rcases hrow with rfl | ⟨b,arr,T,g,h1,h2,h3,h4,h5⟩
          · refine ⟨fun _ _=>undef,⟨A,c,?_,by simp⟩,by simp⟩
            rw [hlen]
          · refine ⟨fun i k=>g (off + i) k,⟨A,c,by rw [hlen],fun hne=>?_⟩,fun i e k x he hx=>h5 _ e k x (hget i e he) hx⟩
            · obtain ⟨b',n,hb,_,rfl,_⟩:=hcc (by
                intro h0
                have : len=0:=by omega
                subst this
                exact hne (by simp))
              have:=J _ _ _ h1 hb
              subst this
              refine ⟨b,off * s,rfl,fun i e k x he hx=>?_⟩
              have:=h4 _ e k x (hget i e he) hx
              have hes:=hs e (iO he)
              rw [h3 _ e (hget i e he)] at hes
              subst hes
              simp only [World.cell?,h2]
              rw [← Nat.add_assoc,← Nat.add_mul]
              exact this
        obtain ⟨g,sg,rg⟩:=hsrc
        have hnn : nhs ((row.drop off).take len):=dN.2 fun x hx=>dN.1 hrn x (List.mem_of_mem_drop (List.mem_of_mem_take hx))
        split at h
        · rename_i hfl
          cases h
          refine ⟨g,hnn,sg,.inl ⟨rfl,fun i e k x he hx=>?_⟩⟩
          have hp : cZ x=true:=List.all_eq_true.1 (by simpa [kJ] using List.all_eq_true.1 hfl e (iO he)) x (iO hx)
          exact (rg i e k x he hx).any (by cases x <;> first | trivial | exact absurd hp (by simp [cZ]))
        · split at h
          · rename_i hcond
            cases h
            obtain ⟨hp,h0',hll⟩:=hcond
            have hp' : p=[]:=by simpa using hp
            subst hp'
            subst h0'
            have hvo : ∃ r,rt o=some r:=by
              unfold cJ at hl
              simp only [aV] at hl
              obtain ⟨r,hr',_⟩:=hl
              exact ⟨r,(eF hr').1⟩
            obtain ⟨r,ho⟩:=hvo
            refine ⟨g,hnn,sg,.inr ⟨o,r,ho,rfl,fun i e k x he hx=>?_⟩⟩
            have:=rg i e k x he hx
            simpa using this
          · cases h
    · cases h
  · cases h
def jO (n size:Nat)(g:Nat→Nat→Value):List Value:=(List.range (n*size)).map fun j=>g (j / size) (j % size)
theorem jc {n size:Nat}{g:Nat→Nat→Value}:(jO n size g).length=n*size:=by simp[jO]
theorem vi {n size i k:Nat}{g:Nat→Nat→Value}(hi:i<n)(hk:k<size):(jO n size g)[i*size+k]?=some (g i k):=by
 have hlt:i*size+k<n*size:=by
  have:(i+1)*size≤n*size:=Nat.mul_le_mul_right _ hi
  rw[Nat.succ_mul] at this
  omega
 have h1:(i*size+k) / size=i:=by rw[Nat.mul_comm,Nat.mul_add_div (by omega),Nat.div_eq_of_lt hk,Nat.add_zero]
 have h2:(i*size+k) % size=k:=by rw[Nat.mul_comm,Nat.mul_add_mod,Nat.mod_eq_of_lt hk]
 simp[jO,hlt,h1,h2]
theorem OA {n size j:Nat}{g:Nat→Nat→Value}{v:Value}(h:(jO n size g)[j]?=some v):∃i k,i<n∧k<size∧j=i*size+k∧v=g i k:=by
 have hj:=(cX.1 h).1
 rw[jc] at hj
 have h0:0<size:=by
  rcases Nat.eq_zero_or_pos size with h | h
  ·subst h;simp at hj
  ·exact h
 refine⟨j / size,j % size,Nat.div_lt_of_lt_mul (by rw[Nat.mul_comm];exact hj),Nat.mod_lt _ h0,by rw[Nat.mul_comm];exact (Nat.div_add_mod j size).symm,?_⟩
 simp[jO,hj] at h
 exact h.symm
theorem Ob {P:Program}{w1:World}{size c:Nat}{A:Option Addr}{es:List V}{g:Nat→Nat→Value}(h:es≠[]→∃b off,A=some ⟨b,off,none⟩∧∀(i:Nat) (e:V) k x,es[i]?=some e→(cells e)[k]?=some x→w.cell? ⟨b,off+(i*size+k),none⟩=some (g i k))(hs:∀e∈es,(cells e).length=size)(hw:w1.heap=w.heap) :
  (Builtin.firstCells size es.length (.slice A es.length c)).run P w1=.ok (jO es.length size g).toArray w1:=by
 by_cases h0:es=[]
 ·subst h0
  cases A with
  | none=>simp[run_firstCells_none,jO]
  | some a=>exact run_firstCells_some w1 size 0 a 0 c (jO 0 size g) (by simp[jO]) (by simp[jO])
 ·obtain⟨b,off,rfl,hc⟩:=h h0
  refine run_firstCells_some w1 size es.length _ es.length c _ jc fun j v hv=>?_
  obtain⟨i,k,hi,hk,rfl,rfl⟩:=OA hv
  have he:es[i]?=some (es[i]):=em hi
  have hx:(cells es[i])[k]?=some ((cells es[i])[k]'(by rw[hs _ (List.getElem_mem _)];exact hk)):=em _
  rw[Addr.add_lit,←hc i _ k _ he hx]
  unfold World.cell?
  rw[hw]
theorem Src.first {P:Program}{w1:World}{size:Nat}{es:List V}{u:Value}{g:Nat→Nat→Value}(s:Src w size es u g)(hs:∀e∈es,(cells e).length=size)(hw:w1.heap=w.heap) :
  (Builtin.firstCells size es.length u).run P w1=.ok (jO es.length size g).toArray w1:=by
 obtain⟨A,c,rfl,h⟩:=s.shape
 exact Ob h hs hw
theorem OB {L:Nat→Nat→Option dJ}{size:Nat}{es:List V}{g:Nat→Nat→Value}(hrep:∀(i:Nat) (e:V) k x,es[i]?=some e→(cells e)[k]?=some x→RepV w ρ rt (L i k) x (g i k))(hs:∀e∈es,(cells e).length=size∧(cells e).all fx=true):∀v∈jO es.length size g,v.oneCell'=true:=by
 intro v hv
 obtain⟨j,hj⟩:=List.mem_iff_getElem?.1 hv
 obtain⟨i,k,hi,hk,rfl,rfl⟩:=OA hj
 have he:es[i]?=some (es[i]):=em hi
 have hx:(cells es[i])[k]?=some ((cells es[i])[k]'(by rw[(hs _ (List.getElem_mem _)).1];exact hk)):=em _
 have:=vp (hrep i _ k _ he hx) (List.all_eq_true.1 (hs _ (List.getElem_mem _)).2 _ (List.getElem_mem _))
 generalize g i k=y at this
 cases y<;>first | rfl | exact this.elim
end
section
variable {w w' : World} {ρ ρ' ρ'' : bX} {rt rt' rt'' : aw} {N : Nat→Nat→Prop}
structure Near (w:World) (ρ:bX) (w':World) (ρ':bX) (id:Nat):Prop where
 h1:∀b,ρ b=none→b<w.heap.size→ρ' b=none∧w'.heap[b]?=w.heap[b]?
 h2:∀b o l,ρ b=some (o,l)→(o≠id∨l≠[])→ρ' b=some (o,l)∧w'.heap[b]?=w.heap[b]?
 h3:∀b o l,ρ' b=some (o,l)→b<w'.heap.size∧(ρ b=some (o,l)∨(o=id∧l=[]))
 wk:Wk w w'
theorem Near.keep {id:Nat}(n:Near w ρ w' ρ' id)(hp:0<id)(d5:rt id=none)(hN:∀nv,N id nv){r:Option Root}:Keep N w ρ rt w' ρ' (upd rt id r):=by
 refine⟨fun b hb hl=>n.h1 b hb hl,fun o nv p hNo hl=>?_,fun b l hb=>n.h2 b 0 l hb (.inl (by omega))⟩
 have hne:o≠id:=by rintro rfl;exact hNo (hN nv)
 refine⟨by simpa[cV,cJ,cy,upd,hne] using hl,fun b m hb hbl=>?_⟩
 exact⟨(n.h2 b o p hb (.inl hne)).1,n.wk.blk b m hbl⟩
theorem Near.eff {U:Pl}(a:AbsL N w ρ rt ρ' rt' U){id:Nat}(hp:0<id)(hU:∀o l,U o l→o=0∨o=id)(d5:rt id=none)(hN:∀nv,N id nv){w':World}{ρ'':bX}(n:Near w ρ' w' ρ'' id)(J:fp ρ''){s:Nat}{es:List V}(row:cO w' ρ'' (upd rt' id (some ⟨0,s,es⟩)) (id,[]) s es)(hn:nhs es):Eff N w ρ rt w' ρ'' (upd rt' id (some ⟨0,s,es⟩)) id:=by
 have hid':=a.gone d5
 have K:=n.keep (N:=N) (rt:=rt') hp hid' hN (r:=some ⟨0,s,es⟩)
 refine⟨?_,J,?_,a.keep.trans K (Nat.le_refl _),?_,n.wk,?_,fun b l h=>a.f0 b l (by
  rcases (n.h3 b 0 l h).2 with h | h
  ·exact h
  ·omega)⟩
 ·intro o r h
  by_cases ho:o=id
  ·subst ho
   simp[upd] at h
   subst h
   exact row
  ·simp[upd,ho] at h
   exact cO.under K (fun b l hb _=>n.h2 b o l hb (.inl ho)) (a.rok o r h) (a.rtn o r h)
 ·intro o r h
  by_cases ho:o=id
  ·simp[upd,ho] at h
   subst h
   exact hn
  ·simp[upd,ho] at h
   exact a.rtn o r h
 ·refine⟨fun b o l h=>?_,by simp[upd,Nat.ne_of_lt hp,a.lab.z],fun b l h=>?_⟩
  rotate_left
  ·rcases (n.h3 b 0 l h).2 with h | h
   ·exact a.lab.f _ _ h
   ·omega
  obtain⟨h1,h2⟩:=n.h3 b o l h
  refine⟨h1,?_⟩
  by_cases ho:o=id
  ·exact .inr ⟨⟨0,s,es⟩,by simp[upd,ho]⟩
  ·rcases h2 with h2 | h2
   ·rcases (a.lab b o l h2).2 with hu | ⟨r,hu⟩
    ·rcases hU _ _ hu with h | h
     ·exact .inl h
     ·exact absurd h ho
    ·exact .inr ⟨r,by simp[upd,ho,hu]⟩
   ·exact absurd h2.1 ho
 ·intro o r h
  by_cases ho:o=id
  ·subst ho;exact .inr ⟨Nat.le_refl _,by simp[cH]⟩
  ·simp[upd,ho] at h
   obtain⟨r',h',e,_⟩:=a.nv o r h
   exact .inl ⟨r',h',by omega⟩
theorem WY {P:Program}{t t1 ty e e':TypeId}{i:TypeInfo}(ht:P.underlying t=some (.slice e))(ht1:P.underlying t1=some (.slice e'))(hi:P.info? e=some i){ts:Array TypeId}(h0:ts[0]?=some t)(h1:ts[1]?=some t1){g sLen sCap n:Nat}{cur:Array Value}{T:TypeId}{u:Value}{nw:List Value}(hg:w.heap[g]?=some (.cells cur T (0,0)))(hu:∃A c,u=.slice A n c)(hf:(Builtin.firstCells i.size n u).run P w=.ok nw.toArray w)(hone:∀v∈nw,v.oneCell'=true)(hroom:sLen+n≤sCap)(hfit:sLen*i.size+nw.length≤cur.size) :
  (Builtin.append_ ts ty #[.slice (some ⟨g,0,none⟩) sLen sCap,u]).run P w=.ok (.slice (some ⟨g,0,none⟩) (sLen+n) sCap) (w.setRow g (cur.toList.take (sLen*i.size)++nw++cur.toList.drop (sLen*i.size+nw.length)).toArray):=by
 obtain⟨A,c,rfl⟩:=hu
 have hst:=run_storeCells_at P g (sLen*i.size) T nw 0 cur w hg (by simpa using hfit) hone
 simp only[Nat.add_zero] at hst
 simp[Builtin.append_,h0,h1,run_underlying ht,run_underlying ht1,sizeOf,typeInfo,hi,Builtin.lenOf,hroom,hf,Addr.add_lit,hst]
theorem Bg {P:Program}{t t1 ty e e':TypeId}{i:TypeInfo}(ht:P.underlying t=some (.slice e))(ht1:P.underlying t1=some (.slice e'))(hi:P.info? e=some i){ts:Array TypeId}(h0:ts[0]?=some t)(h1:ts[1]?=some t1){A A':Option Addr}{sLen c c':Nat}(hc:sLen≤c):(Builtin.append_ ts ty #[.slice A sLen c,.slice A' 0 c']).run P w=.ok (.slice A sLen c) w:=by
 have hf:(Builtin.firstCells i.size 0 (.slice A' 0 c')).run P w=.ok #[] w:=by
  cases A' with
  | none=>exact run_firstCells_none w _ _ _ _
  | some a=>exact run_firstCells_some w i.size 0 a 0 c' [] (by simp) (by simp)
 cases A with
 | none=>simp[Builtin.append_,h0,h1,run_underlying ht,run_underlying ht1,sizeOf,typeInfo,hi,Builtin.lenOf,hc,hf]
 | some a=>simp[Builtin.append_,h0,h1,run_underlying ht,run_underlying ht1,sizeOf,typeInfo,hi,Builtin.lenOf,hc,hf,storeCells]
theorem Io {P:Program}{t t1 ty e e':TypeId}{i:TypeInfo}{z:Value}(ht:P.underlying t=some (.slice e))(ht1:P.underlying t1=some (.slice e'))(hi:P.info? e=some i)(hz:i.zero=some z){ts:Array TypeId}(h0:ts[0]?=some t)(h1:ts[1]?=some t1){A:Option Addr}{sLen sCap n:Nat}{u:Value}{olds nw:List Value}(hu:∃A c,u=.slice A n c)(ho:(Builtin.firstCells i.size sLen (.slice A sLen sCap)).run P w.drew=.ok olds.toArray w.drew)(hf:(Builtin.firstCells i.size n u).run P w.drew=.ok nw.toArray w.drew)(hg:sCap<sLen+n)(hl:sLen+n≤mX)(hb:(sLen+n)*i.bytes≤mX) :
  (Builtin.append_ ts ty #[.slice A sLen sCap,u]).run P w=.ok (.slice (some ⟨w.heap.size,0,none⟩) (sLen+n) (grownCap w (sLen+n) sCap e))
   (w.drew.alloc (.cells (olds++nw++(Builtin.zeroCells z.cells (grownCap w (sLen+n) sCap e - (sLen+n))).toList).toArray e)):=by
 obtain⟨A',c,rfl⟩:=hu
 have hlim:mX=1099511627776:=rfl
 have hn:¬(sLen+n≤sCap):=by omega
 have h63':¬(9223372036854775807<((sLen:Int)+(n:Int))):=by omega
 have h48':¬(281474976710656<Builtin.nextslicecap (sLen+n) sCap*i.bytes):=by
  have h1:Builtin.nextslicecap (sLen+n) sCap*i.bytes≤2*(sLen+n)*i.bytes:=Nat.mul_le_mul_right _ (nextslicecap_le hg)
  rw[Nat.mul_assoc] at h1
  omega
 simp[Builtin.append_,h0,h1,run_underlying ht,run_underlying ht1,sizeOf,typeInfo,zeroValue,hi,hz,Builtin.lenOf,hn,h63',h48',Question.forced,hf,ho,newRow,grownCap]
 congr 2
 apply Array.ext'
 simp
theorem zf {l:dJ}{s:Nat}{z:List V}{u:Value}(h:RepV w ρ rt (some l) (.usl s z) u):∃A c,∃g:Nat→Nat→Value,u=.slice A z.length c∧z.length≤c∧(∀(i:Nat) (e:V),z[i]?=some e→(cells e).length=s)∧
  (c≠0→∃b arr T,ρ b=some l∧w.heap[b]?=some (.cells arr T (0,0))∧A=some ⟨b,0,none⟩∧c*s≤arr.size∧∀(i:Nat) (e:V) k x,z[i]?=some e→(cells e)[k]?=some x→arr[i*s+k]?=some (g i k))∧
  (∀(i:Nat) (e:V) k x,z[i]?=some e→(cells e)[k]?=some x→RepV w ρ rt (some (l.at i k)) x (g i k)):=by
 cases h with
 | usl0 _ _ A=>exact⟨A,0,fun _ _=>undef,rfl,by simp,by simp,by simp,by simp⟩
 | usl _ _ _ b A c arr T g hρ hb hl hA hcap hs hc hh=>exact⟨A,c,g,rfl,hl,hs,fun h0=>⟨b,arr,T,hρ,hb,hA h0,hcap,hc⟩,hh⟩
theorem yo {o nv:Nat}{p:List (Nat×Nat)}{s off len:Nat}{v:V}(h:cS rt (.hs o nv p s off len)=some (v,rt')){s1:Nat}{row:List V}(hl:cJ rt o nv p=some (s1,row)):v=.usl s1 (row.take len)∧s=s1∧off=0:=by
 unfold cS at h
 unfold cJ at hl
 simp only[aV] at h hl
 obtain⟨r,hr,x,hx,h⟩:=h
 obtain⟨r',hr',hx'⟩:=hl
 rw[hr] at hr'
 cases hr'
 rw[hx] at hx'
 cases hx'
 split at h
 ·rename_i hc
  simp only[ba] at h
  obtain⟨_,_,h⟩:=h
  cases h
  exact⟨rfl,hc.2.2,hc.1⟩
 ·cases h
theorem adt (H:eS w ρ rt)(J:fp ρ)(hr:ij rt)(hL:Lab w ρ rt kC){id:Nat}(hp:0<id)(d5:rt id=none){es:List V}{g:Nat→Nat→Value}(hn:nhs es)(h:(rt'=rt∧∀(i:Nat) (e:V) k x,es[i]?=some e→(cells e)[k]?=some x→RepV w ρ rt none x (g i k))∨
   ∃q r,rt q=some r∧rt'=upd rt q none∧∀(i:Nat) (e:V) k x,es[i]?=some e→(cells e)[k]?=some x→RepV w ρ rt (some (q,[(i,k)])) x (g i k)) :
  ∃ρ1,AbsL N w ρ rt ρ1 rt' (fun o l=>o=0∨(o=id∧l≠[]))∧∀(i:Nat) (e:V) k x,es[i]?=some e→(cells e)[k]?=some x→RepV w ρ1 rt' (some (id,[(i,k)])) x (g i k):=by
 rcases h with⟨rfl,h⟩ | ⟨q,r,ho,rfl,h⟩
 ·exact⟨ρ,((Abs.refl H J hr hL).weaken fun o l h=>.inl h).l,fun i e k x he hx=>(h i e k x he hx).anyN⟩
 ·have hq0:q≠0:=by rintro rfl;rw[hL.z] at ho;cases ho
  have hqi:id≠q:=by rintro rfl;rw[ho] at d5;cases d5
  have a:=X6 (N:=N) H J hr hL ho
  obtain⟨K,b⟩:=Lm (n:=0) a.l (q:=q) (id:=id) (fun o l h=>h.imp (fun h=>h) fun h=>.inl h) hq0 (Nat.ne_of_gt hp) hqi (by simp[upd]) (a.gone d5)
  refine⟨_,{ b with lab:=⟨fun x o l hx=>⟨(b.lab x o l hx).1,?_⟩,b.lab.z,b.lab.f⟩ },fun i e k x he hx=>?_⟩
  ·rcases (b.lab x o l hx).2 with (h1 | rfl) | h1
   ·exact .inl (.inl h1)
   ·refine .inl (.inr ⟨rfl,?_⟩)
    rintro rfl
    rcases mn hx with⟨_,h2,_⟩ | ⟨_,⟨i,k,t,_,h2⟩ | ⟨_,h2,_⟩⟩
    ·exact h2 rfl
    ·cases h2
    ·rcases (hL _ _ _ h2).2 with h3 | ⟨r',h3⟩
     ·exact absurd h3 (Nat.ne_of_gt hp)
     ·rw[d5] at h3;cases h3
   ·exact .inr h1
  ·have h1:=RepV.under a.keep (fun b l hb _=>⟨hb,rfl⟩) (h i e k x he hx) (cr (dj hn he) hx)
   simpa using h1.shift K (cr (dj hn he) hx)
theorem adu (H:eS w ρ rt)(J:fp ρ)(hr:ij rt)(hL:Lab w ρ rt kC){id:Nat}(hp:0<id)(d5:rt id=none){es z:List V}{g:Nat→Nat→Value}(hn:nhs es)(h:(rt'=rt∧∀(i:Nat) (e:V) k x,es[i]?=some e→(cells e)[k]?=some x→RepV w ρ rt none x (g i k))∨
   ∃q r,rt q=some r∧rt'=upd rt q none∧∀(i:Nat) (e:V) k x,es[i]?=some e→(cells e)[k]?=some x→RepV w ρ rt (some (q,[(i,k)])) x (g i k)){o1 nv s:Nat}{p:List (Nat×Nat)}{dv:V}{ud:Value}(hd:RepV w ρ rt none (.hs o1 nv p s 0 z.length) ud)(hdn:aB N (.hs o1 nv p s 0 z.length))(hz:cJ rt' o1 nv p=some (s,z))(hab:cS rt' (.hs o1 nv p s 0 z.length)=some (dv,rt'')) :
  ∃ρ3,AbsL N w ρ rt ρ3 rt'' (fun o _=>o=0∨o=id)∧nhs z∧(∀(i:Nat) (e:V) k x,es[i]?=some e→(cells e)[k]?=some x→RepV w ρ3 rt'' (some (id,[(z.length+i,k)])) x (g i k))∧
   ∃A c,∃gz:Nat→Nat→Value,ud=.slice A z.length c∧z.length≤c∧(∀(i:Nat) (e:V),z[i]?=some e→(cells e).length=s)∧
    (c≠0→∃b arr T,ρ3 b=some (id,[])∧w.heap[b]?=some (.cells arr T (0,0))∧A=some ⟨b,0,none⟩∧c*s≤arr.size∧∀(i:Nat) (e:V) k x,z[i]?=some e→(cells e)[k]?=some x→arr[i*s+k]?=some (gz i k))∧
    (∀(i:Nat) (e:V) k x,z[i]?=some e→(cells e)[k]?=some x→RepV w ρ3 rt'' (some (id,[(i,k)])) x (gz i k)):=by
 rcases h with⟨rfl,h⟩ | ⟨q,r,ho,rfl,h⟩
 ·obtain⟨ρ2,ab2,dr,dn,dc⟩:=ni (N:=N) H J hr hL (q:=id) (dst:=[]) (fun l h=>absurd hp (by simp only[kC] at h;omega)) (Nat.ne_of_gt hp) d5 hd hdn hab
  obtain⟨rfl,_,_⟩:=yo hab hz
  rw[List.take_length] at dr dn
  have hzn:nhs z:=by simpa[nh] using dn
  exact⟨ρ2,(ab2.weaken fun o l h=>h.imp (fun h=>h) fun h=>h.1).l,hzn,fun i e k x he hx=>((h i e k x he hx).keep ab2.keep (dB (cr (dj hn he) hx))).anyN,zf dr⟩
 ·have hq0:q≠0:=by rintro rfl;rw[hL.z] at ho;cases ho
  have hqi:id≠q:=by rintro rfl;rw[ho] at d5;cases d5
  have a:=X6 (N:=N) H J hr hL ho
  obtain⟨ρ2,ab2,dr,dn,dc⟩:=ni (N:=N) a.rok a.inj a.rtn a.lab (q:=id) (dst:=[]) (fun l h=>h.elim (fun h=>absurd hp (by omega)) hqi) (Nat.ne_of_gt hp) (a.gone d5) (hd.keep a.keep hdn) hdn hab
  obtain⟨rfl,_,_⟩:=yo hab hz
  rw[List.take_length] at dr dn
  have hzn:nhs z:=by simpa[nh] using dn
  have abs:=a.trans ab2
  have hq:rt'' q=none:=ab2.gone (by simp[upd])
  obtain⟨K,b⟩:=Lm (n:=z.length) abs.l (q:=q) (id:=id) (fun o l h=>by
   rcases h with (h | h) | h
   ·exact .inl h
   ·exact .inr (.inl h)
   ·exact .inr (.inr h.1)) hq0 (Nat.ne_of_gt hp) hqi hq (abs.gone d5)
  obtain⟨A,c,gz,h1,h2,h3,h4,h5⟩:=zf dr
  refine⟨_,b,hzn,fun i e k x he hx=>?_,A,c,gz,h1,h2,h3,fun hc=>?_,fun i e k x he hx=>?_⟩
  ·have q1:=RepV.under a.keep (fun b l hb _=>⟨hb,rfl⟩) (h i e k x he hx) (cr (dj hn he) hx)
   exact (ab2.tr q _ _ _ (by simp[upd]) q1 (cr (dj hn he) hx)).shift K (cr (dj hn he) hx)
  ·obtain⟨b,arr,T,q1,q2,q3,q4,q5⟩:=h4 hc
   exact⟨b,arr,T,XO q1 hqi,q2,q3,q4,q5⟩
  ·exact RepV.shift_low hqi K (cX.1 he).1 (h5 i e k x he hx) (cr (dj hzn he) hx)
section
variable {P : Program} {E : Env} (A : Agree P E) {st : St} {a : Act} {o : Oper} (H : eS w ρ st.rt) (J : fp ρ) (T : kc w ρ st.rt st.tm a.tmps) (hr : ij st.rt) (hL : Lab w ρ st.rt kC) {Un : Nat→Prop} {id : Nat} (hm : Bf (cF Un st.rt) st.tm) (hi : Fresh Un st.rt id)
include A H J T hr hL hm hi
theorem aaR {t t1:TypeId}{x y:Operand}{d xv v:V}{ts:Array TypeId}{rt':aw}(ho:o.op=.call { callee:=.builtin .append,args:=#[x,y],argTypes:=ts })(h0:ts[0]?=some t)(h1:ts[1]?=some t1)(hs1:gc (E.desc t1)=true)(hd:ev st x=some d)(hx:ev st y=some xv)(h:ln E st.rt id t d xv=some (v,rt')) :
  ∃u w',(execOp a.eval o).run P w=.ok (.value u) w'∧lB Un w ρ st.rt id v rt' u w':=by
 obtain⟨e',he'⟩:∃e',P.underlying t1=some (.slice e'):=by
  cases hq:E.desc t1 with
  | none=>simp[hq,gc] at hs1
  | some d=>cases d<;>simp[hq,gc] at hs1;exact⟨_,A.desc hq⟩
 have hN:∀nv,cF Un st.rt id nv:=fun nv=>.inl hi.uid
 have d5:=hi.at
 have go:∀u w',(Builtin.append_ ts o.type #[a.eval x,a.eval y]).run P w=.ok u w'→lB Un w ρ st.rt id v rt' u w'→∃u w',(execOp a.eval o).run P w=.ok (.value u) w'∧lB Un w ρ st.rt id v rt' u w':=by
  intro u w' hrun hout
  exact⟨u,w',by simp[execOp,ho,resolve,invoke,builtin,hrun],hout⟩
 unfold ln at h
 split at h
 ·rename_i e sz bt zv htt
  simp only[aV] at h
  obtain⟨ei,hei,⟨es,rt1⟩,hes,h⟩:=h
  split at h
  ·rename_i hall
   simp only at hall
   obtain⟨⟨hpos,hzs⟩,hall⟩:=hall
   have hall':∀e∈es,(cells e).length=ei.size∧(cells e).all fx=true:=fun e he=>by
    have:=List.all_eq_true.1 hall e he
    simp only[Bool.and_eq_true,beq_iff_eq] at this
    exact this
   have hsz:∀e∈es,(cells e).length=ei.size:=fun e he=>(hall' e he).1
   obtain⟨i,hi1,hi2,hi3,hi4⟩:=A.info e ei hei
   have hu:=A.und t _ htt
   simp only at hu
   have hxa:aA xv=false:=by cases xv<;>first | rfl | simp[fH] at hes
   obtain⟨g,hesn,src,hmv⟩:=S4 (N:=cF Un st.rt) H J hr hL (bm.one hxa (cU T hx)) (gN hm hx) hes hsz hpos
   have shape:=src.shape
   obtain⟨Ax,cx,hux,hAx⟩:=shape
   have hfirst:∀w1:World,w1.heap=w.heap→(Builtin.firstCells i.size es.length (a.eval y)).run P w1=.ok (jO es.length ei.size g).toArray w1:=fun w1 hw1=>by
    rw[hi2]
    exact src.first hsz hw1
   have hone:∀v∈jO es.length ei.size g,v.oneCell'=true:=by
    rcases hmv with⟨_,h⟩ | ⟨q,r,_,_,h⟩
    ·exact OB h hall'
    ·exact OB h hall'
   split at h
   ·-- nothing yet
    rename_i nl
    split at h
    ·rename_i hlim
     cases h
     simp only at hlim ⊢
     obtain⟨l1,l2⟩:=hlim
     have hdr:=bm.one rfl (cU T hd)
     have hud:a.eval x=.slice none 0 0:=by
      generalize a.eval x=ud at hdr
      cases hdr with
      | isl0 _ _ _ c hn=>obtain⟨rfl,rfl⟩:=hn rfl;rfl
     obtain⟨ρ1,ab,hrep⟩:=adt (N:=cF Un st.rt) H J hr hL hi.p d5 hesn hmv
     by_cases hne:es=[]
     ·subst hne
      have hrun:=Bg (P:=P) (w:=w) (ty:=o.type) hu he' hi1 h0 h1 (A:=none) (sLen:=0) (c:=0) (A':=Ax) (c':=cx) (Nat.le_refl _)
      refine go (.slice none 0 0) w (by rw[hud,hux];exact hrun) ⟨ρ1,?_,bm.mk1 rfl (.hs _ _ _ _ _ _ _ _ (fun _=>⟨0,none,rfl,Nat.le_refl _,fun h=>absurd rfl h⟩) trivial),kN A H J T hr hL hm hi⟩
      refine Near.eff ab hi.p (fun o l h=>h.imp (fun h=>h) fun h=>h.1) d5 hN ⟨fun b hb _=>⟨hb,rfl⟩,fun b o l hb _=>⟨hb,rfl⟩,fun b o l hb=>⟨(ab.lab b o l hb).1,.inl hb⟩,Wk.refl⟩ ab.inj (.inl rfl) hesn
     ·have hpe:0<es.length:=List.length_pos_iff.2 hne
      have hrun:=Io (P:=P) (w:=w) (ty:=o.type) (u:=a.eval y) (olds:=[]) hu he' hi1 hi4 h0 h1 (A:=none) (sLen:=0) (sCap:=0) (n:=es.length) ⟨_,_,hux⟩ (by simp[run_firstCells_none]) (hfirst _ rfl) (by omega) (by omega) (by rw[Nat.zero_add,hi3];exact l1)
      rw[Nat.zero_add] at hrun
      simp only[List.nil_append] at hrun
      generalize hcap:grownCap w es.length 0 e=cap at hrun
      have hge:es.length≤cap:=by rw[←hcap];exact grownCap_ge _ _ _ _
      generalize harr:(jO es.length ei.size g++(Builtin.zeroCells ei.zv.cells (cap - es.length)).toList).toArray=arr at hrun
      refine go _ _ (by rw[hud];exact hrun) ⟨iD ρ1 w.heap.size (id,[]),?_,bm.mk1 rfl (Oz (w:=w) (w':=w.drew.alloc (.cells arr e)) rfl hge ?_),kN A H J T hr hL hm hi⟩
      ·refine AbsL.newRoot (w':=w.drew.alloc (.cells arr e)) (es:=es) (T:=e) (g:=g) ab hi.p (fun o l h=>h) d5 hN rfl rfl rfl rfl (fun i e he=>hsz e (iO he)) ?_ hrep hesn
       intro i e k x he hx
       have hi':=(cX.1 he).1
       have hk:=(cX.1 hx).1
       rw[hsz e (iO he)] at hk
       rw[←harr,List.getElem?_toArray,mt]
       ·exact vi hi' hk
       ·exact (cX.1 (vi (g:=g) hi' hk)).1
      ·rw[←harr]
       simp only[List.size_toArray,List.length_append,jc,Array.length_toList,size_zeroCells,hzs]
       rw[←Nat.add_mul]
       exact Nat.mul_le_mul_right _ (by omega)
    ·cases h
   ·rename_i o1 nv p s off len
    simp only[aV] at h
    obtain⟨⟨s1,z⟩,hz,h⟩:=h
    split at h
    ·rename_i hcond
     simp only at hcond
     obtain⟨c1,c2,c3,c4,c5⟩:=hcond
     simp only[ba] at h
     obtain⟨⟨dv,rt2⟩,hab,h⟩:=h
     cases h
     have hdn:=gN hm hd
     obtain⟨rfl,hs1',rfl⟩:=yo hab hz
     subst hs1'
     subst c2
     subst c3
     obtain⟨ρ2,abs,hzn,hesr,Ad,c,gz,hud,hlc,hzl,hblk,hzr⟩:=adu (N:=cF Un st.rt) H J hr hL hi.p d5 hesn hmv (bm.one rfl (cU T hd)) hdn hz hab
     have hesn':nhs (z++es):=dN.2 fun x hx=>by
      rcases List.mem_append.1 hx with h | h
      ·exact dN.1 hzn x h
      ·exact dN.1 hesn x h
     have hU:∀o l,(fun (o:Nat) (_:List (Nat×Nat))=>o=0∨o=id) o l→o=0∨o=id:=fun o l h=>h
     have hzl':∀e∈z,(cells e).length=ei.size:=fun e he=>by
      obtain⟨j,hj⟩:=List.mem_iff_getElem?.1 he
      exact hzl j e hj
     have hboth:∀(j:Nat) (e:V),(z++es)[j]?=some e→(j<z.length∧z[j]?=some e)∨(z.length≤j∧es[j - z.length]?=some e):=fun j e he=>by
      by_cases hj:j<z.length
      ·rw[mt hj] at he;exact .inl ⟨hj,he⟩
      ·rw[ph (by omega)] at he;exact .inr ⟨by omega,he⟩
     by_cases hne:es=[]
     ·subst hne
      have hrun:=Bg (P:=P) (w:=w) (ty:=o.type) hu he' hi1 h0 h1 (A:=Ad) (sLen:=z.length) (c:=c) (A':=Ax) (c':=cx) hlc
      simp only[List.append_nil,List.length_nil,Nat.add_zero] at go ⊢
      refine go (.slice Ad z.length c) w (by rw[hud,hux];exact hrun) ⟨ρ2,?_,bm.mk1 rfl (.hs _ _ _ _ _ _ _ _ (fun _=>⟨c,Ad,rfl,hlc,fun hc0=>?_⟩) trivial),kN A H J T hr hL hm hi⟩
      ·have n0:Near w ρ2 w ρ2 id:=⟨fun b hb _=>⟨hb,rfl⟩,fun b o l hb _=>⟨hb,rfl⟩,fun b o l hb=>⟨(abs.lab b o l hb).1,.inl hb⟩,Wk.refl⟩
       refine Near.eff abs hi.p hU d5 hN n0 abs.inj ?_ hzn
       refine cO.under (n0.keep (N:=cF Un st.rt) (rt:=rt2) hi.p (abs.gone d5) hN) (fun b l hb _=>⟨hb,rfl⟩) ?_ hzn
       by_cases hz0:z=[]
       ·exact .inl hz0
       ·obtain⟨b,arr,TT,q1,q2,rfl,q4,q5⟩:=hblk (by have:=List.length_pos_iff.2 hz0;omega)
        exact .inr ⟨b,arr,TT,gz,q1,q2,hzl,q5,hzr⟩
      ·obtain⟨b,arr,TT,q1,q2,rfl,q4,q5⟩:=hblk hc0
       exact⟨b,_,q1,⟨arr,TT,q2,rfl⟩,by simp,by simpa using q4⟩
     ·have hpe:0<es.length:=List.length_pos_iff.2 hne
      by_cases hroom:z.length+es.length≤c
      ·-- in place
       obtain⟨b,arr,TT,q1,q2,rfl,q4,q5⟩:=hblk (by omega)
       have hfit:z.length*ei.size+es.length*ei.size≤arr.size:=by
        rw[←Nat.add_mul]
        exact Nat.le_trans (Nat.mul_le_mul_right _ hroom) q4
       have hrun:=WY (P:=P) (ty:=o.type) hu he' hi1 h0 h1 (u:=a.eval y) (sLen:=z.length) (sCap:=c) (n:=es.length) q2 ⟨_,_,hux⟩ (hfirst w rfl) hone hroom (by rw[jc,hi2];exact hfit)
       rw[jc,hi2] at hrun
       generalize harr':(arr.toList.take (z.length*ei.size)++jO es.length ei.size g++arr.toList.drop (z.length*ei.size+es.length*ei.size)).toArray=arr' at hrun
       have hget':∀j,arr'[j]?=if z.length*ei.size≤j∧j<z.length*ei.size+es.length*ei.size then (jO es.length ei.size g)[j - z.length*ei.size]? else arr[j]?:=fun j=>by
        rw[←harr',List.getElem?_toArray,Eb (n:=es.length*ei.size) jc (by simpa using hfit)]
        simp
       have hsz':arr'.size=arr.size:=by rw[←harr'];simp[jc];omega
       have hw1:=setRow_heap w b arr arr' TT (0,0) q2
       have hw2:∀c,c≠b→(w.setRow b arr').heap[c]?=w.heap[c]?:=fun c hc=>setRow_other w b c arr' hc
       have n0:Near w ρ2 (w.setRow b arr') ρ2 id:=by
        refine⟨fun b' hb _=>⟨hb,hw2 b' (by rintro rfl;rw[q1] at hb;cases hb)⟩,fun b' o l hb hn=>⟨hb,hw2 b' (by rintro rfl;rw[q1] at hb;cases hb;rcases hn with h | h<;>exact h rfl)⟩,fun b' o l hb=>⟨by simpa using (abs.lab b' o l hb).1,.inl hb⟩,rfl,rfl,rfl,by simp,fun b' n hb=>?_⟩
        obtain⟨a1,t1,p1,p2⟩:=hb
        by_cases hbb:b'=b
        ·subst hbb
         rw[q2] at p1
         cases p1
         exact⟨arr',TT,hw1,by rw[hsz',p2]⟩
        ·exact⟨a1,t1,by rw[hw2 b' hbb];exact p1,p2⟩
       have K:=n0.keep (N:=cF Un st.rt) (rt:=rt2) (r:=some ⟨0,ei.size,z++es⟩) hi.p (abs.gone d5) hN
       refine go _ _ (by rw[hud];exact hrun) ⟨ρ2,?_,bm.mk1 rfl (.hs _ _ _ _ _ _ _ _ (fun _=>⟨c,_,rfl,hroom,fun _=>⟨b,arr'.size,q1,⟨arr',TT,hw1,rfl⟩,by simp,by rw[hsz'];simpa using q4⟩⟩) trivial),kN A H J T hr hL hm hi⟩
       refine Near.eff abs hi.p hU d5 hN n0 abs.inj (.inr ⟨b,arr',TT,fun i k=>if i<z.length then gz i k else g (i - z.length) k,q1,hw1,?_,?_,?_⟩) hesn'
       ·intro j e he
        rcases hboth j e he with⟨_,h⟩ | ⟨_,h⟩
        ·exact hzl j e h
        ·exact hsz e (iO h)
       ·intro j e k x he hx
        have hk:=(cX.1 hx).1
        rcases hboth j e he with⟨hj,h⟩ | ⟨hj,h⟩
        ·rw[hzl j e h] at hk
         have:(j+1)*ei.size≤z.length*ei.size:=Nat.mul_le_mul_right _ hj
         rw[Nat.succ_mul] at this
         show arr'[j*ei.size+k]?=some (if j<z.length then _ else _)
         rw[if_pos hj,hget',if_neg (by omega)]
         exact q5 j e k x h hx
        ·have hje:=(cX.1 h).1
         rw[hsz e (iO h)] at hk
         have e1:j*ei.size+k=z.length*ei.size+((j - z.length)*ei.size+k):=by
          rw[←Nat.add_assoc,←Nat.add_mul]
          congr 2
          omega
         have e2:=vi (g:=g) hje hk
         have e3:=(cX.1 e2).1
         rw[jc] at e3
         show arr'[j*ei.size+k]?=some (if j<z.length then _ else _)
         rw[if_neg (by omega),hget',if_pos (by omega),e1,Nat.add_sub_cancel_left]
         exact e2
       ·intro j e k x he hx
        rcases hboth j e he with⟨hj,h⟩ | ⟨hj,h⟩
        ·show RepV _ _ _ _ _ (if j<z.length then _ else _)
         rw[if_pos hj]
         exact RepV.under K (fun b l hb hp=>n0.h2 b id l hb (.inr (by rintro rfl;obtain⟨t,ht⟩:=hp;simp at ht))) (hzr j e k x h hx) (cr (dj hzn h) hx)
        ·show RepV _ _ _ _ _ (if j<z.length then _ else _)
         rw[if_neg (by omega)]
         have e1:dJ.at (id,[]) j k=((id,[(z.length+(j - z.length),k)]):dJ):=by rw[show z.length+(j - z.length)=j by omega];rfl
         rw[e1]
         exact RepV.under K (fun b l hb hp=>n0.h2 b id l hb (.inr (by rintro rfl;obtain⟨t,ht⟩:=hp;simp at ht))) (hesr _ e k x h hx) (cr (dj hesn h) hx)
      ·-- elsewhere
       have hlo:∀w1:World,w1.heap=w.heap→(Builtin.firstCells i.size z.length (.slice Ad z.length c)).run P w1=.ok (jO z.length ei.size gz).toArray w1:=fun w1 hw1=>by
        rw[hi2]
        refine Ob (fun hzne=>?_) hzl' hw1
        obtain⟨b,arr,TT,q1,q2,rfl,q4,q5⟩:=hblk (by have:=List.length_pos_iff.2 hzne;omega)
        refine⟨b,0,rfl,fun i e k x he hx=>?_⟩
        rw[Nat.zero_add]
        simp only[World.cell?,q2]
        exact q5 i e k x he hx
       have hrun:=Io (P:=P) (w:=w) (ty:=o.type) (u:=a.eval y) hu he' hi1 hi4 h0 h1 (A:=Ad) (sLen:=z.length) (sCap:=c) (n:=es.length) ⟨_,_,hux⟩ (hlo _ rfl) (hfirst _ rfl) (by omega) c5 (by rw[hi3];exact c4)
       generalize hcap:grownCap w (z.length+es.length) c e=cap at hrun
       have hge:z.length+es.length≤cap:=by rw[←hcap];exact grownCap_ge _ _ _ _
       generalize harr:(jO z.length ei.size gz++jO es.length ei.size g++(Builtin.zeroCells ei.zv.cells (cap - (z.length+es.length))).toList).toArray=arr at hrun
       let ρ3:bX:=fun b=>if b=w.heap.size then some (id,[]) else if ρ2 b=some (id,[]) then none else ρ2 b
       have hw:(w.drew.alloc (.cells arr e)).heap=w.heap.push (.cells arr e (0,0)):=rfl
       have hlt:∀b o l,ρ2 b=some (o,l)→b<w.heap.size:=fun b o l hb=>(abs.lab b o l hb).1
       have hold:∀b,b<w.heap.size→(w.drew.alloc (.cells arr e)).heap[b]?=w.heap[b]?:=fun b hb=>by
        rw[hw,Array.getElem?_push,if_neg (by omega)]
       have n0:Near w ρ2 (w.drew.alloc (.cells arr e)) ρ3 id:=by
        refine⟨fun b hb hl=>⟨?_,hold b hl⟩,fun b o l hb hn=>⟨?_,hold b (hlt b o l hb)⟩,fun b o l hb=>?_,Wk.push hw rfl rfl rfl⟩
        ·simp[ρ3,Nat.ne_of_lt hl,hb]
        ·have:=hlt b o l hb
         simp only[ρ3]
         rw[if_neg (by omega),if_neg]
         ·exact hb
         ·rw[hb]
          intro hq
          cases hq
          rcases hn with h | h<;>exact h rfl
        ·simp only[ρ3] at hb
         split at hb
         ·cases hb
          rename_i hb'
          subst hb'
          exact⟨by rw[hw];simp,.inr ⟨rfl,rfl⟩⟩
         ·split at hb
          ·cases hb
          ·exact⟨by rw[hw];have:=hlt b o l hb;simp;omega,.inl hb⟩
       have J3:fp ρ3:=by
        intro b b' L hb hb'
        simp only[ρ3] at hb hb'
        split at hb<;>split at hb'
        ·simp_all
        ·cases hb
         split at hb'
         ·cases hb'
         ·rename_i h ;exact absurd hb' h
        ·cases hb'
         split at hb
         ·cases hb
         ·rename_i h ;exact absurd hb h
        ·split at hb
         ·cases hb
         ·split at hb'
          ·cases hb'
          ·exact abs.inj _ _ _ hb hb'
       have K:=n0.keep (N:=cF Un st.rt) (rt:=rt2) (r:=some ⟨0,ei.size,z++es⟩) hi.p (abs.gone d5) hN
       have hb3:ρ3 w.heap.size=some (id,[]):=by simp[ρ3]
       have hsz3:cap*ei.size≤arr.size:=by
        rw[←harr]
        simp only[List.size_toArray,List.length_append,jc,Array.length_toList,size_zeroCells,hzs]
        rw[←Nat.add_mul,←Nat.add_mul]
        exact Nat.mul_le_mul_right _ (by omega)
       have hnew:(w.drew.alloc (.cells arr e)).heap[w.heap.size]?=some (.cells arr e (0,0)):=by rw[hw];simp
       refine go _ _ (by rw[hud];exact hrun) ⟨ρ3,?_,bm.mk1 rfl (.hs _ _ _ _ _ _ _ _ (fun _=>⟨cap,_,rfl,hge,fun _=>⟨w.heap.size,arr.size,hb3,⟨arr,e,hnew,rfl⟩,by simp,by simpa using hsz3⟩⟩) trivial),kN A H J T hr hL hm hi⟩
       refine Near.eff abs hi.p hU d5 hN n0 J3 (.inr ⟨w.heap.size,arr,e,fun i k=>if i<z.length then gz i k else g (i - z.length) k,hb3,hnew,?_,?_,?_⟩) hesn'
       ·intro j e he
        rcases hboth j e he with⟨_,h⟩ | ⟨_,h⟩
        ·exact hzl j e h
        ·exact hsz e (iO h)
       ·intro j e k x he hx
        have hk:=(cX.1 hx).1
        rw[←harr,List.getElem?_toArray]
        rcases hboth j e he with⟨hj,h⟩ | ⟨hj,h⟩
        ·rw[hzl j e h] at hk
         have e2:=vi (g:=gz) hj hk
         have e3:=(cX.1 e2).1
         show _=some (if j<z.length then _ else _)
         rw[if_pos hj,List.append_assoc,mt e3]
         exact e2
        ·have hje:=(cX.1 h).1
         rw[hsz e (iO h)] at hk
         have e1:j*ei.size+k=z.length*ei.size+((j - z.length)*ei.size+k):=by
          rw[←Nat.add_assoc,←Nat.add_mul]
          congr 2
          omega
         have e2:=vi (g:=g) hje hk
         have e3:=(cX.1 e2).1
         show _=some (if j<z.length then _ else _)
         rw[if_neg (by omega),List.append_assoc,e1,ph (by rw[jc];omega),jc,Nat.add_sub_cancel_left,mt e3]
         exact e2
       ·intro j e k x he hx
        rcases hboth j e he with⟨hj,h⟩ | ⟨hj,h⟩
        ·show RepV _ _ _ _ _ (if j<z.length then _ else _)
         rw[if_pos hj]
         exact RepV.under K (fun b l hb hp=>n0.h2 b id l hb (.inr (by rintro rfl;obtain⟨t,ht⟩:=hp;simp at ht))) (hzr j e k x h hx) (cr (dj hzn h) hx)
        ·show RepV _ _ _ _ _ (if j<z.length then _ else _)
         rw[if_neg (by omega)]
         have e1:dJ.at (id,[]) j k=((id,[(z.length+(j - z.length),k)]):dJ):=by rw[show z.length+(j - z.length)=j by omega];rfl
         rw[e1]
         exact RepV.under K (fun b l hb hp=>n0.h2 b id l hb (.inr (by rintro rfl;obtain⟨t,ht⟩:=hp;simp at ht))) (hesr _ e k x h hx) (cr (dj hesn h) hx)
    ·cases h
   ·cases h
  ·cases h
 ·cases h
end
end
end Go.Ln
