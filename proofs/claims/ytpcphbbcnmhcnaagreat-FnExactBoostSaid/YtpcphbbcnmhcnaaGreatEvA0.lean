/- An evaluator over compact texts of Go functions is defined,and how it goes on is told,operation by operation; no condition. -/
import Derived.Calls
import Derived.Laws.AppendOwn
import Derived.Lib.SlicesCompact
set_option linter.all false
namespace Go.Pe
open Go
theorem bA {α β:Type} {x:Option α} {f:α->Option β} {b:β} (h:x.bind f=some b) : ∃ a,x=some a/\f a=some b:=Option.bind_eq_some_iff.mp h
theorem bB {α β:Type} {x:Option α} {f:α->β} {b:β}:Option.map f x=some b ↔ ∃ a,x=some a/\f a=b:=Option.map_eq_some_iff
theorem bC {α:Type} {a b:α}:(some a=some b)=(a=b):=Option.some.injEq a b
theorem bD {α:Type} {l:List α} {i:Nat} {a:α} (h:l[i]?=some a) : ∃ w:i<l.length,l[i]=a:=List.getElem?_eq_some_iff.mp h
theorem bF {α:Type} {l:List α} {i:Nat} {a:α} (h:l[i]?=some a):a∈l:=List.mem_of_getElem? h
theorem bG {α:Type} {l:List α} {i:Nat} (h:i<l.length):l[i]?=some l[i]:=List.getElem?_eq_getElem h
theorem bH {α:Type} {l:List α} {a:α} (h:a∈l) : ∃ i:Nat,l[i]?=some a:=List.getElem?_of_mem h
theorem bI {a b:Prop} (x:a) (y:b):a/\b:=⟨x,y⟩
inductive PV where
 | undef
 | v (x:Value)
 | e0
 | sl (sz:Nat) (es:List (List PV))
 | own (sz:Nat) (es:List (List PV))
 | bx (cs:List PV)
 | ref (o:Nat) (p:Option (Nat×Nat)) (ep lo len:Nat)
 | ptr (o:Nat) (p:Option (Nat×Nat)) (ep i j:Nat)
 | fptr (cs:List PV) (j:Nat)
 | fn (f:Nat) (caps:List PV)
 | agg (cs:List PV)
 | tup (vs:List PV)
inductive Ob where
 | row (sz:Nat) (es:List (List PV))
 | rowF (sz:Nat) (es:List (List PV))
 | box (cs:List PV)
 | shadow (sz:Nat) (es:List (List PV)) (ep:Nat)
structure St where
 V:Nat->PV
 E:Nat->PV
 S:Nat->Option Ob
 nx:Nat
 ep:Nat
inductive Opd where
 | V (k:Nat)
 | E (k:Nat)
 | C (x:PV)
inductive Dst where
 | V (k:Nat)
 | E (k:Nat)
inductive Kd where
 | b
 | i (k:IntKind)
 | s
inductive IOp where
 | mv (x:Opd)
 | pick (c a b:Opd)
 | alloc (z:List PV)
 | box (x:Opd)
 | build (z:List PV) (parts:List (Nat×Nat×Opd))
 | bslice (n sz:Nat) (z:List PV) (parts:List (Nat×Opd))
 | allocL (z:List PV)
 | mvL (x:Opd)
 | bsliceL (n sz:Nat) (z:List PV) (parts:List (Nat×Opd))
 | load (ag:Bool) (sz:Nat) (a:Opd)
 | store (szs:List Nat) (a x:Opd)
 | nilc (x:Opd)
 | bin (op:BinOp) (x y:Opd)
 | eqb (neg:Bool) (ks:List Kd) (x y:Opd)
 | un (op:UnOp) (x:Opd)
 | convI (k:IntKind) (x:Opd)
 | toS (x:Opd)
 | mkfn (f:Nat) (caps:List Opd)
 | mksl (bytes sz:Nat) (z:List PV) (l c:Opd)
 | slice (sz:Nat) (x:Opd) (lo hi mx:Option Opd)
 | sliceS (x:Opd) (lo hi:Option Opd)
 | faddr (off:Nat) (x:Opd)
 | iaddr (sz:Nat) (x i:Opd)
 | idx (x i:Opd)
 | ext (i:Nat) (x:Opd)
 | call (f:Nat) (args:List (List Nat×Opd))
 | callv (g:Opd) (args:List (List Nat×Opd))
 | len (x:Opd)
 | lenS (x:Opd)
 | app (bytes sz:Nat) (s x:Opd)
 | appS (s x:Opd)
 | mx (big:Bool) (x y:Opd)
structure zac where
 dst:Option Dst
 op:IOp
 guard:Option (Opd×Bool)
inductive IC where
 | skip
 | reg (ops:List zac)
 | regD (ops:List (zac×Nat×Nat))
 | seq (a b:IC)
 | cond (c:Opd) (x y:IC)
 | block (id:Nat) (c:IC)
 | loop (c:IC)
 | exit (id:Nat)
 | ret
inductive Ex where
 | normal
 | exit (id:Nat)
 | ret
inductive RV where
 | tmp (szs:List Nat) (k:Nat)
 | cell (szs:List Nat) (k:Nat) (ag:Bool)
 | pl
structure IFn where
 modes:List Bool
 results:List RV
 body:IC
def Opd.get (st:St):Opd->PV
 | .V k=>st.V k
 | .E k=>st.E k
 | .C x=>x
def upd {α:Type} (f:Nat->α) (k:Nat) (x:α):Nat->α:=fun i=>if i=k then x else f i
def St.put (st:St):Option Dst->PV->St
 | none,_=>st
 | some (.V k),x => { st with V:=upd st.V k x }
 | some (.E k),x => { st with E:=upd st.E k x }
def isV:PV->Bool
 | .v _=>true
 | _=>false
def okV:Value->Bool
 | .bool _=>true
 | .int _ _=>true
 | .string _=>true
 | .pointer none=>true
 | .nilFunc=>true
 | .nilIface=>true
 | _=>false
def zcl (es:List (List PV)):Bool:=es.all fun e=>e.all isV
def zbl (es:List (List PV)) (i j:Nat):Option (Nat×List (List PV)) :=
 match es[i]? with
 | some cs =>
  match cs[j]? with
  | some (.own sz es')=>some (sz,es')
  | _=>none
 | none=>none
def zb0 (es:List (List PV)) (i j:Nat) (c:PV):List (List PV) :=
 match es[i]? with
 | some cs=>es.set i (cs.set j c)
 | none=>es
def zau (ce:Nat):Option Ob->Option (Nat×Nat)->Nat->Option (Nat×List (List PV))
 | some (.row sz es),none,_=>some (sz,es)
 | some (.row _ es),some (i,j),ep=>if ep=ce then zbl es i j else none
 | some (.rowF sz es),none,_=>some (sz,es)
 | some (.shadow sz es e),none,_=>if e=ce then some (sz,es) else none
 | _,_,_=>none
def zfb (st:St) (o:Nat) (p:Option (Nat×Nat)) (ep:Nat):Option (Nat×List (List PV)):=zau st.ep (st.S o) p ep
def cut (es:List (List PV)) (lo len:Nat):List (List PV):=if lo=0/\len=es.length then es else (es.drop lo).take len
def zfj (st:St):PV->Option (Nat×List (List PV))
 | .sl sz es=>some (sz,es)
 | .ref o p ep lo len=>(zfb st o p ep).map fun r=>(r.1,cut r.2 lo len)
 | _=>none
def fz:PV->PV
 | .own sz es => .sl sz es
 | c=>c
def rd (o ep i j:Nat):PV->PV
 | .own _ es => .ref o (some (i,j)) ep 0 es.length
 | c=>c
def zhl (o ep i:Nat):Nat->List PV->List PV
 | _,[]=>[]
 | j,c::cs=>rd o ep i j c::zhl o ep i (j+1) cs
def rdV:PV->PV
 | .v x => .v x
 | _ => .undef
def seg (cs:List PV) (j sz:Nat):Option (List PV):=if j+sz<=cs.length then some ((cs.drop j).take sz) else none
def zkx (ag:Bool) (cs:List PV):Option PV :=
 if ag then some (.agg cs) else match cs with
 | [c]=>some c
 | _=>none
def ziq (ce:Nat) (o sz:Nat):Option Ob->Option (Nat×Nat)->Nat->Nat->Nat->Option (List PV)
 | some (.box cs),none,_,i,j=>if i=0 then seg cs j sz else none
 | some (.row _ es),none,_,i,j=>(es[i]?).bind fun cs=>(seg cs j sz).map (zhl o ce i j)
 | some (.row _ es),some (a,b),ep,i,j=>if ep=ce then (zbl es a b).bind fun r=>(r.2[i]?).bind fun cs=>(seg cs j sz).map (·.map rdV) else none
 | some (.rowF _ es),none,_,i,j=>(es[i]?).bind fun cs=>(seg cs j sz).map (·.map fz)
 | some (.shadow _ es e),none,_,i,j=>if e=ce then (es[i]?).bind fun cs=>(seg cs j sz).map (·.map rdV) else none
 | _,_,_,_,_=>none
def loadCells (st:St) (sz:Nat):PV->Option (List PV)
 | .fptr cs j=>(seg cs j sz).map (·.map fz)
 | .ptr o p ep i j=>ziq st.ep o sz (st.S o) p ep i j
 | _=>none
def cellsOf:PV->List PV
 | .agg cs=>cs
 | x=>[x]
def zf2 (st:St) (o:Nat):Option Ob->Option (Nat×Nat)->Nat->Nat->Option (PV×St)
 | some (.row s es),none,lo,len=>if lo=0/\len=es.length then some (.own s es,{ st with S:=upd st.S o (some (.shadow s es st.ep)) }) else none
 | _,_,_,_=>none
def zfp (st:St) (sz:Nat):PV->Option (PV×St)
 | .v x=>if okV x then some (.v x,st) else none
 | .e0=>some (.own sz [],st)
 | .ref o p _ lo len=>zf2 st o (st.S o) p lo len
 | _=>none
def zdo (st:St):List Nat->List PV->Option (List PV×St)
 | sz::szs,c::cs=>(zfp st sz c).bind fun r=>(zdo r.2 szs cs).bind fun q=>some (r.1::q.1,q.2)
 | [],[]=>some ([],st)
 | _,_=>none
def toF (sz:Nat):PV->Option PV
 | .v x=>if okV x then some (.v x) else none
 | .e0=>some (.sl sz [])
 | .sl s es=>some (.sl s es)
 | _=>none
def ze2:List Nat->List PV->Option (List PV)
 | sz::szs,c::cs=>(toF sz c).bind fun x=>(ze2 szs cs).bind fun xs=>some (x::xs)
 | [],[]=>some []
 | _,_=>none
def isF:PV->Bool
 | .sl _ _=>true
 | _=>false
def zcx:PV->Bool
 | .v x=>okV x
 | .e0=>true
 | .sl _ _=>true
 | .ref .. => true
 | _=>false
def over (cs:List PV) (j:Nat) (xs:List PV):List PV:=cs.take j++xs++cs.drop (j+xs.length)
def zeo:PV->Bool
 | .v x=>okV x
 | _=>false
def zh1 (st:St) (o i j:Nat) (ys:List PV):Option Ob->Option St
 | some (.row sz es)=>(es[i]?).bind fun cs =>
  if j+ys.length<=cs.length then
   some { st with S:=upd st.S o (some (.row sz (es.set i (over cs j ys)))),ep:=if ys.all isV && ((cs.drop j).take ys.length).all isV then st.ep else st.ep+1 }
  else none
 | _=>none
def zjh:List PV->Option (Nat×(Nat×Nat)×Nat×Nat×Nat)
 | [.ref o (some q) ep lo len]=>some (o,q,ep,lo,len)
 | _=>none
def zx2 (st:St) (o i j:Nat) (d:Nat×(Nat×Nat)×Nat×Nat×Nat) (s:Nat) (es:List (List PV)):Option St :=
 if d.1=o/\d.2.1=(i,j)/\d.2.2.1=st.ep then
  (zbl es i j).bind fun r=>if d.2.2.2.1+d.2.2.2.2<=r.2.length then some { st with S:=upd st.S o (some (.row s (zb0 es i j (.own r.1 (cut r.2 d.2.2.2.1 d.2.2.2.2))))),ep:=st.ep+1 } else none
 else none
def zfk (st:St) (szs:List Nat) (xs:List PV) (o:Nat):Option Ob->Option (Nat×Nat)->Nat->Nat->Nat->Option St
 | some (.box cs),none,_,i,j=>if i=0/\j+xs.length<=cs.length/\xs.all zcx then some { st with S:=upd st.S o (some (.box (over cs j xs))) } else none
 | some (.row s es),none,_,i,j=>match zjh xs with
  | some d=>zx2 st o i j d s es
  | none=>(zdo st szs xs).bind fun r=>zh1 r.2 o i j r.1 (r.2.S o)
 | some (.row sz es),some (a,b),ep,i,j =>
  if ep=st.ep/\xs.all zeo then
   (zbl es a b).bind fun q=>(q.2[i]?).bind fun cs =>
    if j+xs.length<=cs.length then
     some { st with S:=upd st.S o (some (.row sz (zb0 es a b (.own q.1 (q.2.set i (over cs j xs)))))),ep:=st.ep+1 }
    else none
  else none
 | some (.rowF sz es),none,_,i,j=>(ze2 szs xs).bind fun ys=>(es[i]?).bind fun cs =>
  if j+ys.length<=cs.length then some { st with S:=upd st.S o (some (.rowF sz (es.set i (over cs j ys)))) } else none
 | _,_,_,_,_=>none
def zuo (st:St) (szs:List Nat) (xs:List PV):PV->Option St
 | .ptr o p ep i j=>if xs.length=szs.length then zfk st szs xs o (st.S o) p ep i j else none
 | _=>none
def storeAt (st:St) (szs:List Nat) (a x:PV):Option St:=zuo st szs (cellsOf x) a
def newRow (st:St) (sz:Nat) (es:List (List PV)):PV×St :=
 (.ref st.nx none st.ep 0 es.length,{ st with S:=upd st.S st.nx (some (.row sz es)),nx:=st.nx+1 })
def zhi (st:St) (sz:Nat) (es:List (List PV)):PV×St :=
 (.ref st.nx none st.ep 0 es.length,{ st with S:=upd st.S st.nx (some (.rowF sz es)),nx:=st.nx+1 })
def zb5 (st:St) (cs:List PV):PV×St :=
 (.ptr st.nx none st.ep 0 0,{ st with S:=upd st.S st.nx (some (.box cs)),nx:=st.nx+1 })
def zpi:PV->Nat
 | .own sz _=>sz
 | _=>0
def zdd (st:St) (z:List PV) (es:List (List PV)):List (Nat×PV)->Option (List (List PV)×St)
 | []=>some (es,st)
 | (i,x)::r=>(zdo st (z.map zpi) (cellsOf x)).bind fun q=>if i<es.length then zdd q.2 z (es.set i q.1) r else none
def zh3 (z:List PV) (es:List (List PV)):List (Nat×PV)->Option (List (List PV))
 | []=>some es
 | (i,x)::r=>(ze2 (z.map zpi) (cellsOf x)).bind fun ys=>if i<es.length then zh3 z (es.set i ys) r else none
def zkr (ce a b ep lo len:Nat):Option Ob->Option ((Nat×List (List PV))×Ob)
 | some (.row s es)=>if ep=ce then (zbl es a b).map fun r=>((r.1,cut r.2 lo len),.rowF s (es.map fun e=>e.map fz)) else none
 | _=>none
def zc6 (st:St):List (Nat×PV)->List (Nat×PV)
 | [(i,.ref o (some (a,b)) ep lo len)]=>(zkr st.ep a b ep lo len (st.S o)).elim [(i,.ref o (some (a,b)) ep lo len)] fun r=>[(i,.sl r.1.1 r.1.2)]
 | l=>l
def zdc (st:St):List (Nat×PV)->St
 | [(_,.ref o (some (a,b)) ep lo len)]=>(zkr st.ep a b ep lo len (st.S o)).elim st fun r => { st with S:=upd st.S o (some r.2),ep:=st.ep+1 }
 | _=>st
def zgt (cs:List PV):List (Nat×Nat×PV)->Option (List PV)
 | []=>some cs
 | (off,sz,x)::r =>
  if (cellsOf x).length=sz/\off+sz<=cs.length/\(cellsOf x).all zcx then zgt (over cs off (cellsOf x)) r else none
def zhp:PV->Option Int
 | .v (.int _ n)=>some n
 | _=>none
def zg9:PV->Option Bool
 | .v (.bool b)=>some b
 | _=>none
def zcv:PV->Option ByteArray
 | .v (.string s)=>some s
 | _=>none
def zbb:BinOp->Value->Value->Option Value
 | .add,.int k a,.int k' b=>if k=k' then some (.int k (k.wrap (a+b))) else none
 | .sub,.int k a,.int k' b=>if k=k' then some (.int k (k.wrap (a-b))) else none
 | .mul,.int k a,.int k' b=>if k=k' then some (.int k (k.wrap (a*b))) else none
 | .quo,.int k a,.int k' b=>if k=k'/\b≠0 then some (.int k (k.wrap (a.tdiv b))) else none
 | .rem,.int k a,.int k' b=>if k=k'/\b≠0 then some (.int k (a.tmod b)) else none
 | .and,.int k a,.int k' b=>if k=k' then some (.int k (k.wrap (BitVec.ofInt k.bits a &&& BitVec.ofInt k.bits b).toNat)) else none
 | .or,.int k a,.int k' b=>if k=k' then some (.int k (k.wrap (BitVec.ofInt k.bits a ||| BitVec.ofInt k.bits b).toNat)) else none
 | .xor,.int k a,.int k' b=>if k=k' then some (.int k (k.wrap (BitVec.ofInt k.bits a ^^^ BitVec.ofInt k.bits b).toNat)) else none
 | .shl,.int k a,.int _ b=>if 0<=b then some (.int k (k.wrap (a*2 ^ min b.toNat k.bits))) else none
 | .shr,.int k a,.int _ b=>if 0<=b then some (.int k (a.fdiv (2 ^ min b.toNat k.bits))) else none
 | .eql,.int k a,.int k' b=>if k=k' then some (.bool (a == b)) else none
 | .neq,.int k a,.int k' b=>if k=k' then some (.bool (a != b)) else none
 | .lss,.int k a,.int k' b=>if k=k' then some (.bool (a<b)) else none
 | .leq,.int k a,.int k' b=>if k=k' then some (.bool (a<=b)) else none
 | .gtr,.int k a,.int k' b=>if k=k' then some (.bool (a > b)) else none
 | .geq,.int k a,.int k' b=>if k=k' then some (.bool (a ≥ b)) else none
 | .add,.string a,.string b=>if ((a.size+b.size:Nat):Int)<=IntKind.i64.max then some (.string (a++b)) else none
 | .eql,.string a,.string b=>some (.bool (a.toList == b.toList))
 | .neq,.string a,.string b=>some (.bool !(a.toList == b.toList))
 | .lss,.string a,.string b=>some (.bool (Op.bytesLess a.toList b.toList))
 | _,_,_=>none
def unV:UnOp->Value->Option Value
 | .neg,.int k a=>some (.int k (k.wrap (0-a)))
 | .not,.bool b=>some (.bool !b)
 | _,_=>none
def zms (op:BinOp):PV->PV->Option PV
 | .v a,.v b=>(zbb op a b).map .v
 | _,_=>none
def unP (op:UnOp):PV->Option PV
 | .v a=>(unV op a).map .v
 | _=>none
def eqV:Kd->Value->Value->Option Bool
 | .i k,.int k1 a,.int k2 b=>if k1=k/\k2=k then some (a == b) else none
 | .b,.bool a,.bool b=>some (a == b)
 | .s,.string a,.string b=>some (a == b)
 | _,_,_=>none
def zb9:List Kd->List PV->List PV->Option Bool
 | [],[],[]=>some true
 | k::ks,.v x::xs,.v y::ys=>(eqV k x y).bind fun b=>if b then zb9 ks xs ys else some false
 | _,_,_=>none
def eqP:List Kd->PV->PV->Option Bool
 | [k],.v x,.v y=>eqV k x y
 | k::l::ks,.agg xs,.agg ys=>zb9 (k::l::ks) xs ys
 | _,_,_=>none
def zb1 (x:PV):Option Nat:=(zhp x).bind fun n=>if 0<=n then some n.toNat else none
def lenOf (st:St):PV->Option Nat
 | .e0=>some 0
 | .sl _ es=>some es.length
 | .ref o p ep _ len=>if (zfb st o p ep).isSome then some len else none
 | _=>none
def iaddr (st:St) (sz i:Nat):PV->Option PV
 | .sl s es=>if s=sz then (es[i]?).map fun cs => .fptr cs 0 else none
 | .ref o p ep lo len=>(zfb st o p ep).bind fun r=>if r.1=sz/\i<len then some (.ptr o p ep (lo+i) 0) else none
 | _=>none
def zif (s:ByteArray):List (List PV):=s.data.toList.map fun b=>[.v (.int .u8 (b.toNat:Int))]
def ziv:List (List PV)->Option (List UInt8)
 | []=>some []
 | [.v (.int .u8 n)]::r=>(ziv r).map fun l=>n.toNat.toUInt8::l
 | _=>none
def sliceS (s:ByteArray) (lo hi:Option Nat):Option PV :=
 if lo.getD 0<=hi.getD s.size/\hi.getD s.size<=s.size then some (.v (.string (s.extract (lo.getD 0) (hi.getD s.size)))) else none
def zu2 (st:St) (sz l h:Nat):PV->Option PV
 | .e0=>some .e0
 | .sl s es=>if s=sz then some (.sl s ((es.drop l).take (h-l))) else none
 | .ref o p ep lo _=>(zfb st o p ep).bind fun r=>if r.1=sz then some (.ref o p ep (lo+l) (h-l)) else none
 | _=>none
def zk1 (st:St) (sz:Nat) (x:PV) (lo hi:Option Nat):Option Nat->Option PV
 | some m=>(lenOf st x).bind fun n=>if m=0/\hi=some 0/\lo.getD 0=0/\0<=n then some .e0 else none
 | none=>(lenOf st x).bind fun n=>if lo.getD 0<=hi.getD n/\hi.getD n<=n then zu2 st sz (lo.getD 0) (hi.getD n) x else none
def zaj (bytes n:Nat):Bool:=n*bytes<=140737488355328 && n<=140737488355328
def zgj (st:St) (sz o:Nat):Option Ob->Option (Nat×Nat)->Nat->Nat->Nat->Option (List (List PV)×Bool×St)
 | some (.row s es),none,_,lo,len=>if s=sz/\lo+len=es.length then some (es.drop lo,false,{ st with S:=upd st.S o none }) else none
 | some (.row s es),some (i,j),ep,lo,len=>if ep=st.ep then
   (zbl es i j).bind fun r=>if r.1=sz/\lo+len=r.2.length then
    some (r.2.drop lo,false,{ st with S:=upd st.S o (some (.row s (zb0 es i j .undef))),ep:=st.ep+1 }) else none
  else none
 | some (.rowF s es),none,_,lo,len=>if s=sz/\lo+len=es.length then some (es.drop lo,true,{ st with S:=upd st.S o none }) else none
 | _,_,_,_,_=>none
def zf7 (st:St) (sz:Nat):PV->Option (List (List PV)×Bool×St)
 | .e0=>some ([],false,st)
 | .ref o p ep lo len=>zgj st sz o (st.S o) p ep lo len
 | _=>none
def zg5 (st:St) (o:Nat):Option Ob->Option (Nat×Nat)->Nat->Nat->Option (List (List PV)×Option Bool×St)
 | some (.row _ es),none,lo,len=>if lo=0/\len=es.length then some (es,some false,{ st with S:=upd st.S o none }) else none
 | some (.rowF _ es),none,lo,len=>some (cut es lo len,some true,st)
 | _,_,_,_=>none
def zgd (st:St) (sz:Nat):PV->Option (List (List PV)×Option Bool×St)
 | .e0=>some ([],none,st)
 | .sl s es=>if s=sz/\zcl es then some (es,none,st) else none
 | .ref o p ep lo len =>
  (zfb st o p ep).bind fun r =>
   if r.1=sz then
    if zcl (cut r.2 lo len) then some (cut r.2 lo len,none,st) else zg5 st o (st.S o) p lo len
   else none
 | _=>none
def zg7 (st:St) (sz:Nat) (es:List (List PV)):Bool->Option Bool->Option (PV×St)
 | false,none=>some (newRow st sz es)
 | false,some false=>some (newRow st sz es)
 | true,none=>some (zhi st sz es)
 | true,some true=>some (zhi st sz es)
 | _,_=>none
def zkw (st:St) (bytes sz:Nat) (s x:PV):Option (PV×St) :=
 (zgd st sz x).bind fun m=>(zf7 m.2.2 sz s).bind fun b =>
  if zaj bytes (b.1.length+m.1.length) then zg7 b.2.2 sz (b.1++m.1) b.2.1 m.2.1 else none
def appS (st:St) (s:PV) (t:ByteArray):Option (PV×St) :=
 (zf7 st 1 s).bind fun b=>if zaj 1 (b.1.length+t.size) then zg7 b.2.2 1 (b.1++zif t) b.2.1 none else none
def zds (c:PV):Bool:=zeo c || isF c
def zi1:Option Ob->Option (Nat×Nat)->Nat->Nat->Option PV
 | some (.box cs),none,i,j=>if i=0/\cs.all zds then some (.fptr cs j) else none
 | _,_,_,_=>none
def zcb (st:St) (sz:Nat):PV->Option PV
 | .v x=>some (.v x)
 | .e0=>some (.sl sz [])
 | .sl s es=>some (.sl s es)
 | .ref o p ep lo len=>(zfb st o p ep).map fun r => .sl r.1 (cut r.2 lo len)
 | .fptr cs j=>some (.fptr cs j)
 | .ptr o p _ i j=>zi1 (st.S o) p i j
 | _=>none
def zey (st:St):List Nat->List PV->Option (List PV)
 | sz::szs,c::cs=>(zcb st sz c).bind fun x=>(zey st szs cs).bind fun xs=>some (x::xs)
 | [],c::cs=>(zcb st 0 c).bind fun x=>(zey st [] cs).bind fun xs=>some (x::xs)
 | _,[]=>some []
def zcq (st:St) (szs:List Nat):PV->Option PV
 | .agg cs=>(zey st szs cs).map .agg
 | .fn f caps=>(zey st [] caps).map (.fn f)
 | x=>zcb st (szs.headD 0) x
def zmn (o ep lo len:Nat):Option Ob->Option (PV×List PV)
 | some (.row s es)=>if lo=0/\len=es.length then some (.own s es,[.ref o none ep lo len]) else none
 | _=>none
def zkq (o ep:Nat):Option Ob->Option (Nat×Nat)->Nat->Nat->Option (PV×List PV)
 | some (.box cs),none,i,j=>if i=0/\j=0/\cs.all zds then some (.bx cs,[.ptr o none ep 0 0]) else none
 | _,_,_,_=>none
def zdf (st:St) (sz:Nat):PV->Option (PV×List PV)
 | .v x=>some (.v x,[])
 | .e0=>some (.own sz [],[.e0])
 | .ref o none ep lo len=>zmn o ep lo len (st.S o)
 | .ptr o p ep i j=>zkq o ep (st.S o) p i j
 | _=>none
def zgk (st:St):List Nat->List PV->Option (List PV×List PV)
 | sz::szs,c::cs=>(zdf st sz c).bind fun r=>(zgk st szs cs).bind fun q=>some (r.1::q.1,r.2++q.2)
 | [],c::cs=>(zdf st 0 c).bind fun r=>(zgk st [] cs).bind fun q=>some (r.1::q.1,r.2++q.2)
 | _,[]=>some ([],[])
def zfz (st:St) (szs:List Nat):PV->Option (PV×List PV)
 | .agg cs=>(zgk st szs cs).map fun q=>(.agg q.1,q.2)
 | x=>zdf st (szs.headD 0) x
def zct (st:St):List Bool->List (List Nat×PV)->Option (List PV×List PV)
 | _,[]=>some ([],[])
 | m::ms,(szs,x)::xs =>
  (if m then zfz st szs x else (zcq st szs x).map fun y=>(y,[])).bind fun r =>
   (zct st ms xs).bind fun q=>some (r.1::q.1,r.2++q.2)
 | [],(szs,x)::xs=>(zcq st szs x).bind fun y=>(zct st [] xs).bind fun q=>some (y::q.1,q.2)
def root:PV->List Nat
 | .ref o _ _ _ _=>[o]
 | .ptr o _ _ _ _=>[o]
 | _=>[]
def zd1:PV->List Nat
 | .agg cs=>cs.flatMap root
 | .fn _ cs=>cs.flatMap root
 | x=>root x
def zes:List Nat->Bool
 | []=>true
 | x::xs => !xs.any (fun y=>y=x) && zes xs
def ze8:PV->Bool
 | .own _ _=>true
 | .undef=>true
 | _=>false
def putRow (st:St) (o len s:Nat) (es':List (List PV)):Option Ob->Option (Nat×Nat)->Option St
 | some (.row sz es),none=>if es'.length=len/\s=sz/\es.length=len then some { st with S:=upd st.S o (some (.row sz es')) } else none
 | _,_=>none
def zpo (st:St) (o:Nat) (cs':List PV):Option Ob->Option St
 | some (.box cs)=>if cs'.length=cs.length then some { st with S:=upd st.S o (some (.box cs')) } else none
 | _=>none
def zoq (st:St) (o:Nat):Option Ob->Option St
 | some (.row _ _)=>some { st with S:=upd st.S o none }
 | _=>none
def zcw (st:St):PV->PV->Option St
 | .e0,.own _ es=>if es.length=0 then some st else none
 | .e0,.undef=>some st
 | .ref o _ _ _ _,.undef=>zoq st o (st.S o)
 | .ref o p _ _ len,.own s es'=>putRow st o len s es' (st.S o) p
 | .ptr o _ _ _ _,.bx cs'=>zpo st o cs' (st.S o)
 | _,_=>none
def zer (st:St):List PV->List PV->Option St
 | [],[]=>some st
 | t::ts,o::os=>(zcw st t o).bind fun st=>zer st ts os
 | _,_=>none
def zdm (st:St) (nofz:Bool):PV->Option (PV×St)
 | .v x=>some (.v x,st)
 | .sl sz es=>if nofz then none else some (.sl sz es,st)
 | .own sz es=>some (newRow st sz es)
 | .bx cs=>if nofz && cs.any isF then none else some (zb5 st cs)
 | _=>none
def zgf (st:St) (nofz:Bool):List PV->Option (List PV×St)
 | []=>some ([],st)
 | c::cs=>(zdm st nofz c).bind fun r=>(zgf r.2 nofz cs).bind fun q=>some (r.1::q.1,q.2)
def zff (st:St) (nofz:Bool):PV->Option (PV×St)
 | .agg cs=>(zgf st nofz cs).map fun q=>(.agg q.1,q.2)
 | x=>zdm st nofz x
def zfy (st:St) (nofz:Bool):List PV->Option (List PV×St)
 | []=>some ([],st)
 | c::cs=>(zff st nofz c).bind fun r=>(zfy r.2 nofz cs).bind fun q=>some (r.1::q.1,q.2)
abbrev zak:=Nat->List PV->Option (List PV×List PV)
def zoz:List PV->PV
 | [x]=>x
 | vs => .tup vs
def zeg (args:List (List Nat×PV)):List Nat:=args.flatMap fun x=>zd1 x.2
def zxt (rs all:List Nat):Bool:=rs.all fun o=>(all.filter (fun y=>y=o)).length=1
def zx4:PV->Bool
 | .own _ es=>zcl es
 | _=>true
def zf9:Option Ob->Option Ob
 | some (.shadow _ _ _)=>none
 | x=>x
def yd2 (S:Nat->Option Ob):Nat->Option Ob:=fun o=>zf9 (S o)
def zhc (fl b:Bool) (st:St):St:=if b then (if fl then { st with S:=yd2 st.S } else { st with ep:=st.ep+1 }) else st
def zkp:Option Ob->Bool
 | some (.shadow _ _ _)=>true
 | _=>false
def zij (st:St):List Nat->Bool
 | []=>true
 | o::os => !zkp (st.S o) && zij st os
def zyd:List PV->Bool
 | []=>true
 | _=>false
def z8o:PV->Bool
 | .bx cs=>cs.any isF
 | _=>false
def zhh (args:List (List Nat×PV)) (hs:List PV):Bool:=(zeg args).length != (hs.flatMap root).length
def zgw (fl:Bool) (R:zak) (st:St) (f:Nat) (args:List (List Nat×PV)) (a:List PV×List PV):Option (PV×St) :=
  if zxt (a.2.flatMap root) (zeg args) && (zyd a.2 || zij st (zeg args)) then
   (R f a.1).bind fun r =>
    if zhh args a.2 && r.2.any z8o || fl && !r.2.all zx4 then none else
    (zer st a.2 r.2).bind fun st1 =>
     (zfy (zhc fl (r.2.any ze8) st1) (zhh args a.2) r.1).map fun q=>(zoz q.1,q.2)
  else none
def ze1 (modes:Nat->List Bool) (R:zak) (st:St) (f:Nat) (args:List (List Nat×PV)):Option (PV×St) :=
 (zct st (modes f) args).bind (zgw (decide (args.length<(modes f).length)) R st f args)
structure Sub where
 o:Nat
 i:Nat
 j:Nat
 sz:Nat
 es:List (List PV)
 s2:Nat
 es2:List (List PV)
def zhz (ce o i j ep lo len:Nat):Option Ob->Option Sub
 | some (.row sz es)=>if ep=ce then (zbl es i j).bind fun r=>if lo=0/\len=r.2.length then some ⟨o,i,j,sz,es,r.1,r.2⟩ else none else none
 | _=>none
def zfr (st:St):PV->Option Sub
 | .ref o (some (i,j)) ep lo len=>zhz st.ep o i j ep lo len (st.S o)
 | _=>none
def zgi {α β:Type} (x:Option α) (y:Option β) (k:α->Option β):Option β:=match x with
 | some a=>k a
 | none=>y
def zg3 (st:St):List PV->Option Sub
 | []=>none
 | c::cs=>zgi (zfr st c) (zg3 st cs) some
def zd9 (st:St):List Bool->List (List Nat×PV)->Option Sub
 | true::ms,q::xs=>zgi (zg3 st (cellsOf q.2)) (zd9 st ms xs) some
 | false::ms,_::xs=>zd9 st ms xs
 | _,_=>none
def zgp (d:Sub) (n e:Nat):PV->PV
 | .ref o p ep lo len=>if o=d.o/\p=some (d.i,d.j)/\ep=e then .ref n none (e+1) lo len else .ref o p ep lo len
 | c=>c
def zhm (d:Sub) (n e:Nat):PV->PV
 | .agg cs => .agg (cs.map (zgp d n e))
 | .fn f cs => .fn f cs
 | x=>zgp d n e x
def zko (d:Sub) (n e:Nat) (args:List (List Nat×PV)):List (List Nat×PV):=args.map fun q=>(q.1,zhm d n e q.2)
def zb8 (st:St) (d:Sub):St :=
 { st with S:=upd (upd st.S d.o (some (.row d.sz (zb0 d.es d.i d.j .undef)))) st.nx (some (.row d.s2 d.es2)),nx:=st.nx+1,ep:=st.ep+1 }
def zor (st:St) (n o i j:Nat):Option Ob->Option Ob->Option St
 | some (.row s es'),some (.row sz es)=>some { st with S:=upd (upd st.S n none) o (some (.row sz (zb0 es i j (.own s es')))),ep:=st.ep+1 }
 | _,_=>none
def zo3 (st:St) (n:Nat) (d:Sub):Option St:=zor st n d.o d.i d.j (st.S n) (st.S d.o)
def ziu (modes:Nat->List Bool) (R:zak) (st:St) (f:Nat) (args:List (List Nat×PV)) (d:Sub):Option (PV×St) :=
 if (zeg (zko d st.nx st.ep args)).any (fun o=>o=d.o) then none else
  (ze1 modes R (zb8 st d) f (zko d st.nx st.ep args)).bind fun r=>(zo3 r.2 st.nx d).map fun s=>(r.1,s)
def zdq (modes:Nat->List Bool) (R:zak) (st:St) (f:Nat) (args:List (List Nat×PV)):Option (PV×St) :=
 zgi (zd9 st (modes f) args) (ze1 modes R st f args) (ziu modes R st f args)
def zbo (st:St):Option Opd->Option (Option Nat)
 | none=>some none
 | some y=>(zb1 (y.get st)).map some
def zie (ce:Nat):Option Ob->Option (Nat×Nat)->Nat->Nat->Bool
 | some (.box _),none,_,i=>i == 0
 | some (.row sz es),p,ep,_=>(zau ce (some (.row sz es)) p ep).isSome
 | some (.rowF sz es),p,ep,_=>(zau ce (some (.rowF sz es)) p ep).isSome
 | some (.shadow sz es e),p,ep,_=>(zau ce (some (.shadow sz es e)) p ep).isSome
 | _,_,_,_=>false
def zh0 (st:St):PV->Option PV
 | .ptr o p ep i j=>if zie st.ep (st.S o) p ep i then some (.ptr o p ep i j) else none
 | .fptr cs j=>some (.fptr cs j)
 | .fn f caps=>some (.fn f caps)
 | _=>none
def zh8 (st:St) (off:Nat):PV->Option PV
 | .ptr o p ep i j=>if zie st.ep (st.S o) p ep i then some (.ptr o p ep i (j+off)) else none
 | .fptr cs j=>some (.fptr cs (j+off))
 | _=>none
def zmg (i:Nat):PV->Option PV
 | .tup vs=>vs[i]?
 | _=>none
def zo8 (modes:Nat->List Bool) (R:zak) (st:St) (args:List (List Nat×PV)):PV->Option (PV×St)
 | .fn f caps=>zdq modes R st f (args++caps.map fun c=>([],c))
 | _=>none
def mxP (big:Bool):PV->PV->Option PV
 | .v (.int k a),.v (.int k' b)=>if k=k' then some (.v (.int k (if big then (if a<b then b else a) else (if b<a then b else a)))) else none
 | _,_=>none
def zpp:PV->Bool
 | .agg _=>false
 | .fn _ _=>false
 | .tup _=>false
 | _=>true
def zb6 (st:St) (ps:List (Nat×Opd)):List (Nat×PV):=ps.map fun q=>(q.1,q.2.get st)
def zag (modes:Nat->List Bool) (R:zak) (st:St):IOp->Option (PV×St)
 | .mv x=>some (x.get st,st)
 | .pick c a b=>(zg9 (c.get st)).map fun t=>(if t then a.get st else b.get st,st)
 | .alloc z=>some (zb5 st z)
 | .box x=>if (cellsOf (x.get st)).all zcx then some (zb5 st (cellsOf (x.get st))) else none
 | .build z ps=>(zgt z (ps.map fun q=>(q.1,q.2.1,q.2.2.get st))).map fun cs=>(.agg cs,st)
 | .bslice n sz z ps =>
  if (zc6 st (zb6 st ps)).any fun q=>(cellsOf q.2).any isF then
   (zh3 z (List.replicate n (z.map fz)) (zc6 st (zb6 st ps))).map fun es=>zhi (zdc st (zb6 st ps)) sz es
  else (zdd (zdc st (zb6 st ps)) z (List.replicate n z) (zc6 st (zb6 st ps))).map fun q=>newRow q.2 sz q.1
 | .allocL z=>some (zb5 st z)
 | .mvL x=>some (x.get st,st)
 | .bsliceL n sz z ps=>(zdd st z (List.replicate n z) (zb6 st ps)).map fun q=>newRow q.2 sz q.1
 | .load ag sz a=>(loadCells st sz (a.get st)).bind fun cs=>(zkx ag cs).map fun x=>(x,st)
 | .store szs a x=>(storeAt st szs (a.get st) (x.get st)).map fun st=>(.undef,st)
 | .nilc x=>(zh0 st (x.get st)).map fun r=>(r,st)
 | .bin op x y=>(zms op (x.get st) (y.get st)).map fun r=>(r,st)
 | .eqb neg ks x y=>(eqP ks (x.get st) (y.get st)).map fun b=>(.v (.bool (b != neg)),st)
 | .un op x=>(unP op (x.get st)).map fun r=>(r,st)
 | .convI k x=>(zhp (x.get st)).map fun n=>(.v (.int k (k.wrap n)),st)
 | .toS x=>(zfj st (x.get st)).bind fun r=>(ziv r.2).map fun l=>(.v (.string ⟨l.toArray⟩),st)
 | .mkfn f caps=>if (caps.map (Opd.get st)).all zpp then some (.fn f (caps.map (Opd.get st)),st) else none
 | .mksl bytes sz z l c=>(zb1 (l.get st)).bind fun n=>(zb1 (c.get st)).bind fun m =>
  if n<=m/\zaj bytes m then some (newRow st sz (List.replicate n z)) else none
 | .slice sz x lo hi mx =>
  (zbo st lo).bind fun l=>(zbo st hi).bind fun h=>(zbo st mx).bind fun m=>(zk1 st sz (x.get st) l h m).map fun r=>(r,st)
 | .sliceS x lo hi =>
  (zcv (x.get st)).bind fun s=>(zbo st lo).bind fun l=>(zbo st hi).bind fun h=>(sliceS s l h).map fun r=>(r,st)
 | .faddr off x=>(zh8 st off (x.get st)).map fun r=>(r,st)
 | .iaddr sz x i=>(zb1 (i.get st)).bind fun k=>(iaddr st sz k (x.get st)).map fun r=>(r,st)
 | .idx x i=>(zcv (x.get st)).bind fun s=>(zb1 (i.get st)).bind fun k=>(s[k]?).map fun b=>(.v (.int .u8 (b.toNat:Int)),st)
 | .ext i x=>(zmg i (x.get st)).map fun r=>(r,st)
 | .call f args=>zdq modes R st f (args.map fun q=>(q.1,q.2.get st))
 | .callv g args=>zo8 modes R st (args.map fun q=>(q.1,q.2.get st)) (g.get st)
 | .len x=>(lenOf st (x.get st)).map fun (n:Nat)=>(.v (.int .i64 (n:Int)),st)
 | .lenS x=>(zcv (x.get st)).map fun s=>(.v (.int .i64 (s.size:Int)),st)
 | .appS s x=>(zcv (x.get st)).bind fun t=>appS st (s.get st) t
 | .app bytes sz s x=>zkw st bytes sz (s.get st) (x.get st)
 | .mx big x y=>(mxP big (x.get st) (y.get st)).map fun r=>(r,st)
def zih (want:Bool):PV->Option Bool
 | .v (.bool b)=>some (b == want)
 | .v _=>some false
 | _=>none
def zcz (st:St):Option (Opd×Bool)->Option Bool
 | none=>some true
 | some (g,want)=>zih want (g.get st)
def zdn (modes:Nat->List Bool) (R:zak):List zac->St->Option St
 | [],st=>some st
 | o::os,st=>(zcz st o.guard).bind fun t =>
  if t then (zag modes R st o.op).bind fun r=>zdn modes R os (r.2.put o.dst r.1)
  else zdn modes R os (st.put o.dst (.v Go.undef))
def quiet:IOp->Bool
 | .alloc _=>false
 | .box _=>false
 | .bslice .. => false
 | .allocL _=>false
 | .mvL _=>false
 | .bsliceL .. => false
 | .store .. => false
 | .mksl .. => false
 | .call .. => false
 | .callv .. => false
 | .app .. => false
 | .appS .. => false
 | _=>true
def evG (modes:Nat->List Bool) (R:zak) (st:St) (o:zac):Option (PV×St) :=
 (zcz st o.guard).bind fun t=>if t then zag modes R st o.op else some (.v Go.undef,st)
def yv (st:St) (o:zac):Option PV:=(evG (fun _=>[]) (fun _ _=>none) st o).map Prod.fst
def za4 (V E:Nat->PV) (o:zac) (x:PV):Nat->List St->Prop
 | 0,_=>True
 | _+1,[]=>True
 | n+1,m::ms=>yv { m with V:=V,E:=E } o=some x/\za4 V E o x n ms
def zcf (st:St):List (zac×PV×Nat)->Prop
 | []=>True
 | (_,_,0)::r=>zcf st r
 | (o,x,_+1)::r=>yv st o=some x/\zcf st r
def zda:List (zac×PV×Nat)->List (zac×PV×Nat)
 | []=>[]
 | (_,_,0)::r=>zda r
 | (o,x,n+1)::r=>(o,x,n)::zda r
open Classical in
noncomputable def evD (modes:Nat->List Bool) (R:zak):List (zac×Nat×Nat)->List (zac×PV×Nat)->List St->St->Option St
 | [],_,_,st=>some st
 | (o,b,w)::os,todo,past,st =>
  (evG modes R st o).bind fun r =>
   if quiet o.op then
    if za4 st.V st.E o r.1 b past then evD modes R os (if w=0 then todo else (o,r.1,w)::todo) past (st.put o.dst r.1) else none
   else if zcf r.2 todo then evD modes R os (zda todo) (st::past) (r.2.put o.dst r.1) else none
def Ex.go (k:St->Option (Ex×St)):Ex×St->Option (Ex×St)
 | (.normal,st)=>k st
 | r=>some r
def Ex.out (id:Nat):Ex×St->Ex×St
 | (.exit i,st)=>(if i=id then .normal else .exit i,st)
 | r=>r
def zd2 (F:St->Option (Ex×St)):Nat->St->Option (Ex×St)
 | 0,_=>none
 | n+1,st=>(F st).bind (Ex.go (zd2 F n))
noncomputable def evC (modes:Nat->List Bool) (R:zak) (n:Nat):IC->St->Option (Ex×St)
 | .skip,st=>some (.normal,st)
 | .reg ops,st=>(zdn modes R ops { st with E:=fun _ => .undef }).map fun st=>(.normal,st)
 | .regD ops,st=>(evD modes R ops [] [] { st with E:=fun _ => .undef }).map fun st=>(.normal,st)
 | .seq a b,st=>(evC modes R n a st).bind (Ex.go (evC modes R n b))
 | .cond c x y,st=>(zg9 (c.get st)).bind fun t=>if t then evC modes R n x st else evC modes R n y st
 | .block id c,st=>(evC modes R n c st).map (Ex.out id)
 | .loop c,st=>zd2 (evC modes R n c) n st
 | .exit id,st=>some (.exit id,st)
 | .ret,st=>some (.ret,st)
def zcy (st:St):PV->Option (PV×St)
 | .v x=>some (.v x,st)
 | .sl sz es=>some (.sl sz es,st)
 | .fptr cs j=>some (.fptr cs j,st)
 | .own sz es=>some (newRow st sz es)
 | .bx cs=>some (zb5 st cs)
 | .fn f caps=>some (.fn f caps,st)
 | _=>none
def zkz (st:St):List PV->Option (List PV×St)
 | []=>some ([],st)
 | c::cs=>(zcy st c).bind fun r=>(zkz r.2 cs).bind fun q=>some (r.1::q.1,q.2)
def zg1 (st:St):PV->Option (PV×St)
 | .agg cs=>(zkz st cs).map fun q=>(.agg q.1,q.2)
 | x=>zcy st x
def zkv (st:St):List PV->Option (List PV×St)
 | []=>some ([],st)
 | c::cs=>(zg1 st c).bind fun r=>(zkv r.2 cs).bind fun q=>some (r.1::q.1,q.2)
def st0:St := { V:=fun _ => .undef,E:=fun _ => .undef,S:=fun _=>none,nx:=0,ep:=0 }
def zk0 (args:List PV):Option St :=
 (zkv st0 args).map fun q => { q.2 with V:=fun k=>q.1.getD k .undef }
def zkn (io o:Nat):Option Ob->Option (Nat×Nat)->Nat->Nat->Option PV
 | some (.row s es),none,lo,len=>if io<=o then some (.own s (cut es lo len)) else none
 | _,_,_,_=>none
def zki (io o:Nat):Option Ob->Option (Nat×Nat)->Nat->Nat->Option PV
 | some (.box cs),none,i,j=>if io<=o/\i=0/\j=0/\cs.all zds then some (.bx cs) else none
 | _,_,_,_=>none
def zdp (st:St) (io sz:Nat):PV->Option PV
 | .v x=>some (.v x)
 | .e0=>some (.own sz [])
 | .sl s es=>some (.sl s es)
 | .ref o p _ lo len=>zkn io o (st.S o) p lo len
 | .ptr o p _ i j=>zki io o (st.S o) p i j
 | _=>none
def zji (st:St) (io:Nat):List Nat->List PV->Option (List PV)
 | sz::szs,c::cs=>(zdp st io sz c).bind fun x=>(zji st io szs cs).bind fun xs=>some (x::xs)
 | [],c::cs=>(zdp st io 0 c).bind fun x=>(zji st io [] cs).bind fun xs=>some (x::xs)
 | _,[]=>some []
def zg2 (st:St) (io:Nat) (szs:List Nat):PV->Option PV
 | .agg cs=>(zji st io szs cs).map .agg
 | x=>zdp st io (szs.headD 0) x
def zou (st:St):RV->Option PV
 | .tmp _ k=>some (st.V k)
 | .cell szs k ag=>(loadCells st szs.length (st.V k)).bind (zkx ag)
 | .pl=>none
def RV.szs:RV->List Nat
 | .tmp s _=>s
 | .cell s _ _=>s
 | .pl=>[]
def zk6 (st:St) (io:Nat):List (List Nat×PV)->Option (List PV)
 | []=>some []
 | (szs,x)::r=>(zg2 st io szs x).bind fun y=>(zk6 st io r).bind fun ys=>some (y::ys)
def zi3 (st:St):List RV->Option (List (List Nat×PV))
 | []=>some []
 | r::rs=>(zou st r).bind fun x=>(zi3 st rs).bind fun xs=>some ((r.szs,x)::xs)
def zgq:Option Ob->Option PV
 | some (.row sz es)=>some (.own sz es)
 | some (.box cs)=>if cs.all zds then some (.bx cs) else none
 | _=>none
def ziz (st:St):Nat->Option (List PV)
 | 0=>some []
 | n+1=>(ziz st n).bind fun l=>(zgq (st.S n)).map fun x=>l++[x]
def zu0:List RV->Bool
 | .pl::_=>true
 | _=>false
def zmt:List RV->List RV
 | .pl::r=>r
 | r=>r
def zkh (d:Sub) (n e:Nat):PV->PV
 | .ref o (some q) ep lo len=>if o=d.o/\ep=e then (if q=(d.i,d.j) then .ref n none (e+1) lo len else .ref o (some q) (e+1) lo len) else .ref o (some q) ep lo len
 | c=>c
def zu7 (d:Sub) (n e:Nat):PV->PV
 | .agg cs => .agg (cs.map (zkh d n e))
 | .fn f cs => .fn f cs
 | x=>zkh d n e x
def zja:Nat->St->List (List Nat×PV)->St×List (List Nat×PV)
 | 0,st,xs=>(st,xs)
 | n+1,st,xs=>match zg3 st (xs.flatMap fun x=>cellsOf x.2) with
  | some d=>zja n (zb8 st d) (xs.map fun q=>(q.1,zu7 d st.nx st.ep q.2))
  | none=>(st,xs)
def zyg (io:Nat) (r:St×List (List Nat×PV)):Option (List PV×List PV) :=
 if zes (r.2.flatMap fun x=>zd1 x.2) then
  (zk6 r.1 io r.2).bind fun ys=>(ziz r.1 io).map fun os=>(ys,os)
 else none
def zfv (fn:IFn) (io:Nat) (st:St):Option (List PV×List PV) :=
 (zi3 st (zmt fn.results)).bind fun xs=>zyg io (if zu0 fn.results then zja 2 st xs else (st,xs))
def Ex.fin (k:St->Option (List PV×List PV)):Ex×St->Option (List PV×List PV)
 | (.normal,st)=>k st
 | (.ret,st)=>k st
 | _=>none
noncomputable def zpj (modes:Nat->List Bool) (R:zak) (n:Nat) (fn:IFn) (args:List PV):Option (List PV×List PV) :=
 (zk0 args).bind fun st=>(evC modes R n fn.body st).bind (Ex.fin (zfv fn st.nx))
inductive Fun where
 | code (fn:IFn)
 | known (modes:List Bool) (g:List PV->Option (List PV×List PV))
 | ext (g:List Value->Option (List Value))
def Fun.modes:Fun->List Bool
 | .code fn=>fn.modes
 | .known m _=>m
 | .ext _=>[]
def zmd:List PV->Option (List Value)
 | []=>some []
 | .v x::r=>(zmd r).map (x :: ·)
 | _=>none
def yem (g:List Value->Option (List Value)) (args:List PV):Option (List PV×List PV):=(zmd args).bind fun xs=>(g xs).map fun ys=>(ys.map .v,[])
abbrev zcg:=Nat->Option Fun
def zad (T:zcg) (f:Nat):List Bool:=((T f).map Fun.modes).getD []
noncomputable def run (T:zcg):Nat->zak
 | 0,_,_=>none
 | n+1,f,args=>(T f).bind fun
  | .code fn=>zpj (zad T) (run T n) n fn args
  | .known _ g=>g args
  | .ext g=>yem g args
end Go.Pe
namespace Go.Pe
open Go
variable {R R':zak} {st:St} {f:Nat} {args:List (List Nat×PV)} {r:PV×St} {T:zcg}
theorem zgh {α β:Type} {a a':Option α} {f f':α->Option β} {r:β} (h:a.bind f=some r) (ha : ∀ x,a=some x->a'=some x) (hf : ∀ x,a=some x->f x=some r->f' x=some r):a'.bind f'=some r:=by
 obtain ⟨x,hx,hr⟩:=bA h;rw [ha x hx]; exact hf x hx hr
def OLe (R R':zak):Prop := ∀ f a r,R f a=some r->R' f a=some r
theorem qfk (hR:OLe R R') {a:List PV×List PV} {fl:Bool} (h:zgw fl R st f args a=some r):zgw fl R' st f args a=some r:=by
 unfold zgw at h ⊢;split at h
 ·rename_i c; rw [if_pos c]; exact zgh h (fun x hx=>hR _ _ _ hx) (fun _ _ h=>h)
 ·cases h
theorem ypt {modes:Nat->List Bool} (hR:OLe R R') (h:ze1 modes R st f args=some r):ze1 modes R' st f args=some r :=
 zgh h (fun _ h=>h) (fun _ _ ha=>qfk hR ha)
theorem yqg {modes:Nat->List Bool} (hR:OLe R R') (h:zdq modes R st f args=some r):zdq modes R' st f args=some r:=by
 unfold zdq zgi at h ⊢;cases hd:zd9 st (modes f) args with
 | none=>rw [hd] at h; exact ypt hR h
 | some d =>
  rw [hd] at h;simp only [ziu] at h ⊢;split at h
  ·cases h
  ·rename_i c; rw [if_neg c]; exact zgh h (fun _ hx=>ypt hR hx) (fun _ _ h=>h)
theorem yen {modes:Nat->List Bool} (hR:OLe R R') {o:IOp} (h:zag modes R st o=some r):zag modes R' st o=some r:=by
 cases o
 case call f args=>exact yqg hR h
 case callv g args =>
  simp only [zag] at h ⊢;cases hg:g.get st <;> rw [hg] at h <;> first | exact yqg hR h | cases h
 all_goals exact h
theorem z76 {modes:Nat->List Bool} {R R':zak} (hR:OLe R R') : ∀ (os:List zac) (st st':St),zdn modes R os st=some st'->zdn modes R' os st=some st'
 | [],_,_,h=>h
 | o::os,st,st',h=>by
  unfold zdn at h ⊢;refine zgh h (fun _ h=>h) (fun t _ ht => ?_);cases t with
  | true=>exact zgh ht (fun _ hx=>yen hR hx) (fun _ _ h=>z76 hR os _ _ h)
  | false=>exact z76 hR os _ _ ht
theorem ycr {F F':St->Option (Ex×St)} {q r:Ex×St} (hF : ∀ st r,F st=some r->F' st=some r) (h:Ex.go F q=some r):Ex.go F' q=some r:=by
 obtain ⟨e,st⟩:=q;cases e
 ·exact hF _ _ h
 ·exact h
 ·exact h
theorem ybj {modes:Nat->List Bool} (hR:OLe R R') {o:zac} (h:evG modes R st o=some r):evG modes R' st o=some r:=by
 unfold evG at h ⊢;refine zgh h (fun _ h=>h) (fun t _ ht => ?_);cases t with
 | true=>exact yen hR ht
 | false=>exact ht
theorem zye {modes:Nat->List Bool} {R R':zak} (hR:OLe R R') : ∀ (os:List (zac×Nat×Nat)) (todo:List (zac×PV×Nat)) (past:List St) (st r:St),evD modes R os todo past st=some r->evD modes R' os todo past st=some r
 | [],_,_,_,_,h=>h
 | (o,b,w)::os,todo,past,st,r,h=>by
  simp only [evD] at h ⊢;refine zgh h (fun x hx=>ybj hR hx) (fun q _ hq => ?_);split at hq
  ·rename_i c; rw [if_pos c];split at hq
   ·rename_i c2; rw [if_pos c2]; exact zye hR os _ _ _ _ hq
   ·cases hq
  ·rename_i c; rw [if_neg c];split at hq
   ·rename_i c2; rw [if_pos c2]; exact zye hR os _ _ _ _ hq
   ·cases hq
theorem zyk {F F':St->Option (Ex×St)} (hF : ∀ st r,F st=some r->F' st=some r) : ∀ (n n':Nat) (st:St) (r:Ex×St),n<=n'->zd2 F n st=some r->zd2 F' n' st=some r
 | 0,_,_,_,_,h=>by cases h
 | n+1,n',st,r,hn,h=>by
  obtain ⟨m,rfl⟩ : ∃ m,n'=m+1:=⟨n'-1,by omega⟩;simp only [zd2] at h ⊢;exact zgh h (fun x hx=>hF _ _ hx) (fun q _ hq=>ycr (fun st r h=>zyk hF n m st r (by omega) h) hq)
theorem zho {modes:Nat->List Bool} (hR:OLe R R') {n n':Nat} (hn:n<=n') : ∀ (c:IC) (st:St) (r:Ex×St),evC modes R n c st=some r->evC modes R' n' c st=some r
 | .skip,_,_,h=>h
 | .reg ops,st,r,h=>by
  simp only [evC,bB] at h ⊢;obtain ⟨s,hs,hr⟩:=h;exact ⟨s,z76 hR ops _ _ hs,hr⟩
 | .regD ops,st,r,h=>by
  simp only [evC,bB] at h ⊢;obtain ⟨s,hs,hr⟩:=h;exact ⟨s,zye hR ops _ _ _ _ hs,hr⟩
 | .seq a b,st,r,h=>by
  simp only [evC] at h ⊢;exact zgh h (fun x hx=>zho hR hn a st x hx) (fun q _ hq=>ycr (fun st r h=>zho hR hn b st r h) hq)
 | .cond c x y,st,r,h=>by
  simp only [evC] at h ⊢;refine zgh h (fun _ h=>h) (fun t _ ht => ?_);cases t
  ·exact zho hR hn y st r ht
  ·exact zho hR hn x st r ht
 | .block id c,st,r,h=>by
  simp only [evC,bB] at h ⊢;obtain ⟨s,hs,hr⟩:=h;exact ⟨s,zho hR hn c st s hs,hr⟩
 | .loop c,st,r,h=>zyk (fun st r h=>zho hR hn c st r h) n n' st r hn h
 | .exit _,_,_,h=>h
 | .ret,_,_,h=>h
theorem qge {modes:Nat->List Bool} (hR:OLe R R') {n n':Nat} (hn:n<=n') {fn:IFn} {args:List PV} {r:List PV×List PV} (h:zpj modes R n fn args=some r):zpj modes R' n' fn args=some r:=by
 unfold zpj at h ⊢;exact zgh h (fun _ h=>h) (fun st _ hst=>zgh hst (fun q hq=>zho hR hn fn.body st q hq) (fun _ _ h=>h))
theorem yul (T:zcg) : ∀ n,OLe (run T n) (run T (n+1))
 | 0=>fun f a r h=>by cases h
 | n+1=>fun f a r h=>by
  have ih:=yul T n;rw [run] at h ⊢;refine zgh h (fun _ h=>h) (fun fu _ hfu => ?_);cases fu with
  | code fn=>exact qge ih (Nat.le_succ n) hfu
  | known m g=>exact hfu
  | ext g=>exact hfu
theorem zhe (T:zcg) {n n':Nat} (h:n<=n'):OLe (run T n) (run T n'):=by
 induction h with
 | refl=>exact fun _ _ _ h=>h
 | step _ ih=>exact fun f a r hr=>yul T _ f a r (ih f a r hr)
open Classical in
noncomputable def lim {α:Type} (g:Nat->Option α):Option α:=if h : ∃ n r,g n=some r then some h.choose_spec.choose else none
theorem yql {α:Type} {g:Nat->Option α} (hg : ∀ n n' r,n<=n'->g n=some r->g n'=some r) {r:α}:lim g=some r↔∃ n,g n=some r:=by
 unfold lim;constructor
 ·intro h;split at h
  ·rename_i hx;have:=hx.choose_spec.choose_spec;cases h;exact ⟨_,this⟩
  ·cases h
 ·rintro ⟨n,hn⟩;have hx : ∃ n r,g n=some r:=⟨n,r,hn⟩;rw [dif_pos hx];have h1:=hx.choose_spec.choose_spec;have a:=hg _ (max n hx.choose) _ (Nat.le_max_left _ _) hn;have b:=hg _ (max n hx.choose) _ (Nat.le_max_right _ _) h1;rw [a] at b;exact b.symm
noncomputable def RUN (T:zcg):zak:=fun f a=>lim fun n=>run T n f a
theorem zx7 {a:List PV} {r:List PV×List PV}:RUN T f a=some r↔∃ n,run T n f a=some r :=
 yql (g:=fun n=>run T n f a) fun _ _ _ h hr=>zhe T h _ _ _ hr
noncomputable def zue (F:St->Option (Ex×St)) (st:St):Option (Ex×St):=lim fun n=>zd2 F n st
theorem z8s {F:St->Option (Ex×St)} {r:Ex×St}:zue F st=some r↔∃ n,zd2 F n st=some r :=
 yql (g:=fun n=>zd2 F n st) fun n n' r h hr=>zyk (fun _ _ h=>h) n n' st r h hr
theorem qfp (F:St->Option (Ex×St)) (st:St):zue F st=(F st).bind (Ex.go (zue F)):=by
 refine Option.ext fun r => ?_;rw [z8s];constructor
 ·rintro ⟨n,hn⟩;cases n with
  | zero=>cases hn
  | succ n =>
   simp only [zd2] at hn;exact zgh hn (fun _ h=>h) (fun q _ hq=>ycr (fun st r h=>z8s.mpr ⟨n,h⟩) hq)
 ·intro h;obtain ⟨⟨e,st'⟩,hq,hr⟩:=bA h;cases e with
  | normal =>
   obtain ⟨n,hn⟩:=z8s.mp (show zue F st'=some r from hr);exact ⟨n+1,by simp only [zd2]; rw [hq]; exact hn⟩
  | exit i=>exact ⟨1,by simp only [zd2]; rw [hq]; exact hr⟩
  | ret=>exact ⟨1,by simp only [zd2]; rw [hq]; exact hr⟩
noncomputable def evL (modes:Nat->List Bool) (R:zak):IC->St->Option (Ex×St)
 | .skip,st=>some (.normal,st)
 | .reg ops,st=>(zdn modes R ops { st with E:=fun _ => .undef }).map fun st=>(.normal,st)
 | .regD ops,st=>(evD modes R ops [] [] { st with E:=fun _ => .undef }).map fun st=>(.normal,st)
 | .seq a b,st=>(evL modes R a st).bind (Ex.go (evL modes R b))
 | .cond c x y,st=>(zg9 (c.get st)).bind fun t=>if t then evL modes R x st else evL modes R y st
 | .block id c,st=>(evL modes R c st).map (Ex.out id)
 | .loop c,st=>zue (evL modes R c) st
 | .exit id,st=>some (.exit id,st)
 | .ret,st=>some (.ret,st)
theorem qg9 {a:List PV×List PV} {fl:Bool} (h:zgw fl (RUN T) st f args a=some r) : ∃ n,zgw fl (run T n) st f args a=some r:=by
 unfold zgw at h ⊢;split at h
 ·rename_i c;obtain ⟨x,hx,h⟩:=bA h;obtain ⟨n,hn⟩:=zx7.mp hx;exact ⟨n,by rw [if_pos c,hn]; exact h⟩
 ·cases h
theorem yta {modes:Nat->List Bool} (h:ze1 modes (RUN T) st f args=some r) : ∃ n,ze1 modes (run T n) st f args=some r:=by
 obtain ⟨a,ha,h⟩:=bA h;obtain ⟨n,hn⟩:=qg9 h;exact ⟨n,Option.bind_eq_some_iff.mpr ⟨a,ha,hn⟩⟩
theorem ysh {modes:Nat->List Bool} (h:zdq modes (RUN T) st f args=some r) : ∃ n,zdq modes (run T n) st f args=some r:=by
 unfold zdq zgi at h ⊢;cases hd:zd9 st (modes f) args with
 | none=>rw [hd] at h; exact yta h
 | some d =>
  rw [hd] at h;simp only [ziu] at h ⊢;split at h
  ·cases h
  ·rename_i c;obtain ⟨q,hq,h⟩:=bA h;obtain ⟨n,hn⟩:=yta hq;exact ⟨n,by rw [if_neg c,hn]; exact h⟩
theorem ypw {modes:Nat->List Bool} {o:IOp} (h:zag modes (RUN T) st o=some r) : ∃ n,zag modes (run T n) st o=some r:=by
 cases o
 case call f args=>exact ysh h
 case callv g args =>
  simp only [zag] at h ⊢;cases hg:g.get st <;> rw [hg] at h <;> first | exact ysh h | cases h
 all_goals exact ⟨0,h⟩
theorem yb8 {modes:Nat->List Bool} : ∀ (os:List zac) (st st':St),zdn modes (RUN T) os st=some st'->∃ n,zdn modes (run T n) os st=some st'
 | [],_,_,h=>⟨0,h⟩
 | o::os,st,st',h=>by
  unfold zdn at h ⊢;obtain ⟨t,ht,h⟩:=bA h;cases t with
  | true =>
   obtain ⟨x,hx,h⟩:=bA h;obtain ⟨n,hn⟩:=ypw hx;obtain ⟨m,hm⟩:=yb8 os _ _ h;refine ⟨max n m,?_⟩;rw [ht];simp only [Option.bind_some,if_true];rw [yen (zhe T (Nat.le_max_left n m)) hn];exact z76 (zhe T (Nat.le_max_right n m)) os _ _ hm
  | false =>
   obtain ⟨m,hm⟩:=yb8 os _ _ h;exact ⟨m,by rw [ht]; exact hm⟩
theorem qdr {modes:Nat->List Bool} {o:zac} (h:evG modes (RUN T) st o=some r) : ∃ n,evG modes (run T n) st o=some r:=by
 unfold evG at h ⊢;obtain ⟨t,ht,h⟩:=bA h;cases t with
 | true=>obtain ⟨n,hn⟩:=ypw h; exact ⟨n,by rw [ht]; exact hn⟩
 | false=>exact ⟨0,by rw [ht]; exact h⟩
theorem ydw {modes:Nat->List Bool} : ∀ (os:List (zac×Nat×Nat)) (todo:List (zac×PV×Nat)) (past:List St) (st r:St),evD modes (RUN T) os todo past st=some r->∃ n,evD modes (run T n) os todo past st=some r
 | [],_,_,_,_,h=>⟨0,h⟩
 | (o,b,w)::os,todo,past,st,r,h=>by
  simp only [evD] at h;obtain ⟨q,hq,h⟩:=bA h;obtain ⟨n,hn⟩:=qdr hq;split at h
  ·rename_i c;split at h
   ·rename_i c2;obtain ⟨m,hm⟩:=ydw os _ _ _ _ h;refine ⟨max n m,?_⟩;simp only [evD];rw [ybj (zhe T (Nat.le_max_left n m)) hn];simp only [Option.bind_some];rw [if_pos c,if_pos c2];exact zye (zhe T (Nat.le_max_right n m)) os _ _ _ _ hm
   ·cases h
  ·rename_i c;split at h
   ·rename_i c2;obtain ⟨m,hm⟩:=ydw os _ _ _ _ h;refine ⟨max n m,?_⟩;simp only [evD];rw [ybj (zhe T (Nat.le_max_left n m)) hn];simp only [Option.bind_some];rw [if_neg c,if_pos c2];exact zye (zhe T (Nat.le_max_right n m)) os _ _ _ _ hm
   ·cases h
theorem zos {modes:Nat->List Bool} : ∀ (c:IC) (st:St) (r:Ex×St),evL modes (RUN T) c st=some r->∃ n,evC modes (run T n) n c st=some r
 | .skip,_,_,h=>⟨0,h⟩
 | .reg ops,st,r,h=>by
  simp only [evL,bB] at h;obtain ⟨s,hs,hr⟩:=h;obtain ⟨n,hn⟩:=yb8 ops _ _ hs;exact ⟨n,by simp only [evC,hn,Option.map_some,hr]⟩
 | .regD ops,st,r,h=>by
  simp only [evL,bB] at h;obtain ⟨s,hs,hr⟩:=h;obtain ⟨n,hn⟩:=ydw ops _ _ _ _ hs;exact ⟨n,by simp only [evC,hn,Option.map_some,hr]⟩
 | .seq a b,st,r,h=>by
  simp only [evL] at h;obtain ⟨⟨e,s⟩,hs,h⟩:=bA h;obtain ⟨n,hn⟩:=zos a _ _ hs;cases e with
  | normal =>
   obtain ⟨m,hm⟩:=zos b _ _ (show evL modes (RUN T) b s=some r from h);refine ⟨max n m,?_⟩;simp only [evC];rw [zho (zhe T (Nat.le_max_left n m)) (Nat.le_max_left n m) a _ _ hn];exact zho (zhe T (Nat.le_max_right n m)) (Nat.le_max_right n m) b _ _ hm
  | exit i=>exact ⟨n,by simp only [evC]; rw [hn]; exact h⟩
  | ret=>exact ⟨n,by simp only [evC]; rw [hn]; exact h⟩
 | .cond c x y,st,r,h=>by
  simp only [evL] at h;obtain ⟨t,ht,h⟩:=bA h;cases t with
  | true=>obtain ⟨n,hn⟩:=zos x _ _ (show evL modes (RUN T) x st=some r from h); exact ⟨n,by simp only [evC,ht,Option.bind_some,if_true]; exact hn⟩
  | false=>obtain ⟨n,hn⟩:=zos y _ _ (show evL modes (RUN T) y st=some r from h); exact ⟨n,by simp only [evC,ht,Option.bind_some,Bool.false_eq_true,if_false]; exact hn⟩
 | .block id c,st,r,h=>by
  simp only [evL,bB] at h;obtain ⟨s,hs,hr⟩:=h;obtain ⟨n,hn⟩:=zos c _ _ hs;exact ⟨n,by simp only [evC,hn,Option.map_some,hr]⟩
 | .loop c,st,r,h=>by
  obtain ⟨k,hk⟩:=z8s.mp (show zue (evL modes (RUN T) c) st=some r from h);have go : ∀ (k:Nat) (st:St),zd2 (evL modes (RUN T) c) k st=some r->∃ n,zd2 (evC modes (run T n) n c) k st=some r:=by
   intro k
   induction k with
   | zero=>intro st h; cases h
   | succ k ih =>
    intro st h;simp only [zd2] at h;obtain ⟨⟨e,s⟩,hs,h⟩:=bA h;obtain ⟨n,hn⟩:=zos c _ _ hs;cases e with
    | normal =>
     obtain ⟨m,hm⟩:=ih s h;refine ⟨max n m,?_⟩;simp only [zd2];rw [zho (zhe T (Nat.le_max_left n m)) (Nat.le_max_left n m) c _ _ hn];exact zyk (fun st r h=>zho (zhe T (Nat.le_max_right n m)) (Nat.le_max_right n m) c st r h) k k _ _ (Nat.le_refl _) hm
    | exit i=>exact ⟨n,by simp only [zd2]; rw [hn]; exact h⟩
    | ret=>exact ⟨n,by simp only [zd2]; rw [hn]; exact h⟩
  obtain ⟨n,hn⟩:=go k st hk;exact ⟨max n k,zyk (fun st r h=>zho (zhe T (Nat.le_max_left n k)) (Nat.le_max_left n k) c st r h) k (max n k) st r (Nat.le_max_right _ _) hn⟩
 | .exit _,_,_,h=>⟨0,h⟩
 | .ret,_,_,h=>⟨0,h⟩
noncomputable def zyo (modes:Nat->List Bool) (R:zak) (fn:IFn) (args:List PV):Option (List PV×List PV) :=
 (zk0 args).bind fun st=>(evL modes R fn.body st).bind (Ex.fin (zfv fn st.nx))
theorem yn4 {fn:IFn} (hT:T f=some (.code fn)) {args:List PV} {r:List PV×List PV} (h:zyo (zad T) (RUN T) fn args=some r):RUN T f args=some r:=by
 unfold zyo at h;obtain ⟨st,hst,h⟩:=bA h;obtain ⟨q,hq,h⟩:=bA h;obtain ⟨n,hn⟩:=zos _ _ _ hq;refine zx7.mpr ⟨n+1,?_⟩;rw [run,hT];simp only [Option.bind_some,zpj,hst,hn];exact h
theorem ybv {m:List Bool} {g:List PV->Option (List PV×List PV)} (hT:T f=some (.known m g)) {args:List PV} {r:List PV×List PV} (h:g args=some r):RUN T f args=some r :=
 zx7.mpr ⟨1,by rw [run,hT]; exact h⟩
theorem ysc {T:zcg} {f:Nat} {g:List Value->Option (List Value)} (hT:T f=some (.ext g)) {xs ys:List Value} (h:g xs=some ys):RUN T f (xs.map .v)=some (ys.map .v,[]):=by
 have e : ∀ l:List Value,zmd (l.map .v)=some l:=by
  intro l
  induction l with
  | nil=>rfl
  | cons x l ih=>simp only [List.map_cons,zmd,ih,Option.map_some]
 exact zx7.mpr ⟨1,by rw [run,hT]; simp only [Option.bind_some,yem,e,h,Option.map_some]⟩
end Go.Pe
namespace Go.Pe
open Go
def zdk (P:Program) (t:TypeId):Option Nat:=(P.info? t).map (·.size)
def zfe (P:Program) (t:TypeId):Option Bool:=(P.underlying t).map fun | .struct _=>true | .array _ _=>true | _=>false
def ysu (P:Program):Nat->TypeId->Option (List Nat)
 | 0,_=>none
 | n+1,t =>
  match P.underlying t with
  | some (.struct fs)=>(fs.toList.mapM fun f=>ysu P n f.type).map List.flatten
  | some (.slice e)=>(zdk P e).map fun s=>[s]
  | some (.array _ _)=>none
  | some _=>some [0]
  | none=>none
def zpm (P:Program) (t:TypeId):Option (List Nat):=(ysu P 8 t).bind fun l=>if zdk P t=some l.length then some l else none
def zpl:Value->Option PV
 | .slice none 0 0=>some .e0
 | x=>if okV x then some (.v x) else none
def ydl:Value->Nat->Option PV
 | .slice none 0 0,sz=>some (.own sz [])
 | x,_=>if okV x then some (.v x) else none
def zpk:List Value->List Nat->Option (List PV)
 | x::xs,s::ss=>(ydl x s).bind fun c=>(zpk xs ss).map (c :: ·)
 | [],[]=>some []
 | _,_=>none
def zo7 (P:Program) (t:TypeId):Option (List PV):=((P.info? t).bind (·.zero)).bind fun z=>z.cells.toList.mapM zpl
def zo4 (P:Program) (t:TypeId):Option (List PV):=((P.info? t).bind (·.zero)).bind fun z=>(zpm P t).bind fun l=>zpk z.cells.toList l
def zao (vars:List Nat):Operand->Option Opd
 | .tmp k=>some (if vars.contains k then .V k else .E k)
 | .const (.slice none 0 0)=>some (.C .e0)
 | .const x=>if okV x then some (.C (.v x)) else none
 | .func f=>some (.C (.fn f []))
 | .global _=>none
def zg8 (vars:List Nat):Option Operand->Option (Option Opd)
 | none=>some none
 | some x=>(zao vars x).map some
def zip (P:Program):Nat->TypeId->Option (List Kd)
 | 0,_=>none
 | n+1,t =>
  match P.underlying t with
  | some .bool=>some [.b]
  | some (.int k)=>some [.i k]
  | some .string=>some [.s]
  | some (.struct fs)=>if P.stoodInHeld t then none else kindsFs (fun t=>zip P n t) P 0 fs.toList
  | _=>none
where kindsFs (f:TypeId->Option (List Kd)) (P:Program):Nat->List Field->Option (List Kd)
 | _,[]=>some []
 | off, fd :: fs => if fd.name != "_" && fd.offset == off then
   (f fd.type).bind fun l=>if zdk P fd.type=some l.length then (kindsFs f P (off+l.length) fs).map (l ++ ·) else none
  else none
def zi8 (P:Program) (vars:List Nat):List Operand->List TypeId->Option (List (List Nat×Opd))
 | x::xs,t::ts=>(zao vars x).bind fun y=>(zi8 P vars xs ts).map fun r=>((zpm P t).getD [],y)::r
 | [],[]=>some []
 | _,_=>none
def ydh:BinOp->Bool
 | .eql=>true
 | .neq=>true
 | _=>false
def zuv:BinOp->Bool
 | .neq=>true
 | _=>false
def zys (P:Program) (op:BinOp) (t:TypeId) (x y:Opd):Option IOp :=
 match P.underlying t with
 | some .bool=>if ydh op then some (.eqb (zuv op) [.b] x y) else none
 | some (.struct _)=>if ydh op && !P.eqGuardType P.depth t then (zip P 4 t).bind fun ks=>if 2<=ks.length then some (.eqb (zuv op) ks x y) else none else none
 | some (.int _)=>some (.bin op x y)
 | some .string=>some (.bin op x y)
 | _=>none
def zph (i:TypeInfo):Bool:=match i.zero with
 | some z=>z.cells.size == i.size
 | none=>false
def zu8 (vars:List Nat) (places:List (Nat×Nat)):List (Nat×Operand)->Option (List (Nat×Nat×Opd))
 | []=>some []
 | q::qs=>(places[q.1]?).bind fun p=>(zao vars q.2).bind fun x=>(zu8 vars places qs).map ((p.1,p.2,x) :: ·)
def zit (vars:List Nat):List (Nat×Operand)->Option (List (Nat×Opd))
 | []=>some []
 | q::qs=>(zao vars q.2).bind fun x=>(zit vars qs).map ((q.1,x) :: ·)
def zbv (P:Program) (vars:List Nat) (o:Op):Option IOp :=
 match o with
 | .move x=>(zao vars x).map .mv
 | .assign x=>(zao vars x).map .mv
 | .pick c a b=>(zao vars c).bind fun c=>(zao vars a).bind fun a=>(zao vars b).map fun b => .pick c a b
 | .alloc t=>(zo7 P t).map .alloc
 | .box _ x=>(zao vars x).map .box
 | .build t parts =>
  match P.underlying t with
  | some (.struct fs)=>(zo7 P t).bind fun z=>(fs.toList.mapM fun f=>(P.info? f.type).map fun i=>(f.offset,i.size)).bind fun places =>
   (zu8 vars places parts.toList).map fun ps => .build z ps
  | _=>none
 | .buildSlice t n parts =>
  match P.underlying t with
  | some (.slice e)=>(zdk P e).bind fun s=>(zo4 P e).bind fun z =>
   (zit vars parts.toList).bind fun ps =>
    if n*s<=16777216/\z.length=s/\0<s then some (.bslice n s z ps) else none
  | _=>none
 | .load t a=>(zfe P t).bind fun ag=>(zdk P t).bind fun s=>(zao vars a).bind fun a=>if ag || s == 1 then some (.load ag s a) else none
 | .store t a x=>(zpm P t).bind fun l=>(zao vars a).bind fun a=>(zao vars x).map fun x => .store l a x
 | .nilCheck x=>(zao vars x).map .nilc
 | .binOp op t x y _=>(zao vars x).bind fun x=>(zao vars y).bind fun y=>zys P op t x y
 | .unOp op _ x=>(zao vars x).map fun x => .un op x
 | .convert src dst x =>
  match P.underlying src,P.underlying dst with
  | some (.int _),some (.int k)=>(zao vars x).map fun x => .convI k x
  | some (.slice e),some .string=>match P.underlying e with
   | some (.int .u8)=>(zao vars x).map .toS
   | _=>none
  | _,_=>none
 | .makeFunc (.func f) first caps=>if first.size=0 then (caps.toList.mapM (zao vars)).map fun cs => .mkfn f cs else none
 | .makeSlice t l c =>
  match P.underlying t with
  | some (.slice e)=>(P.info? e).bind fun i=>(zo4 P e).bind fun z=>(zao vars l).bind fun l=>(zao vars c).bind fun c =>
    if z.length=i.size/\0<i.size/\i.size<=i.bytes then some (.mksl i.bytes i.size z l c) else none
  | _=>none
 | .slice t x lo hi mx =>
  match P.underlying t with
  | some (.slice e)=>(zdk P e).bind fun s=>(zao vars x).bind fun x=>(zg8 vars lo).bind fun lo=>(zg8 vars hi).bind fun hi=>(zg8 vars mx).map fun mx => .slice s x lo hi mx
  | some .string=>if mx.isNone then (zao vars x).bind fun x=>(zg8 vars lo).bind fun lo=>(zg8 vars hi).map fun hi => .sliceS x lo hi else none
  | _=>none
 | .fieldAddr s x f =>
  match P.underlying s with
  | some (.struct fs)=>(fs[f]?).bind fun f=>(zdk P f.type).bind fun z=>(zao vars x).bind fun x=>if z≠0 then some (.faddr f.offset x) else none
  | _=>none
 | .indexAddr t x i =>
  match P.underlying t with
  | some (.slice e)=>(zdk P e).bind fun s=>(zao vars x).bind fun x=>(zao vars i).map fun i => .iaddr s x i
  | _=>none
 | .index t x i =>
  match P.underlying t with
  | some .string=>(zao vars x).bind fun x=>(zao vars i).map fun i => .idx x i
  | _=>none
 | .extract x i=>(zao vars x).map fun x => .ext i x
 | .call c =>
  match c.callee with
  | .value (.func f)=>(zi8 P vars c.args.toList c.argTypes.toList).map fun l => .call f l
  | .value g=>(zao vars g).bind fun g=>(zi8 P vars c.args.toList c.argTypes.toList).map fun l => .callv g l
  | .builtin .len =>
   match c.args.toList,c.argTypes.toList with
   | [x],[t]=>match P.underlying t with
    | some (.slice _)=>(zao vars x).map .len
    | some .string=>(zao vars x).map .lenS
    | _=>none
   | _,_=>none
  | .builtin .append =>
   match c.args.toList,c.argTypes.toList with
   | [s,x],[t,u]=>match P.underlying t,P.underlying u with
    | some (.slice e),some (.slice _)=>(P.info? e).bind fun i=>(zao vars s).bind fun s=>(zao vars x).bind fun x=>if 0<i.size/\i.size<=i.bytes/\zph i=true then some (.app i.bytes i.size s x) else none
    | some (.slice e),some .string=>(P.info? e).bind fun i=>(zao vars s).bind fun s=>(zao vars x).bind fun x=>if i.size=1/\i.bytes=1/\zph i=true then some (.appS s x) else none
    | _,_=>none
   | _,_=>none
  | .builtin .max =>
   match c.args.toList with
   | [x,y]=>(zao vars x).bind fun x=>(zao vars y).map fun y => .mx true x y
   | _=>none
  | .builtin .min =>
   match c.args.toList with
   | [x,y]=>(zao vars x).bind fun x=>(zao vars y).map fun y => .mx false x y
   | _=>none
  | _=>none
 | _=>none
def zia (vars:List Nat) (nt:Nat):Option Tmp->Option (Option Dst)
 | none=>some none
 | some k=>if k<nt then some (some (if vars.contains k then .V k else .E k)) else none
def zxv (vars:List Nat) (ops:Array Oper):Option (Nat×Bool)->Option (Option (Opd×Bool))
 | none=>some none
 | some (j,want)=>((ops[j]?).bind (·.dst)).map fun k=>some (if vars.contains k then .V k else .E k,want)
def zu4 (P:Program) (vars:List Nat) (nt:Nat) (ops:Array Oper) (o:Oper):Option zac :=
 (zbv P vars o.op).bind fun op=>(zia vars nt o.dst).bind fun d=>(zxv vars ops o.guard).map fun g => { dst:=d,op:=op,guard:=g }
def zir (P:Program) (vars:List Nat) (nt:Nat) (ops:Array Oper):List Oper->Option (List zac)
 | []=>some []
 | o::os=>(zu4 P vars nt ops o).bind fun x=>(zir P vars nt ops os).map (x :: ·)
def zmj (ms:List Nat):List Edge->Nat
 | []=>0
 | e::es=>if Region.binds .any e then (2 ^ e.on ||| ms.getD e.on 0) ||| zmj ms es else zmj ms es
def zb4:List Oper->List Nat->List Nat
 | [],ms=>ms
 | o::os,ms=>zb4 os (ms++[zmj ms o.after.toList])
def zeu (ms:List Nat) (i j:Nat):Bool:=(ms.getD i 0).testBit j
def zgb:IOp->Bool
 | .mv _=>true
 | .pick .. => true
 | .build .. => true
 | .bin .. => true
 | .eqb .. => true
 | .un .. => true
 | .convI .. => true
 | .mkfn .. => true
 | .sliceS .. => true
 | .idx .. => true
 | .ext .. => true
 | .lenS .. => true
 | .mx .. => true
 | _=>false
def zpg:Option Opd->List Opd
 | none=>[]
 | some x=>[x]
def IOp.opds:IOp->List Opd
 | .mv x=>[x]
 | .pick c a b=>[c,a,b]
 | .alloc _=>[]
 | .box x=>[x]
 | .build _ ps=>ps.map fun q=>q.2.2
 | .bslice _ _ _ ps=>ps.map fun q=>q.2
 | .allocL _=>[]
 | .mvL x=>[x]
 | .bsliceL _ _ _ ps=>ps.map fun q=>q.2
 | .load _ _ a=>[a]
 | .store _ a x=>[a,x]
 | .nilc x=>[x]
 | .bin _ x y=>[x,y]
 | .eqb _ _ x y=>[x,y]
 | .un _ x=>[x]
 | .convI _ x=>[x]
 | .toS x=>[x]
 | .mkfn _ caps=>caps
 | .mksl _ _ _ l c=>[l,c]
 | .slice _ x lo hi m=>x::(zpg lo++zpg hi++zpg m)
 | .sliceS x lo hi=>x::(zpg lo++zpg hi)
 | .faddr _ x=>[x]
 | .iaddr _ x i=>[x,i]
 | .idx x i=>[x,i]
 | .ext _ x=>[x]
 | .call _ args=>args.map fun q=>q.2
 | .callv g args=>g::args.map fun q=>q.2
 | .len x=>[x]
 | .lenS x=>[x]
 | .app _ _ s x=>[s,x]
 | .appS s x=>[s,x]
 | .mx _ x y=>[x,y]
def zug:Option (Opd×Bool)->List Opd
 | none=>[]
 | some (y,_)=>[y]
def zac.opds (o:zac):List Opd:=zug o.guard++o.op.opds
def Dst.code:Dst->Nat
 | .V k=>2*k
 | .E k=>2*k+1
def zyn (o:zac):Option Nat:=o.dst.map Dst.code
def Opd.code:Opd->Option Nat
 | .V k=>some (2*k)
 | .E k=>some (2*k+1)
 | .C _=>none
def zem (ios:List zac) (j:Nat):Bool:=match ios[j]? with
 | some o => !quiet o.op
 | none=>false
def zep:IOp->Bool
 | .allocL _=>true
 | .bsliceL .. => true
 | _=>false
def zf5:IOp->IOp
 | .alloc z => .allocL z
 | .bslice n sz z ps => .bsliceL n sz z ps
 | o=>o
def z8v:IOp->Bool
 | .alloc _=>true
 | .bslice .. => true
 | _=>false
def z9g (ms:List Nat) (ios:List zac):List zac:=ios.zipIdx.map fun q =>
 if z8v q.1.op && (List.range q.2).any (fun j=>zem ios j && !zeu ms q.2 j) then { q.1 with op:=zf5 q.1.op } else q.1
def lzB (ios:List zac) (j:Nat):Bool:=match ios[j]? with
 | some o=>zep o.op
 | none=>false
def zk4 (ios:List zac) (k:Nat):Bool:=zem ios k && !lzB ios k
def bOf (ms:List Nat) (ios:List zac) (o:zac) (i:Nat):Nat :=
 if quiet o.op && !zgb o.op then (List.range i).countP (zem ios)-(List.range ios.length).countP (fun j=>zem ios j && zeu ms i j) else 0
def upB (ms:List Nat) (ios:List zac) (i j:Nat):Bool := !zeu ms j i && (!lzB ios j || (List.range ios.length).any fun k=>decide (j<k) && zk4 ios k && !zeu ms k i)
def wOf (ms:List Nat) (ios:List zac) (o:zac) (i:Nat):Nat :=
 if quiet o.op && !zgb o.op then (List.range ios.length).countP (fun j=>zem ios j && upB ms ios i j)-(List.range i).countP (zem ios) else 0
def bws (ms:List Nat) (ios:List zac):List (zac×Nat×Nat):=ios.zipIdx.map fun q=>(q.1,bOf ms ios q.1 q.2,wOf ms ios q.1 q.2)
def zpe (md:Region.Mode) (rk:Nat->Nat) (ops:List Oper):Bool :=
 ops.zipIdx.all fun q=>q.1.after.toList.all fun e => !Region.binds md e || (decide (e.on<ops.length) && decide (rk e.on<rk q.2))
def yol (e:Edge):Bool:=match e.ground with
 | .gcOnly _=>true
 | _=>false
def ynq (ops:List Oper):Bool:=ops.any fun o=>o.after.toList.any yol
def yrb (es:List (List Nat)):Nat->List Nat->List Nat
 | 0,done=>done
 | n+1,done=>match (List.range es.length).find? (fun i => !done.contains i && (es.getD i []).all done.contains) with
  | some i=>yrb es n (done++[i])
  | none=>done
def qhm (ops:List Oper):Nat->Nat :=
 fun i=>(yrb (ops.map fun o=>(o.after.toList.filter (Region.binds .gc)).map (·.on)) ops.length []).idxOf i
def yse (ms:List Nat) (ios:List zac):Bool :=
 ios.zipIdx.all fun q=>q.1.opds.all fun y=>match y.code with
  | some c=>ios.zipIdx.all fun p => !(zyn p.1 == some c) || (zeu ms q.2 p.2 || (zgb q.1.op && zeu ms p.2 q.2))
  | none=>true
def yu2 (ms:List Nat) (ios:List zac):Bool :=
 (List.range ios.length).all fun j => !zk4 ios j || (List.range j).all fun i => !zem ios i || zeu ms j i
def yb3 (ms:List Nat) (ios:List zac):Bool :=
 (List.range ios.length).all fun j => !lzB ios j || ((List.range ios.length).any (fun k=>decide (j<k) && zk4 ios k) &&
  (List.range ios.length).all fun i => !zeu ms i j || (!lzB ios i && (zem ios i || (List.range ios.length).any fun k=>decide (j<k) && zk4 ios k && zeu ms i k)))
def dOk (rk:Nat->Nat) (ops:List Oper) (ios:List zac) (ms:List Nat):Bool :=
 (List.range ms.length).all (fun i=>decide (ms.getD i 0<2 ^ i)) && zes (ios.filterMap zyn) && yse ms ios && yu2 ms ios && yb3 ms ios &&
  zpe .text rk ops && (!ynq ops || zpe .gc (qhm ops) ops)
def qd3:IOp->IOp
 | .mv x => .mvL x
 | o=>o
def qd0:IOp->Bool
 | .mv _=>true
 | _=>false
def z82 (b:Bool) (ms:List Nat) (ios:List zac):List zac:=ios.zipIdx.map fun q =>
 if b && qd0 q.1.op && (List.range q.2).any (fun j=>lzB ios j && zeu ms q.2 j) && (List.range q.2).all (fun j => !zem ios j || zeu ms q.2 j) then { q.1 with op:=qd3 q.1.op } else q.1
def zi0 (b:Bool) (ms:List Nat) (ios:List zac):List zac:=z82 b ms (z9g ms ios)
def z9b (P:Program) (vars:List Nat) (nt:Nat) (b:Bool) (rk:Nat->Nat) (ops:Array Oper):Option IC :=
 (zir P vars nt ops ops.toList).bind fun ios =>
  if dOk rk ops.toList (zi0 b (zb4 ops.toList []) ios) (zb4 ops.toList []) then some (.regD (bws (zb4 ops.toList []) (zi0 b (zb4 ops.toList []) ios))) else none
def yok (ord:List Nat) (e:Edge):Edge := { e with on:=ord.idxOf e.on }
def z92 (ord:List Nat) (o:Oper):Oper := { o with after:=o.after.map (yok ord),guard:=o.guard.map fun g=>(ord.idxOf g.1,g.2) }
def zgc (ops:Array Oper) (ord:List Nat):Array Oper:=(ord.map fun i=>z92 ord (ops.getD i default)).toArray
def z9y (n:Nat) (ord:List Nat):Bool:=ord.length == n && (List.range n).all ord.contains && ord.all (fun i=>decide (i<n)) && (List.range n).all (fun k=>ord.idxOf (ord.getD k 0) == k)
def yd6 (ops:List Oper) (es:List (List Nat)) (late:Oper->Bool):Nat->List Nat->List Nat
 | 0,done=>done
 | n+1,done =>
  let rdy:=(List.range ops.length).filter fun i => !done.contains i && (es.getD i []).all done.contains
  match rdy.find? (fun i => !((ops[i]?).map late).getD false) with
  | some i=>yd6 ops es late n (done++[i])
  | none=>match rdy with
   | i::_=>yd6 ops es late n (done++[i])
   | []=>done
def qbw (o:Oper):Bool:=match o.op with
 | .buildSlice .. => true
 | _=>false
def ydq (ops:List Oper):List Nat:=yd6 ops (ops.map fun o=>(o.after.toList.filter (Region.binds .any)).map (·.on)) qbw ops.length []
def yd5 (P:Program) (vars:List Nat) (nt:Nat) (ops:Array Oper):Option IC :=
 match z9b P vars nt false id ops with
 | some x=>some x
 | none=>if z9y ops.size (ydq ops.toList) then z9b P vars nt true (fun k=>(ydq ops.toList).getD k 0) (zgc ops (ydq ops.toList)) else none
def zef (P:Program) (vars:List Nat) (nt:Nat):Code->Option IC
 | .skip=>some .skip
 | .region _ ops draw=>if draw then yd5 P vars nt ops else (zir P vars nt ops ops.toList).map .reg
 | .seq a b=>(zef P vars nt a).bind fun a=>(zef P vars nt b).map fun b => .seq a b
 | .cond c x y=>(zao vars c).bind fun c=>(zef P vars nt x).bind fun x=>(zef P vars nt y).map fun y => .cond c x y
 | .block id c=>(zef P vars nt c).map fun c => .block id c
 | .loop c=>(zef P vars nt c).map .loop
 | .exit id=>some (.exit id)
 | .ret=>some .ret
 | _=>none
def z8h (P:Program) (vars:List Nat) (r:ResultVar) (t:TypeId):Option RV :=
 match r with
 | .tmp k=>(zpm P t).bind fun l=>if vars.contains k then some (.tmp l k) else none
 | .cell k u=>(zpm P u).bind fun l=>(zfe P u).bind fun ag=>if vars.contains k && (ag || l.length == 1) then some (.cell l k ag) else none
def zjb (P:Program) (vars:List Nat):List ResultVar->List TypeId->Option (List RV)
 | r::rs,t::ts=>(z8h P vars r t).bind fun x=>(zjb P vars rs ts).map (x :: ·)
 | [],[]=>some []
 | _,_=>none
end Go.Pe
namespace Go.Pe
open Go
variable {st:St} {k:IntKind} {x:Value} {m:Nat->List Bool} {R:zak} {b:Int} {i s o ep lo ce e n j f sz id io:Nat} {l:List (Nat×PV)} {es:List (List PV)} {cs caps:List PV} {p:Option (Nat×Nat)} {args xs:List (List Nat×PV)} {r:List RV} {ms:List Bool} {d:Sub} {ag:Bool}
abbrev ki (n:Int):Opd := .C (.v (.int .i64 n))
abbrev kb (b:Bool):Opd := .C (.v (.bool b))
abbrev iv (n:Int):PV := .v (.int .i64 n)
abbrev oE (n:Nat) (o:IOp):zac:=⟨some (.E n),o,none⟩
abbrev mV (n k:Nat):zac:=⟨some (.E n),.mv (.V k),none⟩
abbrev vE (n k:Nat):zac:=⟨some (.V n),.mv (.E k),none⟩
abbrev xE (n i k:Nat):zac:=⟨some (.E n),.ext i (.E k),none⟩
abbrev oV (n:Nat) (o:IOp):zac:=⟨some (.V n),o,none⟩
abbrev oN (o:IOp):zac:=⟨none,o,none⟩
abbrev bv (b:Bool):PV := .v (.bool b)
abbrev zaa (ic:IC) (rv:List RV) (ms:List Bool):Fun := .code ⟨ms,rv,ic⟩
@[simp] theorem qwz (k:Nat):Opd.get st (.V k)=st.V k:=rfl
@[simp] theorem qss (k:Nat):Opd.get st (.E k)=st.E k:=rfl
@[simp] theorem qz5 (x:PV):Opd.get st (.C x)=x:=rfl
@[simp] theorem qtk (x:PV):st.put none x=st:=rfl
@[simp] theorem qg0 (st:St) (k:Nat) (x:PV):st.put (some (.V k)) x = { st with V:=upd st.V k x }:=rfl
@[simp] theorem qa7 (st:St) (k:Nat) (x:PV):st.put (some (.E k)) x = { st with E:=upd st.E k x }:=rfl
@[simp] theorem zar {α:Type} (f:Nat->α) (k:Nat) (x:α) (i:Nat):upd f k x i=if i=k then x else f i:=rfl
@[simp] theorem qys (x:Opd):zag m R st (.mv x)=some (x.get st,st):=rfl
@[simp] theorem qu3 (c a b:Opd):zag m R st (.pick c a b)=(zg9 (c.get st)).map fun t=>(if t then a.get st else b.get st,st):=rfl
@[simp] theorem qvo (z:List PV):zag m R st (.alloc z)=some (zb5 st z):=rfl
@[simp] theorem qgj (m:Nat->List Bool) (R:zak) (st:St) (x:Opd):zag m R st (.box x)=if (cellsOf (x.get st)).all zcx then some (zb5 st (cellsOf (x.get st))) else none:=rfl
@[simp] theorem qx0 (z:List PV) (ps:List (Nat×Nat×Opd)):zag m R st (.build z ps)=(zgt z (ps.map fun q=>(q.1,q.2.1,q.2.2.get st))).map fun cs=>(.agg cs,st):=rfl
@[simp] theorem qd1 (m:Nat->List Bool) (R:zak) (st:St) (n sz:Nat) (z:List PV) (ps:List (Nat×Opd)):zag m R st (.bslice n sz z ps)=if (zc6 st (zb6 st ps)).any fun q=>(cellsOf q.2).any isF then (zh3 z (List.replicate n (z.map fz)) (zc6 st (zb6 st ps))).map fun es=>zhi (zdc st (zb6 st ps)) sz es else (zdd (zdc st (zb6 st ps)) z (List.replicate n z) (zc6 st (zb6 st ps))).map fun q=>newRow q.2 sz q.1:=rfl
@[simp] theorem qvy:zc6 st []=[]/\zdc st []=st:=⟨rfl,rfl⟩
@[simp] theorem q3b:zc6 st ((i,.v x)::l)=(i,.v x)::l:=by cases l <;> rfl
@[simp] theorem q1l:zdc st ((i,.v x)::l)=st:=by cases l <;> rfl
@[simp] theorem qrt:zc6 st ((i,.e0)::l)=(i,.e0)::l:=by cases l <;> rfl
@[simp] theorem qz4:zdc st ((i,.e0)::l)=st:=by cases l <;> rfl
@[simp] theorem qwe:zc6 st ((i,.sl s es)::l)=(i,.sl s es)::l:=by cases l <;> rfl
@[simp] theorem q1c:zdc st ((i,.sl s es)::l)=st:=by cases l <;> rfl
@[simp] theorem qqg:zc6 st ((i,.agg cs)::l)=(i,.agg cs)::l:=by cases l <;> rfl
@[simp] theorem q2f:zdc st ((i,.agg cs)::l)=st:=by cases l <;> rfl
@[simp] theorem q2m (o ep lo len:Nat):zc6 st ((i,.ref o none ep lo len)::l)=(i,.ref o none ep lo len)::l:=by cases l <;> rfl
@[simp] theorem q31 (o ep lo len:Nat):zdc st ((i,.ref o none ep lo len)::l)=st:=by cases l <;> rfl
@[simp] theorem qz1:zc6 st ((i,.own s es)::l)=(i,.own s es)::l:=by cases l <;> rfl
@[simp] theorem q4z:zdc st ((i,.own s es)::l)=st:=by cases l <;> rfl
@[simp] theorem q1q (p q:Nat×PV):zc6 st (p::q::l)=p::q::l:=by
 obtain ⟨i,x⟩:=p; cases x <;> first | rfl | (rename_i o p _ _ _; cases p <;> rfl)
@[simp] theorem q0i (p q:Nat×PV):zdc st (p::q::l)=st:=by
 obtain ⟨i,x⟩:=p; cases x <;> first | rfl | (rename_i o p _ _ _; cases p <;> rfl)
@[simp] theorem qye (i o a b ep lo len:Nat):zc6 st [(i,.ref o (some (a,b)) ep lo len)]=(zkr st.ep a b ep lo len (st.S o)).elim [(i,.ref o (some (a,b)) ep lo len)] fun r=>[(i,.sl r.1.1 r.1.2)]:=rfl
@[simp] theorem q4l (i o a b ep lo len:Nat):zdc st [(i,.ref o (some (a,b)) ep lo len)]=(zkr st.ep a b ep lo len (st.S o)).elim st fun r => { st with S:=upd st.S o (some r.2),ep:=st.ep+1 }:=rfl
@[simp] theorem qry (ce a b ep lo len s:Nat):zkr ce a b ep lo len (some (.row s es))=if ep=ce then (zbl es a b).map fun r=>((r.1,cut r.2 lo len),.rowF s (es.map fun e=>e.map fz)) else none:=rfl
@[simp] theorem qr0 (S:Nat->Option Ob):yd2 S o=zf9 (S o):=rfl
@[simp] theorem qw1:zf9 none=none:=rfl
@[simp] theorem qyu:zf9 (some (.row s es))=some (.row s es):=rfl
@[simp] theorem q21:zf9 (some (.rowF s es))=some (.rowF s es):=rfl
@[simp] theorem qri:zf9 (some (.box cs))=some (.box cs):=rfl
@[simp] theorem qr2:zf9 (some (.shadow s es e))=none:=rfl
@[simp] theorem q5i (x:Opd):zag m R st (.mvL x)=some (x.get st,st):=rfl
@[simp] theorem q30 (z:List PV):zag m R st (.allocL z)=some (zb5 st z):=rfl
@[simp] theorem qhq (m:Nat->List Bool) (R:zak) (st:St) (n sz:Nat) (z:List PV) (ps:List (Nat×Opd)):zag m R st (.bsliceL n sz z ps)=(zdd st z (List.replicate n z) (zb6 st ps)).map fun q=>newRow q.2 sz q.1:=rfl
@[simp] theorem qcj (m:Nat->List Bool) (R:zak) (st:St) (ag:Bool) (sz:Nat) (a:Opd):zag m R st (.load ag sz a)=(loadCells st sz (a.get st)).bind fun cs=>(zkx ag cs).map fun x=>(x,st):=rfl
@[simp] theorem qco (m:Nat->List Bool) (R:zak) (st:St) (szs:List Nat) (a x:Opd):zag m R st (.store szs a x)=(storeAt st szs (a.get st) (x.get st)).map fun st=>(.undef,st):=rfl
@[simp] theorem qzo (x:Opd):zag m R st (.nilc x)=(zh0 st (x.get st)).map fun r=>(r,st):=rfl
@[simp] theorem q3o (op:BinOp) (x y:Opd):zag m R st (.bin op x y)=(zms op (x.get st) (y.get st)).map fun r=>(r,st):=rfl
@[simp] theorem qvj (n:Bool) (ks:List Kd) (x y:Opd):zag m R st (.eqb n ks x y)=(eqP ks (x.get st) (y.get st)).map fun b=>(.v (.bool (b != n)),st):=rfl
@[simp] theorem qv8 (op:UnOp) (x:Opd):zag m R st (.un op x)=(unP op (x.get st)).map fun r=>(r,st):=rfl
@[simp] theorem q57 (x:Opd):zag m R st (.convI k x)=(zhp (x.get st)).map fun n=>(.v (.int k (k.wrap n)),st):=rfl
@[simp] theorem qbn (m:Nat->List Bool) (R:zak) (st:St) (x:Opd):zag m R st (.toS x)=(zfj st (x.get st)).bind fun r=>(ziv r.2).map fun l=>(.v (.string ⟨l.toArray⟩),st):=rfl
@[simp] theorem qic (m:Nat->List Bool) (R:zak) (st:St) (f:Nat) (caps:List Opd):zag m R st (.mkfn f caps)=if (caps.map (Opd.get st)).all zpp then some (.fn f (caps.map (Opd.get st)),st) else none:=rfl
@[simp] theorem quf:zpp (.ptr o p ep i j)=true:=rfl
@[simp] theorem q5a:zpp (.fptr cs j)=true:=rfl
@[simp] theorem qa5 (m:Nat->List Bool) (R:zak) (st:St) (b sz:Nat) (z:List PV) (l c:Opd):zag m R st (.mksl b sz z l c)=(zb1 (l.get st)).bind fun n=>(zb1 (c.get st)).bind fun m=>if n<=m/\zaj b m then some (newRow st sz (List.replicate n z)) else none:=rfl
@[simp] theorem qh6 (m:Nat->List Bool) (R:zak) (st:St) (sz:Nat) (x:Opd) (lo hi mx:Option Opd):zag m R st (.slice sz x lo hi mx)=(zbo st lo).bind fun l=>(zbo st hi).bind fun h=>(zbo st mx).bind fun m=>(zk1 st sz (x.get st) l h m).map fun r=>(r,st):=rfl
@[simp] theorem qrp (off:Nat) (x:Opd):zag m R st (.faddr off x)=(zh8 st off (x.get st)).map fun r=>(r,st):=rfl
@[simp] theorem qeh (m:Nat->List Bool) (R:zak) (st:St) (sz:Nat) (x i:Opd):zag m R st (.iaddr sz x i)=(zb1 (i.get st)).bind fun k=>(iaddr st sz k (x.get st)).map fun r=>(r,st):=rfl
@[simp] theorem qbp (m:Nat->List Bool) (R:zak) (st:St) (x i:Opd):zag m R st (.idx x i)=(zcv (x.get st)).bind fun s=>(zb1 (i.get st)).bind fun k=>(s[k]?).map fun b=>(.v (.int .u8 (b.toNat:Int)),st):=rfl
@[simp] theorem qsc (x:Opd):zag m R st (.ext i x)=(zmg i (x.get st)).map fun r=>(r,st):=rfl
@[simp] theorem qzn (args:List (List Nat×Opd)):zag m R st (.call f args)=zdq m R st f (args.map fun q=>(q.1,q.2.get st)):=rfl
@[simp] theorem qq4 (g:Opd) (args:List (List Nat×Opd)):zag m R st (.callv g args)=zo8 m R st (args.map fun q=>(q.1,q.2.get st)) (g.get st):=rfl
@[simp] theorem q4y:zo8 m R st args (.fn f caps)=zdq m R st f (args++caps.map fun c=>([],c)):=rfl
@[simp] theorem qsp (x:Opd):zag m R st (.len x)=(lenOf st (x.get st)).map fun (n:Nat)=>(.v (.int .i64 (n:Int)),st):=rfl
@[simp] theorem qsb (b sz:Nat) (s x:Opd):zag m R st (.app b sz s x)=zkw st b sz (s.get st) (x.get st):=rfl
@[simp] theorem qr3 (big:Bool) (x y:Opd):zag m R st (.mx big x y)=(mxP big (x.get st) (y.get st)).map fun r=>(r,st):=rfl
@[simp] theorem qqb:zdn m R [] st=some st:=rfl
@[simp] theorem qeb (m:Nat->List Bool) (R:zak) (st:St) (d:Option Dst) (op:IOp) (os:List zac):zdn m R (⟨d,op,none⟩::os) st=(zag m R st op).bind fun r=>zdn m R os (r.2.put d r.1):=by simp [zdn,zcz]
@[simp] theorem qff (m:Nat->List Bool) (R:zak) (st:St) (d:Option Dst) (op:IOp) (g:Opd) (w:Bool) (os:List zac):zdn m R (⟨d,op,some (g,w)⟩::os) st=(zih w (g.get st)).bind fun t=>if t then (zag m R st op).bind fun r=>zdn m R os (r.2.put d r.1) else zdn m R os (st.put d (.v Go.undef)):=rfl
@[simp] theorem qzz (w b:Bool):zih w (.v (.bool b))=some (b == w):=rfl
@[simp] theorem q5v (w:Bool):zih w (.v Go.undef)=some false:=rfl
@[simp] theorem qpu:evL m R .skip st=some (.normal,st):=rfl
@[simp] theorem qea (m:Nat->List Bool) (R:zak) (st:St) (ops:List zac):evL m R (.reg ops) st=(zdn m R ops { st with E:=fun _ => .undef }).map fun st=>(.normal,st):=rfl
@[simp] theorem ynu (m:Nat->List Bool) (R:zak) (st:St) (a b:IC):evL m R (.seq a b) st=(evL m R a st).bind (Ex.go (evL m R b)):=rfl
@[simp] theorem qcf (m:Nat->List Bool) (R:zak) (st:St) (c:Opd) (x y:IC):evL m R (.cond c x y) st=(zg9 (c.get st)).bind fun t=>if t then evL m R x st else evL m R y st:=rfl
@[simp] theorem qh5 (m:Nat->List Bool) (R:zak) (st:St) (id:Nat) (c:IC):evL m R (.block id c) st=(evL m R c st).map (Ex.out id):=rfl
theorem z9k (m:Nat->List Bool) (R:zak) (st:St) (c:IC):evL m R (.loop c) st=(evL m R c st).bind (Ex.go (evL m R (.loop c))):=qfp _ _
@[simp] theorem qwk:evL m R (.exit id) st=some (.exit id,st):=rfl
@[simp] theorem qvr:evL m R .ret st=some (.ret,st):=rfl
@[simp] theorem q1j (k:St->Option (Ex×St)):Ex.go k (.normal,st)=k st:=rfl
@[simp] theorem q3j (k:St->Option (Ex×St)):Ex.go k (.exit i,st)=some (.exit i,st):=rfl
@[simp] theorem q1s (k:St->Option (Ex×St)):Ex.go k (.ret,st)=some (.ret,st):=rfl
@[simp] theorem qsu:Ex.out id (.exit i,st)=(if i=id then .normal else .exit i,st):=rfl
@[simp] theorem q4k:Ex.out id (.normal,st)=(.normal,st):=rfl
@[simp] theorem q2i:Ex.out id (.ret,st)=(.ret,st):=rfl
@[simp] theorem qp8 (k:St->Option (List PV×List PV)):Ex.fin k (.normal,st)=k st:=rfl
@[simp] theorem q4w (k:St->Option (List PV×List PV)):Ex.fin k (.ret,st)=k st:=rfl
@[simp] theorem qqy (b:Bool):zg9 (.v (.bool b))=some b:=rfl
@[simp] theorem qxv (n:Int):zhp (.v (.int k n))=some n:=rfl
@[simp] theorem qyf (s:ByteArray):zcv (.v (.string s))=some s:=rfl
@[simp] theorem qg6 (k:IntKind) (n:Nat):zb1 (.v (.int k (n:Int)))=some n:=by simp [zb1,zhp]
@[simp] theorem qz8:zb1 (.v (.int k 0))=some 0:=by simp [zb1,zhp]
@[simp] theorem qvd (op:BinOp) (a b:Value):zms op (.v a) (.v b)=(zbb op a b).map .v:=rfl
@[simp] theorem q1f (op:UnOp) (a:Value):unP op (.v a)=(unV op a).map .v:=rfl
@[simp] theorem ydk (k:IntKind) (a b:Int):zbb .add (.int k a) (.int k b)=some (.int k (k.wrap (a+b))):=by simp [zbb]
@[simp] theorem qxg (a b:Int):zbb .sub (.int k a) (.int k b)=some (.int k (k.wrap (a-b))):=by simp [zbb]
@[simp] theorem ybn (k:IntKind) (a b:Int):zbb .mul (.int k a) (.int k b)=some (.int k (k.wrap (a*b))):=by simp [zbb]
@[simp] theorem q4i (a b:Int):zbb .eql (.int k a) (.int k b)=some (.bool (decide (a=b))):=by simp [zbb]; rfl
@[simp] theorem qzj (a b:Int):zbb .neq (.int k a) (.int k b)=some (.bool (!decide (a=b))):=by simp [zbb]; rfl
@[simp] theorem qtp (a b:Int):zbb .lss (.int k a) (.int k b)=some (.bool (decide (a<b))):=by simp [zbb]
@[simp] theorem qwf (a b:Int):zbb .leq (.int k a) (.int k b)=some (.bool (decide (a<=b))):=by simp [zbb]
@[simp] theorem qwp (a b:Int):zbb .gtr (.int k a) (.int k b)=some (.bool (decide (a > b))):=by simp [zbb]
@[simp] theorem qzt (a b:Int):zbb .geq (.int k a) (.int k b)=some (.bool (decide (a ≥ b))):=by simp [zbb]
@[simp] theorem ycs (k:IntKind) (a b:Int):zbb .and (.int k a) (.int k b)=some (.int k (k.wrap (BitVec.ofInt k.bits a &&& BitVec.ofInt k.bits b).toNat)):=by simp [zbb]
@[simp] theorem q3g (a b:Int):zbb .or (.int k a) (.int k b)=some (.int k (k.wrap (BitVec.ofInt k.bits a ||| BitVec.ofInt k.bits b).toNat)):=by simp [zbb]
@[simp] theorem qs1 (a b:Int):zbb .xor (.int k a) (.int k b)=some (.int k (k.wrap (BitVec.ofInt k.bits a ^^^ BitVec.ofInt k.bits b).toNat)):=by simp [zbb]
@[simp] theorem qqq (a b:Int):zbb .quo (.int k a) (.int k b)=if b≠0 then some (.int k (k.wrap (a.tdiv b))) else none:=by simp [zbb]
@[simp] theorem qz6 (a b:Int):zbb .rem (.int k a) (.int k b)=if b≠0 then some (.int k (a.tmod b)) else none:=by simp [zbb]
@[simp] theorem yte (k k':IntKind) (a b:Int):zbb .shl (.int k a) (.int k' b)=if 0<=b then some (.int k (k.wrap (a*2 ^ min b.toNat k.bits))) else none:=by simp [zbb]
@[simp] theorem ybu (k k':IntKind) (a b:Int):zbb .shr (.int k a) (.int k' b)=if 0<=b then some (.int k (a.fdiv (2 ^ min b.toNat k.bits))) else none:=by simp [zbb]
@[simp] theorem qta (a b:ByteArray):zbb .add (.string a) (.string b)=if ((a.size+b.size:Nat):Int)<=IntKind.i64.max then some (.string (a++b)) else none:=by simp [zbb]
@[simp] theorem q5p (a b:ByteArray):zbb .eql (.string a) (.string b)=some (.bool (a.toList == b.toList)):=by simp [zbb]
@[simp] theorem qt6 (a b:ByteArray):zbb .neq (.string a) (.string b)=some (.bool !(a.toList == b.toList)):=by simp [zbb]
@[simp] theorem quj (a:Int):unV .neg (.int k a)=some (.int k (k.wrap (0-a))):=rfl
@[simp] theorem q50 (b:Bool):unV .not (.bool b)=some (.bool !b):=rfl
@[simp] theorem qq8:newRow st sz es=(.ref st.nx none st.ep 0 es.length,{ st with S:=upd st.S st.nx (some (.row sz es)),nx:=st.nx+1 }):=rfl
@[simp] theorem qus:zhi st sz es=(.ref st.nx none st.ep 0 es.length,{ st with S:=upd st.S st.nx (some (.rowF sz es)),nx:=st.nx+1 }):=rfl
@[simp] theorem qqs:zb5 st cs=(.ptr st.nx none st.ep 0 0,{ st with S:=upd st.S st.nx (some (.box cs)),nx:=st.nx+1 }):=rfl
@[simp] theorem qsd:zfb st o p ep=zau st.ep (st.S o) p ep:=rfl
@[simp] theorem zi5 (ce sz:Nat) (es:List (List PV)) (ep:Nat):zau ce (some (.row sz es)) none ep=some (sz,es):=rfl
@[simp] theorem zfl (ce sz:Nat) (es:List (List PV)) (ep:Nat) (i j:Nat):zau ce (some (.row sz es)) (some (i,j)) ep=if ep=ce then zbl es i j else none:=rfl
@[simp] theorem yd3 (ce sz:Nat) (es:List (List PV)) (ep:Nat):zau ce (some (.rowF sz es)) none ep=some (sz,es):=rfl
@[simp] theorem zyj (ce sz:Nat) (es:List (List PV)) (ep:Nat) (e:Nat):zau ce (some (.shadow sz es e)) none ep=if e=ce then some (sz,es) else none:=rfl
@[simp] theorem q4b:zau ce none p ep=none:=rfl
@[simp] theorem q4a (lo len:Nat):cut es lo len=if lo=0/\len=es.length then es else (es.drop lo).take len:=rfl
@[simp] theorem qrs:zfj st (.sl sz es)=some (sz,es):=rfl
@[simp] theorem qwy (ep lo len:Nat):zfj st (.ref o p ep lo len)=(zfb st o p ep).map fun r=>(r.1,cut r.2 lo len):=rfl
@[simp] theorem qq7:fz (.v x) = .v x:=rfl
@[simp] theorem qyc:fz (.own sz es) = .sl sz es:=rfl
@[simp] theorem qy5:fz (.sl sz es) = .sl sz es:=rfl
@[simp] theorem qtt:rd o ep i j (.v x) = .v x:=rfl
@[simp] theorem qwg:rd o ep i j (.own sz es) = .ref o (some (i,j)) ep 0 es.length:=rfl
@[simp] theorem qtq:zhl o ep i j []=[]:=rfl
@[simp] theorem qvp (c:PV):zhl o ep i j (c::cs)=rd o ep i j c::zhl o ep i (j+1) cs:=rfl
@[simp] theorem qyy:rdV (.v x) = .v x:=rfl
@[simp] theorem q3k:seg cs j sz=if j+sz<=cs.length then some ((cs.drop j).take sz) else none:=rfl
@[simp] theorem ypd (cs:List PV):zkx true cs=some (.agg cs):=rfl
@[simp] theorem yoq (c:PV):zkx false [c]=some c:=rfl
@[simp] theorem qgr (st:St) (sz:Nat) (cs:List PV) (j:Nat):loadCells st sz (.fptr cs j)=(seg cs j sz).map (·.map fz):=rfl
@[simp] theorem qcz (st:St) (sz o:Nat) (p:Option (Nat×Nat)) (ep i j:Nat):loadCells st sz (.ptr o p ep i j)=ziq st.ep o sz (st.S o) p ep i j:=rfl
@[simp] theorem qcp (ce o sz:Nat) (cs:List PV) (ep i j:Nat):ziq ce o sz (some (.box cs)) none ep i j=if i=0 then seg cs j sz else none:=rfl
@[simp] theorem qh3 (ce o sz:Nat) (s:Nat) (es:List (List PV)) (ep i j:Nat):ziq ce o sz (some (.row s es)) none ep i j=(es[i]?).bind fun cs=>(seg cs j sz).map (zhl o ce i j):=rfl
@[simp] theorem qdg (ce o sz:Nat) (s:Nat) (es:List (List PV)) (a b ep i j:Nat):ziq ce o sz (some (.row s es)) (some (a,b)) ep i j=if ep=ce then (zbl es a b).bind fun r=>(r.2[i]?).bind fun cs=>(seg cs j sz).map (·.map rdV) else none:=rfl
@[simp] theorem qdv (ce o sz:Nat) (s:Nat) (es:List (List PV)) (ep i j:Nat):ziq ce o sz (some (.rowF s es)) none ep i j=(es[i]?).bind fun cs=>(seg cs j sz).map (·.map fz):=rfl
@[simp] theorem qec (ce o sz:Nat) (s:Nat) (es:List (List PV)) (e ep i j:Nat):ziq ce o sz (some (.shadow s es e)) none ep i j=if e=ce then (es[i]?).bind fun cs=>(seg cs j sz).map (·.map rdV) else none:=rfl
@[simp] theorem qp1:cellsOf (.agg cs)=cs:=rfl
@[simp] theorem qs5:cellsOf (.v x)=[.v x]:=rfl
@[simp] theorem qz0  : cellsOf (.e0)=[.e0]:=rfl
@[simp] theorem q2o:cellsOf (.sl sz es)=[.sl sz es]:=rfl
@[simp] theorem qw7 (ep lo len:Nat):cellsOf (.ref o p ep lo len)=[.ref o p ep lo len]:=rfl
@[simp] theorem yb5 (st:St) (sz:Nat) (x:Value):zfp st sz (.v x)=if okV x then some (.v x,st) else none:=rfl
@[simp] theorem qg7 (st:St) (sz:Nat):zfp st sz .e0=some (.own sz [],st):=rfl
@[simp] theorem qby (st:St) (sz o:Nat) (p:Option (Nat×Nat)) (ep lo len:Nat):zfp st sz (.ref o p ep lo len)=zf2 st o (st.S o) p lo len:=rfl
@[simp] theorem qhe (st:St) (o s:Nat) (es:List (List PV)) (lo len:Nat):zf2 st o (some (.row s es)) none lo len=if lo=0/\len=es.length then some (.own s es,{ st with S:=upd st.S o (some (.shadow s es st.ep)) }) else none:=rfl
@[simp] theorem yb6 (st:St) (sz:Nat) (szs:List Nat) (c:PV) (cs:List PV):zdo st (sz::szs) (c::cs)=(zfp st sz c).bind fun r=>(zdo r.2 szs cs).bind fun q=>some (r.1::q.1,q.2):=rfl
@[simp] theorem qtc:zdo st [] []=some ([],st):=rfl
@[simp] theorem qwi:toF sz (.v x)=if okV x then some (.v x) else none:=rfl
@[simp] theorem q1a:toF sz .e0=some (.sl sz []):=rfl
@[simp] theorem qp0:toF sz (.sl s es)=some (.sl s es):=rfl
@[simp] theorem q19 (szs:List Nat) (c:PV):ze2 (sz::szs) (c::cs)=(toF sz c).bind fun x=>(ze2 szs cs).bind fun xs=>some (x::xs):=rfl
@[simp] theorem q2b  : ze2 [] []=some []:=rfl
@[simp] theorem qy2 (b:Bool):okV (.bool b)=true:=rfl
@[simp] theorem qzh (n:Int):okV (.int k n)=true:=rfl
@[simp] theorem qwl (s:ByteArray):okV (.string s)=true:=rfl
@[simp] theorem qzw:zcx (.v x)=okV x:=rfl
@[simp] theorem qyq  : zcx .e0=true:=rfl
@[simp] theorem q6a:zcx (.sl sz es)=true:=rfl
@[simp] theorem quh (ep lo len:Nat):zcx (.ref o p ep lo len)=true:=rfl
@[simp] theorem qup:zeo (.v x)=okV x:=rfl
@[simp] theorem q1p:isF (.v x)=false:=rfl
@[simp] theorem qsj  : isF .e0=false:=rfl
@[simp] theorem q09:isF (.sl sz es)=true:=rfl
@[simp] theorem qyk:isF (.own sz es)=false:=rfl
@[simp] theorem q5g (ep lo len:Nat):isF (.ref o p ep lo len)=false:=rfl
@[simp] theorem q4u:isV (.v x)=true:=rfl
@[simp] theorem qua  : isV .e0=false:=rfl
@[simp] theorem qrj:isV (.sl sz es)=false:=rfl
@[simp] theorem qvu:isV (.own sz es)=false:=rfl
@[simp] theorem qub (ep lo len:Nat):isV (.ref o p ep lo len)=false:=rfl
@[simp] theorem qru:zds (.v x)=okV x:=by simp [zds,zeo,isF]
@[simp] theorem qw8:zds (.sl sz es)=true:=rfl
@[simp] theorem qq1 (xs:List PV):over cs j xs=cs.take j++xs++cs.drop (j+xs.length):=rfl
@[simp] theorem qtz (szs:List Nat) (a x:PV):storeAt st szs a x=zuo st szs (cellsOf x) a:=rfl
@[simp] theorem qtf (szs:List Nat) (xs:List PV):zuo st szs xs (.ptr o p ep i j)=if xs.length=szs.length then zfk st szs xs o (st.S o) p ep i j else none:=rfl
@[simp] theorem qqu (szs:List Nat) (xs:List PV):zfk st szs xs o (some (.box cs)) none ep i j=if i=0/\j+xs.length<=cs.length/\xs.all zcx then some { st with S:=upd st.S o (some (.box (over cs j xs))) } else none:=rfl
@[simp] theorem q43 (szs:List Nat) (xs:List PV):zfk st szs xs o (some (.row s es)) none ep i j=(match zjh xs with | some d=>zx2 st o i j d s es | none=>(zdo st szs xs).bind fun r=>zh1 r.2 o i j r.1 (r.2.S o)):=rfl
@[simp] theorem qro:zjh [.v x]=none:=rfl
@[simp] theorem qr5:zjh [.e0]=none:=rfl
@[simp] theorem qx5 (o ep lo len:Nat):zjh [.ref o none ep lo len]=none:=rfl
@[simp] theorem qt0 (q:Nat×Nat) (ep lo len:Nat):zjh [.ref o (some q) ep lo len]=some (o,q,ep,lo,len):=rfl
@[simp] theorem qu2 (a b:PV) (l:List PV):zjh (a::b::l)=none:=by
 cases a with
 | ref o p ep lo len=>cases p <;> rfl
 | _=>rfl
@[simp] theorem q3v (o2:Nat) (q:Nat×Nat) (ep lo len:Nat):zx2 st o i j (o2,q,ep,lo,len) s es=if o2=o/\q=(i,j)/\ep=st.ep then (zbl es i j).bind fun r=>if lo+len<=r.2.length then some { st with S:=upd st.S o (some (.row s (zb0 es i j (.own r.1 (cut r.2 lo len))))),ep:=st.ep+1 } else none else none:=rfl
@[simp] theorem q13 (szs:List Nat) (xs:List PV) (a b ep i j:Nat):zfk st szs xs o (some (.row s es)) (some (a,b)) ep i j=if ep=st.ep/\xs.all zeo then (zbl es a b).bind fun q=>(q.2[i]?).bind fun cs=>if j+xs.length<=cs.length then some { st with S:=upd st.S o (some (.row s (zb0 es a b (.own q.1 (q.2.set i (over cs j xs)))))),ep:=st.ep+1 } else none else none:=rfl
@[simp] theorem q56 (szs:List Nat) (xs:List PV):zfk st szs xs o (some (.rowF s es)) none ep i j=(ze2 szs xs).bind fun ys=>(es[i]?).bind fun cs=>if j+ys.length<=cs.length then some { st with S:=upd st.S o (some (.rowF s (es.set i (over cs j ys)))) } else none:=rfl
@[simp] theorem qp2 (ys:List PV):zh1 st o i j ys (some (.row s es))=(es[i]?).bind fun cs=>if j+ys.length<=cs.length then some { st with S:=upd st.S o (some (.row s (es.set i (over cs j ys)))),ep:=if ys.all isV && ((cs.drop j).take ys.length).all isV then st.ep else st.ep+1 } else none:=rfl
@[simp] theorem q10:zpi (.own sz es)=sz:=rfl
@[simp] theorem qz3:zpi (.v x)=0:=rfl
@[simp] theorem qpo (z:List PV):zdd st z es []=some (es,st):=rfl
@[simp] theorem q5h (z:List PV) (x:PV) (r:List (Nat×PV)):zdd st z es ((i,x)::r)=(zdo st (z.map zpi) (cellsOf x)).bind fun q=>if i<es.length then zdd q.2 z (es.set i q.1) r else none:=rfl
@[simp] theorem q3m (z:List PV):zh3 z es []=some es:=rfl
@[simp] theorem qqv (z:List PV) (x:PV) (r:List (Nat×PV)):zh3 z es ((i,x)::r)=(ze2 (z.map zpi) (cellsOf x)).bind fun ys=>if i<es.length then zh3 z (es.set i ys) r else none:=rfl
@[simp] theorem q0u:zgt cs []=some cs:=rfl
@[simp] theorem qsw (off sz:Nat) (x:PV) (r:List (Nat×Nat×PV)):zgt cs ((off,sz,x)::r)=if (cellsOf x).length=sz/\off+sz<=cs.length/\(cellsOf x).all zcx then zgt (over cs off (cellsOf x)) r else none:=rfl
@[simp] theorem q1u (a b:Int):eqV (.i k) (.int k a) (.int k b)=some (decide (a=b)):=by simp [eqV]; rfl
@[simp] theorem q0c (a b:Bool):eqV .b (.bool a) (.bool b)=some (a == b):=rfl
@[simp] theorem q0w (a b:ByteArray):eqV .s (.string a) (.string b)=some (a == b):=rfl
@[simp] theorem qq9  : zb9 [] [] []=some true:=rfl
@[simp] theorem qp7 (k:Kd) (ks:List Kd) (x y:Value) (xs ys:List PV):zb9 (k::ks) (.v x::xs) (.v y::ys)=(eqV k x y).bind fun b=>if b then zb9 ks xs ys else some false:=rfl
@[simp] theorem qz7:lenOf st .e0=some 0:=rfl
@[simp] theorem qt7:lenOf st (.sl sz es)=some es.length:=rfl
@[simp] theorem qih (st:St) (o:Nat) (p:Option (Nat×Nat)) (ep lo len:Nat):lenOf st (.ref o p ep lo len)=if (zfb st o p ep).isSome then some len else none:=rfl
@[simp] theorem q32:iaddr st sz i (.sl s es)=if s=sz then (es[i]?).map fun cs => .fptr cs 0 else none:=rfl
@[simp] theorem qzx (ep lo len:Nat):iaddr st sz i (.ref o p ep lo len)=(zfb st o p ep).bind fun r=>if r.1=sz/\i<len then some (.ptr o p ep (lo+i) 0) else none:=rfl
@[simp] theorem qpx:zh0 st (.ptr o p ep i j)=if zie st.ep (st.S o) p ep i then some (.ptr o p ep i j) else none:=rfl
@[simp] theorem q4e:zh0 st (.fptr cs j)=some (.fptr cs j):=rfl
@[simp] theorem qxz:zh0 st (.fn f caps)=some (.fn f caps):=rfl
@[simp] theorem qsv (off o:Nat):zh8 st off (.ptr o p ep i j)=if zie st.ep (st.S o) p ep i then some (.ptr o p ep i (j+off)) else none:=rfl
@[simp] theorem q29 (off:Nat):zh8 st off (.fptr cs j)=some (.fptr cs (j+off)):=rfl
@[simp] theorem qgg (ce:Nat) (cs:List PV) (ep i:Nat):zie ce (some (.box cs)) none ep i=(i == 0):=rfl
@[simp] theorem qf3 (ce sz:Nat) (es:List (List PV)) (p:Option (Nat×Nat)) (ep i:Nat):zie ce (some (.row sz es)) p ep i=(zau ce (some (.row sz es)) p ep).isSome:=by cases p <;> rfl
@[simp] theorem qcu (ce sz:Nat) (es:List (List PV)) (p:Option (Nat×Nat)) (ep i:Nat):zie ce (some (.rowF sz es)) p ep i=(zau ce (some (.rowF sz es)) p ep).isSome:=by cases p <;> rfl
@[simp] theorem qi2 (ce sz:Nat) (es:List (List PV)) (e:Nat) (p:Option (Nat×Nat)) (ep i:Nat):zie ce (some (.shadow sz es e)) p ep i=(zau ce (some (.shadow sz es e)) p ep).isSome:=by cases p <;> rfl
@[simp] theorem qpr (vs:List PV):zmg i (.tup vs)=vs[i]?:=rfl
@[simp] theorem qur (a b:Int):mxP true (.v (.int k a)) (.v (.int k b))=some (.v (.int k (max a b))):=by
 simp only [mxP,if_true]
 congr 3
 omega
@[simp] theorem qy8 (a b:Int):mxP false (.v (.int k a)) (.v (.int k b))=some (.v (.int k (min a b))):=by
 simp only [mxP,if_true]
 congr 3
 simp;omega
@[simp] theorem qxq:zb6 st []=[]:=rfl
@[simp] theorem qu6 (x:Opd) (r:List (Nat×Opd)):zb6 st ((i,x)::r)=(i,x.get st)::zb6 st r:=rfl
@[simp] theorem qza:zbo st none=some none:=rfl
@[simp] theorem qe9 (st:St) (y:Opd):zbo st (some y)=(zb1 (y.get st)).map some:=rfl
@[simp] theorem q1e:zf7 st sz .e0=some ([],false,st):=rfl
@[simp] theorem q5y (ep lo len:Nat):zf7 st sz (.ref o p ep lo len)=zgj st sz o (st.S o) p ep lo len:=rfl
@[simp] theorem qyv (ep lo len:Nat):zgj st sz o (some (.row s es)) none ep lo len=if s=sz/\lo+len=es.length then some (es.drop lo,false,{ st with S:=upd st.S o none }) else none:=rfl
@[simp] theorem q3p (i j ep lo len:Nat):zgj st sz o (some (.row s es)) (some (i,j)) ep lo len=if ep=st.ep then (zbl es i j).bind fun r=>if r.1=sz/\lo+len=r.2.length then some (r.2.drop lo,false,{ st with S:=upd st.S o (some (.row s (zb0 es i j .undef))),ep:=st.ep+1 }) else none else none:=rfl
@[simp] theorem qw2 (ep lo len:Nat):zgj st sz o (some (.rowF s es)) none ep lo len=if s=sz/\lo+len=es.length then some (es.drop lo,true,{ st with S:=upd st.S o none }) else none:=rfl
@[simp] theorem q4t (s:PV) (t:ByteArray):appS st s t=(zf7 st 1 s).bind fun b=>if zaj 1 (b.1.length+t.size) then zg7 b.2.2 1 (b.1++zif t) b.2.1 none else none:=rfl
@[simp] theorem qp6 (x:Opd):zag m R st (.lenS x)=(zcv (x.get st)).map fun s=>(.v (.int .i64 (s.size:Int)),st):=rfl
@[simp] theorem q2d (s x:Opd):zag m R st (.appS s x)=(zcv (x.get st)).bind fun t=>appS st (s.get st) t:=rfl
@[simp] theorem qzf (x:Opd) (lo hi:Option Opd):zag m R st (.sliceS x lo hi)=(zcv (x.get st)).bind fun s=>(zbo st lo).bind fun l=>(zbo st hi).bind fun h=>(sliceS s l h).map fun r=>(r,st):=rfl
@[simp] theorem qis (s:ByteArray) (lo hi:Option Nat):sliceS s lo hi=if lo.getD 0<=hi.getD s.size/\hi.getD s.size<=s.size then some (.v (.string (s.extract (lo.getD 0) (hi.getD s.size)))) else none:=rfl
@[simp] theorem q1w (sz l h:Nat):zu2 st sz l h .e0=some .e0:=rfl
@[simp] theorem qh2 (st:St) (sz l h s:Nat) (es:List (List PV)):zu2 st sz l h (.sl s es)=if s=sz then some (.sl s ((es.drop l).take (h-l))) else none:=rfl
@[simp] theorem qb9 (st:St) (sz l h o:Nat) (p:Option (Nat×Nat)) (ep lo n:Nat):zu2 st sz l h (.ref o p ep lo n)=(zfb st o p ep).bind fun r=>if r.1=sz then some (.ref o p ep (lo+l) (h-l)) else none:=rfl
@[simp] theorem qa4 (st:St) (sz:Nat) (x:PV) (lo hi:Option Nat):zk1 st sz x lo hi none=(lenOf st x).bind fun n=>if lo.getD 0<=hi.getD n/\hi.getD n<=n then zu2 st sz (lo.getD 0) (hi.getD n) x else none:=rfl
@[simp] theorem qbb (st:St) (sz:Nat) (x:PV) (lo hi:Option Nat) (m:Nat):zk1 st sz x lo hi (some m)=(lenOf st x).bind fun n=>if m=0/\hi=some 0/\lo.getD 0=0/\0<=n then some .e0 else none:=rfl
@[simp] theorem qsk:zgd st sz .e0=some ([],none,st):=rfl
@[simp] theorem q3x:zgd st sz (.sl s es)=if s=sz/\zcl es then some (es,none,st) else none:=rfl
@[simp] theorem qwj (ep lo len:Nat):zgd st sz (.ref o p ep lo len)=(zfb st o p ep).bind fun r=>if r.1=sz then if zcl (cut r.2 lo len) then some (cut r.2 lo len,none,st) else zg5 st o (st.S o) p lo len else none:=rfl
@[simp] theorem qve (lo len:Nat):zg5 st o (some (.row s es)) none lo len=if lo=0/\len=es.length then some (es,some false,{ st with S:=upd st.S o none }) else none:=rfl
@[simp] theorem q0o (lo len:Nat):zg5 st o (some (.rowF s es)) none lo len=some (cut es lo len,some true,st):=rfl
@[simp] theorem q2c:zg7 st sz es false none=some (newRow st sz es):=rfl
@[simp] theorem qwq:zg7 st sz es false (some false)=some (newRow st sz es):=rfl
@[simp] theorem q55:zg7 st sz es true none=some (zhi st sz es):=rfl
@[simp] theorem q27:zg7 st sz es true (some true)=some (zhi st sz es):=rfl
@[simp] theorem q1m (b sz:Nat) (s x:PV):zkw st b sz s x=(zgd st sz x).bind fun m=>(zf7 m.2.2 sz s).bind fun q=>if zaj b (q.1.length+m.1.length) then zg7 q.2.2 sz (q.1++m.1) q.2.1 m.2.1 else none:=rfl
@[simp] theorem qti  : zcl []=true:=rfl
@[simp] theorem qyw (e:List PV):zcl (e::es)=(e.all isV && zcl es):=rfl
@[simp] theorem q2z:zcb st sz (.v x)=some (.v x):=rfl
@[simp] theorem qy6:zcb st sz .e0=some (.sl sz []):=rfl
@[simp] theorem qp3:zcb st sz (.sl s es)=some (.sl s es):=rfl
@[simp] theorem qxs (ep lo len:Nat):zcb st sz (.ref o p ep lo len)=(zfb st o p ep).map fun r => .sl r.1 (cut r.2 lo len):=rfl
@[simp] theorem q0k:zcb st sz (.fptr cs j)=some (.fptr cs j):=rfl
@[simp] theorem qty:zcb st sz (.ptr o p ep i j)=zi1 (st.S o) p i j:=rfl
@[simp] theorem qy1:zi1 (some (.box cs)) none i j=if i=0/\cs.all zds then some (.fptr cs j) else none:=rfl
@[simp] theorem qyi (szs:List Nat) (c:PV):zey st (sz::szs) (c::cs)=(zcb st sz c).bind fun x=>(zey st szs cs).bind fun xs=>some (x::xs):=rfl
@[simp] theorem qtr (c:PV):zey st [] (c::cs)=(zcb st 0 c).bind fun x=>(zey st [] cs).bind fun xs=>some (x::xs):=rfl
@[simp] theorem qr1 (szs:List Nat):zey st szs []=some []:=by cases szs <;> rfl
@[simp] theorem q2u (szs:List Nat):zcq st szs (.agg cs)=(zey st szs cs).map .agg:=rfl
@[simp] theorem q1g (szs:List Nat):zcq st szs (.fn f caps)=(zey st [] caps).map (.fn f):=rfl
@[simp] theorem qwh (szs:List Nat):zcq st szs (.v x)=zcb st (szs.headD 0) (.v x):=rfl
@[simp] theorem qzu (szs:List Nat):zfz st szs (.v x)=zdf st (szs.headD 0) (.v x):=rfl
@[simp] theorem qxf (szs:List Nat)  : zcq st szs (.e0)=zcb st (szs.headD 0) (.e0):=rfl
@[simp] theorem q2q (szs:List Nat)  : zfz st szs (.e0)=zdf st (szs.headD 0) (.e0):=rfl
@[simp] theorem qws (szs:List Nat):zcq st szs (.sl sz es)=zcb st (szs.headD 0) (.sl sz es):=rfl
@[simp] theorem qvw (szs:List Nat) (ep lo len:Nat):zcq st szs (.ref o p ep lo len)=zcb st (szs.headD 0) (.ref o p ep lo len):=rfl
@[simp] theorem q35 (szs:List Nat) (ep lo len:Nat):zfz st szs (.ref o p ep lo len)=zdf st (szs.headD 0) (.ref o p ep lo len):=rfl
@[simp] theorem q59 (szs:List Nat):zcq st szs (.fptr cs j)=zcb st (szs.headD 0) (.fptr cs j):=rfl
@[simp] theorem q2k (szs:List Nat):zcq st szs (.ptr o p ep i j)=zcb st (szs.headD 0) (.ptr o p ep i j):=rfl
@[simp] theorem qra (szs:List Nat):zfz st szs (.ptr o p ep i j)=zdf st (szs.headD 0) (.ptr o p ep i j):=rfl
@[simp] theorem q1b (szs:List Nat):zfz st szs (.agg cs)=(zgk st szs cs).map fun q=>(.agg q.1,q.2):=rfl
@[simp] theorem qun:zdf st sz (.v x)=some (.v x,[]):=rfl
@[simp] theorem qr9:zdf st sz .e0=some (.own sz [],[.e0]):=rfl
@[simp] theorem qxx (ep lo len:Nat):zdf st sz (.ref o none ep lo len)=zmn o ep lo len (st.S o):=rfl
@[simp] theorem q5q:zdf st sz (.ptr o p ep i j)=zkq o ep (st.S o) p i j:=rfl
@[simp] theorem q4r (o ep lo len s:Nat):zmn o ep lo len (some (.row s es))=if lo=0/\len=es.length then some (.own s es,[.ref o none ep lo len]) else none:=rfl
@[simp] theorem qu4:zkq o ep (some (.box cs)) none i j=if i=0/\j=0/\cs.all zds then some (.bx cs,[.ptr o none ep 0 0]) else none:=rfl
@[simp] theorem q2x (szs:List Nat) (c:PV):zgk st (sz::szs) (c::cs)=(zdf st sz c).bind fun r=>(zgk st szs cs).bind fun q=>some (r.1::q.1,r.2++q.2):=rfl
@[simp] theorem qs7 (szs:List Nat):zgk st szs []=some ([],[]):=by cases szs <;> rfl
@[simp] theorem qwr:zct st ms []=some ([],[]):=by cases ms <;> rfl
@[simp] theorem qql (szs:List Nat) (x:PV):zct st [] ((szs,x)::xs)=(zcq st szs x).bind fun y=>(zct st [] xs).bind fun q=>some (y::q.1,q.2):=rfl
@[simp] theorem qyn (szs:List Nat) (x:PV):zct st (true::ms) ((szs,x)::xs)=(zfz st szs x).bind fun r=>(zct st ms xs).bind fun q=>some (r.1::q.1,r.2++q.2):=rfl
@[simp] theorem qt5 (szs:List Nat) (x:PV):zct st (false::ms) ((szs,x)::xs)=(zcq st szs x).bind fun y=>(zct st ms xs).bind fun q=>some (y::q.1,q.2):=by simp only [zct,Bool.false_eq_true,if_false]; cases zcq st szs x <;> rfl
@[simp] theorem qwb:root (.v x)=[]:=rfl
@[simp] theorem qs9:zd1 (.v x)=[]:=rfl
@[simp] theorem qvg  : root (.e0)=[]:=rfl
@[simp] theorem qyz  : zd1 (.e0)=[]:=rfl
@[simp] theorem q01:root (.sl sz es)=[]:=rfl
@[simp] theorem qw5:zd1 (.sl sz es)=[]:=rfl
@[simp] theorem q2w (ep lo len:Nat):root (.ref o p ep lo len)=[o]:=rfl
@[simp] theorem qxy (ep lo len:Nat):zd1 (.ref o p ep lo len)=[o]:=rfl
@[simp] theorem qpp:root (.ptr o p ep i j)=[o]:=rfl
@[simp] theorem qwn:zd1 (.ptr o p ep i j)=[o]:=rfl
@[simp] theorem qwu:root (.fptr cs j)=[]:=rfl
@[simp] theorem qtw:zd1 (.fptr cs j)=[]:=rfl
@[simp] theorem qrw:zd1 (.agg cs)=cs.flatMap root:=rfl
@[simp] theorem qrg:zd1 (.fn f cs)=cs.flatMap root:=rfl
@[simp] theorem qu9  : zes []=true:=rfl
@[simp] theorem quk (x:Nat) (xs:List Nat):zes (x::xs)=(!xs.any (fun y=>decide (y=x)) && zes xs):=rfl
@[simp] theorem q11:ze8 (.own sz es)=true:=rfl
@[simp] theorem q37:ze8 (.bx cs)=false:=rfl
@[simp] theorem q2l (o len s:Nat) (es':List (List PV)):putRow st o len s es' (some (.row sz es)) none=if es'.length=len/\s=sz/\es.length=len then some { st with S:=upd st.S o (some (.row sz es')) } else none:=rfl
@[simp] theorem quu (cs' cs:List PV):zpo st o cs' (some (.box cs))=if cs'.length=cs.length then some { st with S:=upd st.S o (some (.box cs')) } else none:=rfl
@[simp] theorem qwv:ze8 .undef=true:=rfl
@[simp] theorem qt3:zcw st .e0 .undef=some st:=rfl
@[simp] theorem qwo (ep lo len:Nat):zcw st (.ref o p ep lo len) .undef=zoq st o (st.S o):=rfl
@[simp] theorem q3h:zoq st o (some (.row sz es))=some { st with S:=upd st.S o none }:=rfl
@[simp] theorem q5l:zcw st .e0 (.own sz es)=if es.length=0 then some st else none:=rfl
@[simp] theorem q15 (ep lo len s:Nat) (es':List (List PV)):zcw st (.ref o p ep lo len) (.own s es')=putRow st o len s es' (st.S o) p:=rfl
@[simp] theorem qwc (cs':List PV):zcw st (.ptr o p ep i j) (.bx cs')=zpo st o cs' (st.S o):=rfl
@[simp] theorem qvz:zer st [] []=some st:=rfl
@[simp] theorem qqr (t:PV) (ts:List PV) (o:PV) (os:List PV):zer st (t::ts) (o::os)=(zcw st t o).bind fun st=>zer st ts os:=rfl
@[simp] theorem qxl (z:Bool):zdm st z (.v x)=some (.v x,st):=rfl
@[simp] theorem quv (z:Bool):zdm st z (.sl sz es)=if z then none else some (.sl sz es,st):=rfl
@[simp] theorem q02 (z:Bool):zdm st z (.own sz es)=some (newRow st sz es):=rfl
@[simp] theorem qse (z:Bool):zdm st z (.bx cs)=if z && cs.any isF then none else some (zb5 st cs):=rfl
@[simp] theorem qxi (z:Bool):zgf st z []=some ([],st):=rfl
@[simp] theorem qxn (z:Bool) (c:PV):zgf st z (c::cs)=(zdm st z c).bind fun r=>(zgf r.2 z cs).bind fun q=>some (r.1::q.1,q.2):=rfl
@[simp] theorem qq2 (z:Bool):zff st z (.agg cs)=(zgf st z cs).map fun q=>(.agg q.1,q.2):=rfl
@[simp] theorem qv1 (z:Bool):zff st z (.v x)=zdm st z (.v x):=rfl
@[simp] theorem qqi (z:Bool):zff st z (.sl sz es)=zdm st z (.sl sz es):=rfl
@[simp] theorem q5t (z:Bool):zff st z (.own sz es)=zdm st z (.own sz es):=rfl
@[simp] theorem qqd (z:Bool):zff st z (.bx cs)=zdm st z (.bx cs):=rfl
@[simp] theorem que (z:Bool):zfy st z []=some ([],st):=rfl
@[simp] theorem qpw (z:Bool) (c:PV):zfy st z (c::cs)=(zff st z c).bind fun r=>(zfy r.2 z cs).bind fun q=>some (r.1::q.1,q.2):=rfl
@[simp] theorem qrl (x:PV):zoz [x]=x:=rfl
@[simp] theorem qv5  : zoz [] = .tup []:=rfl
@[simp] theorem q5u (x y:PV) (r:List PV):zoz (x::y::r) = .tup (x::y::r):=rfl
@[simp] theorem q4m  : zeg []=[]:=rfl
@[simp] theorem qux (szs:List Nat) (x:PV) (r:List (List Nat×PV)):zeg ((szs,x)::r)=zd1 x++zeg r:=rfl
@[simp] theorem q0p (all:List Nat):zxt [] all=true:=rfl
@[simp] theorem qpq (r all:List Nat):zxt (o::r) all=(decide ((all.filter fun y=>decide (y=o)).length=1) && zxt r all):=rfl
@[simp] theorem qxe:zkp (some (.row sz es))=false:=rfl
@[simp] theorem qt8:zkp (some (.rowF sz es))=false:=rfl
@[simp] theorem qxo:zkp (some (.box cs))=false:=rfl
@[simp] theorem qq6:zkp (some (.shadow sz es e))=true:=rfl
@[simp] theorem q5k  : zkp none=false:=rfl
@[simp] theorem qst:zij st []=true:=rfl
@[simp] theorem qqx (os:List Nat):zij st (o::os)=(!zkp (st.S o) && zij st os):=rfl
@[simp] theorem qwd  : zyd []=true:=rfl
@[simp] theorem qre (x:PV) (xs:List PV):zyd (x::xs)=false:=rfl
@[simp] theorem q48 (k:Kd) (x y:Value):eqP [k] (.v x) (.v y)=eqV k x y:=rfl
@[simp] theorem qyh (fl:Bool):zhc fl false st=st:=rfl
@[simp] theorem qsr:zhc false true st = { st with ep:=st.ep+1 }:=rfl
@[simp] theorem qx1:zhc true true st = { st with S:=yd2 st.S }:=rfl
@[simp] theorem qtd:zx4 (.own s es)=zcl es:=rfl
@[simp] theorem qvl:zx4 (.bx cs)=true:=rfl
@[simp] theorem q05:z8o (.bx cs)=cs.any isF:=rfl
@[simp] theorem qsm:z8o (.own sz es)=false:=rfl
@[simp] theorem q00 (hs:List PV):zhh args hs=((zeg args).length != (hs.flatMap root).length):=rfl
@[simp] theorem qut:ze1 m R st f args=(zct st (m f) args).bind fun a=>if zxt (a.2.flatMap root) (zeg args) && (zyd a.2 || zij st (zeg args)) then (R f a.1).bind fun r=>if zhh args a.2 && r.2.any z8o || decide (args.length<(m f).length) && !r.2.all zx4 then none else (zer st a.2 r.2).bind fun st1=>(zfy (zhc (decide (args.length<(m f).length)) (r.2.any ze8) st1) (zhh args a.2) r.1).map fun q=>(zoz q.1,q.2) else none:=rfl
@[simp] theorem q3y:zdq m R st f args=zgi (zd9 st (m f) args) (ze1 m R st f args) (ziu m R st f args):=rfl
@[simp] theorem qs8 {α β:Type} (y:Option β) (k:α->Option β):zgi none y k=y:=rfl
@[simp] theorem q0h {α β:Type} (x:α) (y:Option β) (k:α->Option β):zgi (some x) y k=k x:=rfl
@[simp] theorem q14 (q:List Nat×PV):zd9 st (true::ms) (q::xs)=zgi (zg3 st (cellsOf q.2)) (zd9 st ms xs) some:=rfl
@[simp] theorem qvi (q:List Nat×PV):zd9 st (false::ms) (q::xs)=zd9 st ms xs:=rfl
@[simp] theorem q03:zd9 st [] xs=none:=by cases xs <;> rfl
@[simp] theorem q0n:zd9 st ms []=none:=by cases ms with | nil=>rfl | cons b ms=>cases b <;> rfl
@[simp] theorem q4n:cellsOf (.ptr o p ep i j)=[.ptr o p ep i j]:=rfl
@[simp] theorem qu0:cellsOf (.fptr cs j)=[.fptr cs j]:=rfl
@[simp] theorem qsh:cellsOf (.fn f cs)=[.fn f cs]:=rfl
@[simp] theorem q2r:zg3 st []=none:=rfl
@[simp] theorem q1h (c:PV):zg3 st (c::cs)=zgi (zfr st c) (zg3 st cs) some:=rfl
@[simp] theorem qyt:zfr st (.v x)=none:=rfl
@[simp] theorem q16:zfr st .e0=none:=rfl
@[simp] theorem qtx:zfr st .undef=none:=rfl
@[simp] theorem qzr:zfr st (.sl sz es)=none:=rfl
@[simp] theorem q3a:zfr st (.fptr cs j)=none:=rfl
@[simp] theorem q4g:zfr st (.ptr o p ep i j)=none:=rfl
@[simp] theorem q5w:zfr st (.fn f cs)=none:=rfl
@[simp] theorem qvs (o ep lo len:Nat):zfr st (.ref o none ep lo len)=none:=rfl
@[simp] theorem q4d (o i j ep lo len:Nat):zfr st (.ref o (some (i,j)) ep lo len)=zhz st.ep o i j ep lo len (st.S o):=rfl
@[simp] theorem qvh (ce o i j ep lo len sz:Nat):zhz ce o i j ep lo len (some (.row sz es))=if ep=ce then (zbl es i j).bind fun r=>if lo=0/\len=r.2.length then some ⟨o,i,j,sz,es,r.1,r.2⟩ else none else none:=rfl
@[simp] theorem qzy (ce o i j ep lo len:Nat):zhz ce o i j ep lo len (some (.box cs))=none:=rfl
@[simp] theorem q34 (ce o i j ep lo len sz:Nat):zhz ce o i j ep lo len (some (.rowF sz es))=none:=rfl
@[simp] theorem qtm (ce o i j ep lo len:Nat):zhz ce o i j ep lo len none=none:=rfl
@[simp] theorem q25 (ep lo len:Nat):zgp d n e (.ref o p ep lo len)=if o=d.o/\p=some (d.i,d.j)/\ep=e then .ref n none (e+1) lo len else .ref o p ep lo len:=rfl
@[simp] theorem q0t:zgp d n e (.v x) = .v x:=rfl
@[simp] theorem qy7:zgp d n e .e0 = .e0:=rfl
@[simp] theorem q08:zgp d n e (.sl sz es) = .sl sz es:=rfl
@[simp] theorem q41:zgp d n e (.ptr o p ep i j) = .ptr o p ep i j:=rfl
@[simp] theorem qqe:zgp d n e (.fptr cs j) = .fptr cs j:=rfl
@[simp] theorem qzs:zhm d n e (.agg cs) = .agg (cs.map (zgp d n e)):=rfl
@[simp] theorem q4s:zhm d n e (.fn f cs) = .fn f cs:=rfl
@[simp] theorem q3s:zhm d n e (.v x) = .v x:=rfl
@[simp] theorem q3z:zhm d n e .e0 = .e0:=rfl
@[simp] theorem qu8:zhm d n e (.sl sz es) = .sl sz es:=rfl
@[simp] theorem q3l:zhm d n e (.ptr o p ep i j) = .ptr o p ep i j:=rfl
@[simp] theorem q22:zhm d n e (.fptr cs j) = .fptr cs j:=rfl
@[simp] theorem q3c (ep lo len:Nat):zhm d n e (.ref o p ep lo len)=zgp d n e (.ref o p ep lo len):=rfl
@[simp] theorem q4c:zko d n e args=args.map fun q=>(q.1,zhm d n e q.2):=rfl
@[simp] theorem q38:zb8 st d = { st with S:=upd (upd st.S d.o (some (.row d.sz (zb0 d.es d.i d.j .undef)))) st.nx (some (.row d.s2 d.es2)),nx:=st.nx+1,ep:=st.ep+1 }:=rfl
@[simp] theorem qya:zo3 st n d=zor st n d.o d.i d.j (st.S n) (st.S d.o):=rfl
@[simp] theorem qq0 (es es':List (List PV)):zor st n o i j (some (.row s es')) (some (.row sz es))=some { st with S:=upd (upd st.S n none) o (some (.row sz (zb0 es i j (.own s es')))),ep:=st.ep+1 }:=rfl
@[simp] theorem q33:ziu m R st f args d=if (zeg (zko d st.nx st.ep args)).any (fun o=>o=d.o) then none else (ze1 m R (zb8 st d) f (zko d st.nx st.ep args)).bind fun r=>(zo3 r.2 st.nx d).map fun s=>(r.1,s):=rfl
@[simp] theorem qu5:zcy st (.v x)=some (.v x,st):=rfl
@[simp] theorem qpz:zcy st (.sl sz es)=some (.sl sz es,st):=rfl
@[simp] theorem q4j:zcy st (.fptr cs j)=some (.fptr cs j,st):=rfl
@[simp] theorem qxu:zcy st (.own sz es)=some (newRow st sz es):=rfl
@[simp] theorem qrf:zcy st (.bx cs)=some (zb5 st cs):=rfl
@[simp] theorem qs4:zcy st (.fn f caps)=some (.fn f caps,st):=rfl
@[simp] theorem qqa:zkz st []=some ([],st):=rfl
@[simp] theorem qxw (c:PV):zkz st (c::cs)=(zcy st c).bind fun r=>(zkz r.2 cs).bind fun q=>some (r.1::q.1,q.2):=rfl
@[simp] theorem qrd:zg1 st (.agg cs)=(zkz st cs).map fun q=>(.agg q.1,q.2):=rfl
@[simp] theorem q1r:zg1 st (.v x)=zcy st (.v x):=rfl
@[simp] theorem q2y:zg1 st (.sl sz es)=zcy st (.sl sz es):=rfl
@[simp] theorem qyx:zg1 st (.own sz es)=zcy st (.own sz es):=rfl
@[simp] theorem q5x:zg1 st (.bx cs)=zcy st (.bx cs):=rfl
@[simp] theorem qrk:zg1 st (.fptr cs j)=zcy st (.fptr cs j):=rfl
@[simp] theorem qps:zg1 st (.fn f caps)=zcy st (.fn f caps):=rfl
@[simp] theorem qvm:zkv st []=some ([],st):=rfl
@[simp] theorem quq (c:PV):zkv st (c::cs)=(zg1 st c).bind fun r=>(zkv r.2 cs).bind fun q=>some (r.1::q.1,q.2):=rfl
@[simp] theorem q5o  : st0 = { V:=fun _ => .undef,E:=fun _ => .undef,S:=fun _=>none,nx:=0,ep:=0 }:=rfl
@[simp] theorem q0z (args:List PV):zk0 args=(zkv st0 args).map fun q => { q.2 with V:=fun k=>q.1.getD k .undef }:=rfl
@[simp] theorem qte:zdp st io sz (.v x)=some (.v x):=rfl
@[simp] theorem q5f:zdp st io sz .e0=some (.own sz []):=rfl
@[simp] theorem q36:zdp st io sz (.sl s es)=some (.sl s es):=rfl
@[simp] theorem qtg (ep lo len:Nat):zdp st io sz (.ref o p ep lo len)=zkn io o (st.S o) p lo len:=rfl
@[simp] theorem qw4:zdp st io sz (.ptr o p ep i j)=zki io o (st.S o) p i j:=rfl
@[simp] theorem q04 (lo len:Nat):zkn io o (some (.row s es)) none lo len=if io<=o then some (.own s (cut es lo len)) else none:=rfl
@[simp] theorem qv0:zki io o (some (.box cs)) none i j=if io<=o/\i=0/\j=0/\cs.all zds then some (.bx cs) else none:=rfl
@[simp] theorem q6c (szs:List Nat) (c:PV):zji st io (sz::szs) (c::cs)=(zdp st io sz c).bind fun x=>(zji st io szs cs).bind fun xs=>some (x::xs):=rfl
@[simp] theorem qt2 (szs:List Nat):zji st io szs []=some []:=by cases szs <;> rfl
@[simp] theorem qs3 (szs:List Nat):zg2 st io szs (.agg cs)=(zji st io szs cs).map .agg:=rfl
@[simp] theorem qzi (szs:List Nat):zg2 st io szs (.v x)=zdp st io (szs.headD 0) (.v x):=rfl
@[simp] theorem qvb (szs:List Nat)  : zg2 st io szs (.e0)=zdp st io (szs.headD 0) (.e0):=rfl
@[simp] theorem q3t (szs:List Nat):zg2 st io szs (.sl sz es)=zdp st io (szs.headD 0) (.sl sz es):=rfl
@[simp] theorem qvf (szs:List Nat) (ep lo len:Nat):zg2 st io szs (.ref o p ep lo len)=zdp st io (szs.headD 0) (.ref o p ep lo len):=rfl
@[simp] theorem qqn (szs:List Nat):zg2 st io szs (.ptr o p ep i j)=zdp st io (szs.headD 0) (.ptr o p ep i j):=rfl
@[simp] theorem q2n (szs:List Nat) (k:Nat):zou st (.tmp szs k)=some (st.V k):=rfl
@[simp] theorem qw9 (szs:List Nat) (k:Nat):zou st (.cell szs k ag)=(loadCells st szs.length (st.V k)).bind (zkx ag):=rfl
@[simp] theorem q0j (szs:List Nat) (k:Nat):RV.szs (.tmp szs k)=szs:=rfl
@[simp] theorem q42 (szs:List Nat) (k:Nat):RV.szs (.cell szs k ag)=szs:=rfl
@[simp] theorem qts:zi3 st []=some []:=rfl
@[simp] theorem qr7 (r:RV) (rs:List RV):zi3 st (r::rs)=(zou st r).bind fun x=>(zi3 st rs).bind fun xs=>some ((r.szs,x)::xs):=rfl
@[simp] theorem qpt:zk6 st io []=some []:=rfl
@[simp] theorem q39 (szs:List Nat) (x:PV) (r:List (List Nat×PV)):zk6 st io ((szs,x)::r)=(zg2 st io szs x).bind fun y=>(zk6 st io r).bind fun ys=>some (y::ys):=rfl
@[simp] theorem q4h:zgq (some (.row sz es))=some (.own sz es):=rfl
@[simp] theorem q1n:zgq (some (.box cs))=if cs.all zds then some (.bx cs) else none:=rfl
@[simp] theorem qs2:ziz st 0=some []:=rfl
@[simp] theorem qug:ziz st 1=(zgq (st.S 0)).map fun x=>[x]:=rfl
@[simp] theorem qv4:ziz st 2=((zgq (st.S 0)).map fun x=>[x]).bind fun l=>(zgq (st.S 1)).map fun x=>l++[x]:=rfl
@[simp] theorem q5n:zu0 []=false:=rfl
@[simp] theorem qrq (szs:List Nat) (k:Nat):zu0 (.tmp szs k::r)=false:=rfl
@[simp] theorem qzq (szs:List Nat) (k:Nat):zu0 (.cell szs k ag::r)=false:=rfl
@[simp] theorem q5s:zu0 (.pl::r)=true:=rfl
@[simp] theorem q49:zmt []=[]:=rfl
@[simp] theorem qq5 (szs:List Nat) (k:Nat):zmt (.tmp szs k::r) = .tmp szs k::r:=rfl
@[simp] theorem qv2 (szs:List Nat) (k:Nat):zmt (.cell szs k ag::r) = .cell szs k ag::r:=rfl
@[simp] theorem qp4:zmt (.pl::r)=r:=rfl
@[simp] theorem q6b (q:Nat×Nat) (ep lo len:Nat):zkh d n e (.ref o (some q) ep lo len)=if o=d.o/\ep=e then (if q=(d.i,d.j) then .ref n none (e+1) lo len else .ref o (some q) (e+1) lo len) else .ref o (some q) ep lo len:=rfl
@[simp] theorem qvx (n e o ep lo len:Nat):zkh d n e (.ref o none ep lo len) = .ref o none ep lo len:=rfl
@[simp] theorem qx6:zkh d n e (.v x) = .v x:=rfl
@[simp] theorem qx9:zkh d n e .e0 = .e0:=rfl
@[simp] theorem q4v:zu7 d n e (.agg cs) = .agg (cs.map (zkh d n e)):=rfl
@[simp] theorem q0q:zu7 d n e (.v x) = .v x:=rfl
@[simp] theorem qw6:zja (n+1) st xs=match zg3 st (xs.flatMap fun x=>cellsOf x.2) with
  | some d=>zja n (zb8 st d) (xs.map fun q=>(q.1,zu7 d st.nx st.ep q.2))
  | none=>(st,xs):=rfl
@[simp] theorem qyp:zja 0 st xs=(st,xs):=rfl
@[simp] theorem qqw:zyg io (st,xs)=if zes (xs.flatMap fun x=>zd1 x.2) then (zk6 st io xs).bind fun ys=>(ziz st io).map fun os=>(ys,os) else none:=rfl
@[simp] theorem q51 (rv:List RV) (ic:IC):zfv ⟨ms,rv,ic⟩ io st=(zi3 st (zmt rv)).bind fun xs=>zyg io (if zu0 rv then zja 2 st xs else (st,xs)):=rfl
@[simp] theorem quy (rv:List RV) (ic:IC) (args:List PV):zyo m R ⟨ms,rv,ic⟩ args=(zk0 args).bind fun st=>(evL m R ic st).bind (Ex.fin (zfv ⟨ms,rv,ic⟩ st.nx)):=rfl
def zum:List Value->Option (List Value)
 | [.int .u64 x,.int .u64 y,.int .u64 c]=>if 0<=x/\0<=y/\0<=c/\c<=1 then some [.int .u64 ((x+y+c) % 18446744073709551616),.int .u64 ((x+y+c) / 18446744073709551616)] else none
 | _=>none
def zup:List Value->Option (List Value)
 | [.int .u64 x,.int .u64 y,.int .u64 b]=>if 0<=x/\0<=y/\x<18446744073709551616/\y<18446744073709551616/\0<=b/\b<=1 then some [.int .u64 ((x-y-b) % 18446744073709551616),.int .u64 (if x<y+b then 1 else 0)] else none
 | _=>none
theorem yco {T:zcg} {f:Nat} (hT:T f=some (.ext zum)) {x y c:Int} (hx:0<=x) (hy:0<=y) (hc:0<=c) (hc1:c<=1) :
  RUN T f [.v (.int .u64 x),.v (.int .u64 y),.v (.int .u64 c)]=some ([.v (.int .u64 ((x+y+c) % 18446744073709551616)),.v (.int .u64 ((x+y+c) / 18446744073709551616))],[]) :=
 ysc hT (xs:=[.int .u64 x,.int .u64 y,.int .u64 c]) (if_pos ⟨hx,hy,hc,hc1⟩)
theorem yot {T:zcg} {f:Nat} (hT:T f=some (.ext zup)) {x y c:Int} (hx:0<=x) (hy:0<=y) (hx1:x<18446744073709551616) (hy1:y<18446744073709551616) (hc:0<=c) (hc1:c<=1) :
  RUN T f [.v (.int .u64 x),.v (.int .u64 y),.v (.int .u64 c)]=some ([.v (.int .u64 ((x-y-c) % 18446744073709551616)),.v (.int .u64 (if x<y+c then 1 else 0))],[]) :=
 ysc hT (xs:=[.int .u64 x,.int .u64 y,.int .u64 c]) (if_pos ⟨hx,hy,hx1,hy1,hc,hc1⟩)
theorem zaf {T:zcg} {ic:IC} {rv:List RV} (h:T f=some (zaa ic rv ms)):zad T f=ms:=by simp [zad,h,Fun.modes]
theorem zxu {T:zcg} {g:List PV->Option (List PV×List PV)} (h:T f=some (.known ms g)):zad T f=ms:=by simp [zad,h,Fun.modes]
end Go.Pe
namespace Go.Pe
open Go
variable {X:Prop} {s:St} {i x y g:Opd} {id b n sz f bk fw:Nat} {r todo:List (zac×PV×Nat)} {d:Option Dst} {op:IOp} {os:List (zac×Nat×Nat)} {w:PV} {past:List St} {o:zac} {ps:List (Nat×Nat×Opd)} {ag:Bool} {ks:List Kd} {k:IntKind} {caps:List Opd} {lo hi mx:Option Opd} {args:List (List Nat×Opd)} {Q:Ex->St->Prop}
universe u
structure Dm {α:Sort u} (a:α):Type where mk ::
def W (m:Nat->List Bool) (R:zak) (c:IC) (st:St) (Q:Ex->St->Prop) (_:Dm Q:=⟨⟩):Prop := ∃ e s,evL m R c st=some (e,s)/\Q e s
def WO (m:Nat->List Bool) (R:zak) (ops:List zac) (st:St) (K:St->Prop) (_:Dm K:=⟨⟩):Prop := ∃ s,zdn m R ops st=some s/\K s
def WD (m:Nat->List Bool) (R:zak) (ops:List (zac×Nat×Nat)) (todo:List (zac×PV×Nat)) (past:List St) (st:St) (K:St->Prop) (_:Dm K:=⟨⟩) (_:Dm past:=⟨⟩):Prop := ∃ s,evD m R ops todo past st=some s/\K s
def WI (m:Nat->List Bool) (R:zak) (op:IOp) (st:St) (K:PV->St->Prop) (_:Dm K:=⟨⟩):Prop := ∃ x s,zag m R st op=some (x,s)/\K x s
def Ob' {α:Type} (o:Option α) (K:α->Prop) (_:Dm K:=⟨⟩):Prop := ∃ a,o=some a/\K a
def Br (t:Bool) (X Y:Prop) (_:Dm X:=⟨⟩) (_:Dm Y:=⟨⟩):Prop:=(t=true->X)/\(t=false->Y)
def Cd (p X:Prop) (_:Dm X:=⟨⟩):Prop:=p/\X
def Nx (K:St->Prop) (Q:Ex->St->Prop) (_:Dm K) (_:Dm Q):Ex->St->Prop
 | .normal,s=>K s
 | e,s=>Q e s
def Bl (id:Nat) (Q:Ex->St->Prop) (_:Dm Q):Ex->St->Prop
 | .exit i,s=>if i=id then Q .normal s else Q (.exit i) s
 | e,s=>Q e s
def Fin (rv:List RV) (io:Nat) (r:List PV×List PV) (_:Dm rv) (_:Dm r) (e:Ex) (s:St):Prop:=(e = .normal\/e = .ret)/\zfv ⟨[],rv,.skip⟩ io s=some r
section
variable {m:Nat->List Bool} {R:zak}
@[simp] theorem ymx {α:Type} {a:α} {K:α->Prop}:Ob' (some a) K=K a:=by simp [Ob']
@[simp] theorem qzc {α:Type} {K:α->Prop}:Ob' none K=False:=by simp [Ob']
@[simp] theorem qqp {α:Type} {p:Prop} [Decidable p] {a b:α} {K:α->Prop}:Ob' (if p then some a else some b) K=K (if p then a else b):=by split <;> simp
@[simp] theorem yq0 {α:Type} {p:Prop} [Decidable p] {a:Option α} {K:α->Prop}:Ob' (if p then a else none) K=Cd p (Ob' a K):=by
 unfold Cd; split <;> simp_all
@[simp] theorem qht {α β:Type} {o:Option α} {f:α->Option β} {K:β->Prop}:Ob' (o.bind f) K=Ob' o (fun a=>Ob' (f a) K):=by cases o <;> simp
@[simp] theorem qe3 {α β:Type} {o:Option α} {f:α->β} {K:β->Prop}:Ob' (o.map f) K=Ob' o (fun a=>K (f a)):=by cases o <;> simp
@[simp] theorem qvk {X Y:Prop}:Br true X Y=X:=by simp [Br]
@[simp] theorem qsf {X Y:Prop}:Br false X Y=Y:=by simp [Br]
@[simp] theorem qx7:Cd True X=X:=by simp [Cd]
@[simp] theorem q2s:Cd False X=False:=by simp [Cd]
theorem zay {t:Bool} {X Y:Prop} (h1:t=true->X) (h2:t=false->Y):Br t X Y:=⟨h1,h2⟩
end
section
variable {m:Nat->List Bool} {R:zak} {st:St} {Q:Ex->St->Prop} {K:St->Prop}
@[simp] theorem q5b:Nx K Q ⟨⟩ ⟨⟩ .normal s=K s:=rfl
@[simp] theorem q5z:Nx K Q ⟨⟩ ⟨⟩ .ret s=Q .ret s:=rfl
@[simp] theorem q0f {i:Nat}:Nx K Q ⟨⟩ ⟨⟩ (.exit i) s=Q (.exit i) s:=rfl
@[simp] theorem q0s:Bl id Q ⟨⟩ .normal s=Q .normal s:=rfl
@[simp] theorem q4x:Bl id Q ⟨⟩ .ret s=Q .ret s:=rfl
@[simp] theorem qxa:Bl id Q ⟨⟩ (.exit id) s=Q .normal s:=by simp [Bl]
@[simp] theorem qrn:Bl 0 Q ⟨⟩ (.exit 1) s=Q (.exit 1) s:=by simp [Bl]
@[simp] theorem qqk:Bl 1 Q ⟨⟩ (.exit 0) s=Q (.exit 0) s:=by simp [Bl]
@[simp] theorem qrv {rv:List RV} {io:Nat} {r:List PV×List PV}:Fin rv io r ⟨⟩ ⟨⟩ .normal s=(zfv ⟨[],rv,.skip⟩ io s=some r):=by simp [Fin]
@[simp] theorem qzb {rv:List RV} {io:Nat} {r:List PV×List PV}:Fin rv io r ⟨⟩ ⟨⟩ .ret s=(zfv ⟨[],rv,.skip⟩ io s=some r):=by simp [Fin]
theorem yee {c:IC} {e:Ex} (h:evL m R c st=some (e,s)):W m R c st Q=Q e s:=by
 simp only [W,h,bC,Prod.mk.injEq,eq_iff_iff];constructor
 ·rintro ⟨e,s,⟨rfl,rfl⟩,h⟩; exact h
 ·intro h; exact ⟨_,_,⟨rfl,rfl⟩,h⟩
@[simp] theorem q4f:W m R .skip st Q=Q .normal st:=yee rfl
@[simp] theorem q5e:W m R .ret st Q=Q .ret st:=yee rfl
@[simp] theorem qqh:W m R (.exit id) st Q=Q (.exit id) st:=yee rfl
@[simp] theorem q52 {ops:List zac}:W m R (.reg ops) st Q=WO m R ops { st with E:=fun _ => .undef } (Q .normal):=by
 simp only [W,WO,qea,bB,eq_iff_iff];constructor
 ·rintro ⟨e,s,⟨s',h1,h2⟩,h3⟩; cases h2; exact ⟨_,h1,h3⟩
 ·rintro ⟨s,h1,h2⟩; exact ⟨_,s,⟨s,h1,rfl⟩,h2⟩
@[simp] theorem qzp {ops:List (zac×Nat×Nat)}:W m R (.regD ops) st Q=WD m R ops [] [] { st with E:=fun _ => .undef } (Q .normal):=by
 simp only [W,WD,evL,bB,eq_iff_iff];constructor
 ·rintro ⟨e,s,⟨s',h1,h2⟩,h3⟩; cases h2; exact ⟨_,h1,h3⟩
 ·rintro ⟨s,h1,h2⟩; exact ⟨_,s,⟨s,h1,rfl⟩,h2⟩
@[simp] theorem qi8 {a b:IC}:W m R (.seq a b) st Q=W m R a st (Nx (fun s=>W m R b s Q) Q ⟨⟩ ⟨⟩):=by
 simp only [W,ynu,Option.bind_eq_some_iff,eq_iff_iff];constructor
 ·rintro ⟨e,s,⟨⟨e1,s1⟩,h1,h2⟩,h3⟩;refine ⟨e1,s1,h1,?_⟩;cases e1 with
  | normal=>exact ⟨e,s,h2,h3⟩
  | exit i=>cases h2; exact h3
  | ret=>cases h2; exact h3
 ·rintro ⟨e1,s1,h1,h2⟩;cases e1 with
  | normal=>obtain ⟨e,s,h3,h4⟩:=h2; exact ⟨e,s,⟨_,h1,h3⟩,h4⟩
  | exit i=>exact ⟨_,_,⟨_,h1,rfl⟩,h2⟩
  | ret=>exact ⟨_,_,⟨_,h1,rfl⟩,h2⟩
@[simp] theorem q2e {c:Opd} {x y:IC}:W m R (.cond c x y) st Q=Ob' (zg9 (c.get st)) fun t=>Br t (W m R x st Q) (W m R y st Q):=by
 simp only [W,qcf,Option.bind_eq_some_iff,Ob',Br,eq_iff_iff];constructor
 ·rintro ⟨e,s,⟨t,h1,h2⟩,h3⟩;refine ⟨t,h1,fun ht => ?_,fun ht => ?_⟩ <;> subst ht
  ·exact ⟨e,s,by simpa using h2,h3⟩
  ·exact ⟨e,s,by simpa using h2,h3⟩
 ·rintro ⟨t,h1,h2,h3⟩;cases t with
  | true=>obtain ⟨e,s,h4,h5⟩:=h2 rfl; exact ⟨e,s,⟨true,h1,by simpa using h4⟩,h5⟩
  | false=>obtain ⟨e,s,h4,h5⟩:=h3 rfl; exact ⟨e,s,⟨false,h1,by simpa using h4⟩,h5⟩
@[simp] theorem qui {c:IC}:W m R (.block id c) st Q=W m R c st (Bl id Q ⟨⟩):=by
 simp only [W,qh5,bB,eq_iff_iff];constructor
 ·rintro ⟨e,s,⟨⟨e1,s1⟩,h1,h2⟩,h3⟩;refine ⟨e1,s1,h1,?_⟩;cases e1 with
  | normal=>cases h2; exact h3
  | exit i=>simp only [Ex.out] at h2; simp only [Bl]; cases h2; split at h3 <;> simp_all
  | ret=>cases h2; exact h3
 ·rintro ⟨e1,s1,h1,h2⟩;refine ⟨_,_,⟨_,h1,rfl⟩,?_⟩;cases e1 with
  | normal=>exact h2
  | exit i=>simp only [Ex.out]; simp only [Bl] at h2; split <;> simp_all
  | ret=>exact h2
@[simp] theorem q6e:WO m R [] st K=K st:=by simp [WO]
@[simp] theorem q3d {os:List zac}:WO m R (⟨d,op,none⟩::os) st K=WI m R op st (fun x s=>WO m R os (s.put d x) K):=by
 simp only [WO,WI,qeb,Option.bind_eq_some_iff,eq_iff_iff];constructor
 ·rintro ⟨s,⟨⟨x,s1⟩,h1,h2⟩,h3⟩; exact ⟨x,s1,h1,s,h2,h3⟩
 ·rintro ⟨x,s1,h1,s,h2,h3⟩; exact ⟨s,⟨(x,s1),h1,h2⟩,h3⟩
@[simp] theorem qul {w:Bool} {os:List zac}:WO m R (⟨d,op,some (g,w)⟩::os) st K=Ob' (zih w (g.get st)) fun t=>Br t (WI m R op st (fun x s=>WO m R os (s.put d x) K)) (WO m R os (st.put d (.v Go.undef)) K):=by
 simp only [WO,WI,qff,Option.bind_eq_some_iff,Ob',Br,eq_iff_iff];constructor
 ·rintro ⟨s,⟨t,h1,h2⟩,h3⟩;refine ⟨t,h1,fun ht => ?_,fun ht => ?_⟩ <;> subst ht
  ·simp only [if_true,Option.bind_eq_some_iff] at h2;obtain ⟨⟨x,s1⟩,h4,h5⟩:=h2;exact ⟨x,s1,h4,s,h5,h3⟩
  ·exact ⟨s,by simpa using h2,h3⟩
 ·rintro ⟨t,h1,h2,h3⟩;cases t with
  | true=>obtain ⟨x,s1,h4,s,h5,h6⟩:=h2 rfl; exact ⟨s,⟨true,h1,by simp [h4,h5]⟩,h6⟩
  | false=>obtain ⟨s,h4,h5⟩:=h3 rfl; exact ⟨s,⟨false,h1,by simpa using h4⟩,h5⟩
@[simp] theorem qxc:WD m R [] todo past st K=K st:=by simp [WD,evD]
theorem yei:evG m R st ⟨d,op,none⟩=zag m R st op:=rfl
theorem yne {w:Bool}:evG m R st ⟨d,op,some (g,w)⟩=(zih w (g.get st)).bind fun t=>if t then zag m R st op else some (.v Go.undef,st):=rfl
def WQ (m:Nat->List Bool) (R:zak) (os:List (zac×Nat×Nat)) (todo:List (zac×PV×Nat)) (past:List St) (st:St) (K:St->Prop) (o:zac) (b w:Nat) (x:PV) (s:St) (_:Dm K:=⟨⟩) (_:Dm past:=⟨⟩):Prop :=
 if quiet o.op then Cd (za4 st.V st.E o x b past) (WD m R os (if w=0 then todo else (o,x,w)::todo) past (st.put o.dst x) K) else Cd (zcf s todo) (WD m R os (zda todo) (st::past) (s.put o.dst x) K)
theorem yni {b w:Nat}:WD m R ((o,b,w)::os) todo past st K↔∃ x s,evG m R st o=some (x,s)/\WQ m R os todo past st K o b w x s:=by
 simp only [WD,evD,Option.bind_eq_some_iff,WQ,Cd];constructor
 ·rintro ⟨s,⟨⟨x,s1⟩,h1,h2⟩,h3⟩;refine ⟨x,s1,h1,?_⟩;split at h2
  ·rename_i hq; rw [if_pos hq];split at h2
   ·rename_i hc; exact ⟨hc,s,h2,h3⟩
   ·cases h2
  ·rename_i hq; rw [if_neg hq];split at h2
   ·rename_i hc; exact ⟨hc,s,h2,h3⟩
   ·cases h2
 ·rintro ⟨x,s1,h1,h2⟩;split at h2
  ·rename_i hq;obtain ⟨hc,s,h2,h3⟩:=h2;exact ⟨s,⟨(x,s1),h1,by rw [if_pos hq,if_pos hc]; exact h2⟩,h3⟩
  ·rename_i hq;obtain ⟨hc,s,h2,h3⟩:=h2;exact ⟨s,⟨(x,s1),h1,by rw [if_neg hq,if_pos hc]; exact h2⟩,h3⟩
@[simp] theorem qp5 {b w:Nat}:WD m R ((⟨d,op,none⟩,b,w)::os) todo past st K=WI m R op st (fun x s=>WQ m R os todo past st K ⟨d,op,none⟩ b w x s):=by
 rw [eq_iff_iff,yni]; simp only [WI,yei]
@[simp] theorem qsy {v:Bool} {b w:Nat}:WD m R ((⟨d,op,some (g,v)⟩,b,w)::os) todo past st K =
  Ob' (zih v (g.get st)) fun t=>Br t (WI m R op st (fun x s=>WQ m R os todo past st K ⟨d,op,some (g,v)⟩ b w x s)) (WQ m R os todo past st K ⟨d,op,some (g,v)⟩ b w (.v Go.undef) st):=by
 rw [eq_iff_iff,yni];simp only [WI,yne,Option.bind_eq_some_iff,Ob',Br];constructor
 ·rintro ⟨x,s,⟨t,h1,h2⟩,h3⟩;refine ⟨t,h1,fun ht => ?_,fun ht => ?_⟩ <;> subst ht
  ·exact ⟨x,s,by simpa using h2,h3⟩
  ·simp at h2; obtain ⟨rfl,rfl⟩:=h2; exact h3
 ·rintro ⟨t,h1,h2,h3⟩;cases t with
  | true=>obtain ⟨x,s,h4,h5⟩:=h2 rfl; exact ⟨x,s,⟨true,h1,by simpa using h4⟩,h5⟩
  | false=>exact ⟨_,_,⟨false,h1,rfl⟩,h3 rfl⟩
theorem zdy {g:Option (Opd×Bool)} {b w:Nat} {x:PV} (h:quiet op=true):WQ m R os todo past st K ⟨d,op,g⟩ b w x s=Cd (za4 st.V st.E ⟨d,op,g⟩ x b past) (WD m R os (if w=0 then todo else (⟨d,op,g⟩,x,w)::todo) past (st.put d x) K):=by
 simp only [WQ,h,if_true]
theorem zhg {g:Option (Opd×Bool)} {b w:Nat} {x:PV} (h:quiet op=false):WQ m R os todo past st K ⟨d,op,g⟩ b w x s=Cd (zcf s todo) (WD m R os (zda todo) (st::past) (s.put d x) K):=by
 simp only [WQ,h,Bool.false_eq_true,if_false]
theorem zd7 {g:Option (Opd×Bool)} {x:PV} (h:quiet op=true):WQ m R os todo past st K ⟨d,op,g⟩ 0 0 x s=WD m R os todo past (st.put d x) K:=by
 rw [zdy h]; simp [Cd,za4]
theorem zee {g:Option (Opd×Bool)} {b w:Nat} {x:PV} (h:quiet op=true):WQ m R os todo past st K ⟨d,op,g⟩ b (w+1) x s=Cd (za4 st.V st.E ⟨d,op,g⟩ x b past) (WD m R os ((⟨d,op,g⟩,x,w+1)::todo) past (st.put d x) K):=by
 rw [zdy h]; simp
@[simp] theorem q5r {V E:Nat->PV} {x:PV} {ms:List St}:za4 V E o x 0 ms=True:=by simp [za4]
@[simp] theorem qyd {V E:Nat->PV} {x:PV}:za4 V E o x n []=True:=by cases n <;> simp [za4]
@[simp] theorem qy9 {V E:Nat->PV} {x:PV} {ms:List St}:za4 V E ⟨d,op,none⟩ x (n+1) (s::ms)=(WI (fun _=>[]) (fun _ _=>none) op { s with V:=V,E:=E } (fun y _=>y=x)/\za4 V E ⟨d,op,none⟩ x n ms):=by
 simp only [za4,yv,yei,WI,bB,eq_iff_iff];constructor
 ·rintro ⟨⟨⟨y,s'⟩,h1,h2⟩,h3⟩; exact ⟨⟨y,s',h1,h2⟩,h3⟩
 ·rintro ⟨⟨y,s',h1,h2⟩,h3⟩; exact ⟨⟨(y,s'),h1,h2⟩,h3⟩
@[simp] theorem qqz:zcf s []=True:=by simp [zcf]
@[simp] theorem q2h {x:PV}:zcf s ((o,x,0)::r)=zcf s r:=by simp [zcf]
@[simp] theorem qxm {x:PV}:zcf s ((⟨d,op,none⟩,x,n+1)::r)=(WI (fun _=>[]) (fun _ _=>none) op s (fun y _=>y=x)/\zcf s r):=by
 simp only [zcf,yv,yei,WI,bB,eq_iff_iff];constructor
 ·rintro ⟨⟨⟨y,s'⟩,h1,h2⟩,h3⟩; exact ⟨⟨y,s',h1,h2⟩,h3⟩
 ·rintro ⟨⟨y,s',h1,h2⟩,h3⟩; exact ⟨⟨(y,s'),h1,h2⟩,h3⟩
@[simp] theorem qtv:zda []=[]:=rfl
@[simp] theorem q2p {x:PV}:zda ((o,x,0)::r)=zda r:=rfl
@[simp] theorem qrx {x:PV}:zda ((o,x,n+1)::r)=(o,x,n)::zda r:=rfl
theorem z9j {K:PV->St->Prop} {x:PV} (h:zag m R st op=some (x,s)):WI m R op st K=K x s:=by
 simp only [WI,h,bC,Prod.mk.injEq,eq_iff_iff];constructor
 ·rintro ⟨a,b,⟨rfl,rfl⟩,h⟩; exact h
 ·intro h; exact ⟨_,_,⟨rfl,rfl⟩,h⟩
theorem zhn {op:IOp} {K:PV->St->Prop} {α:Type} {o:Option α} {f:α->PV} (h:zag m R st op=o.map fun a=>(f a,st)):WI m R op st K=Ob' o fun a=>K (f a) st:=by
 simp only [WI,h,bB,Prod.mk.injEq,Ob',eq_iff_iff];constructor
 ·rintro ⟨x,s,⟨a,h1,rfl,rfl⟩,h3⟩; exact ⟨a,h1,h3⟩
 ·rintro ⟨a,h1,h2⟩; exact ⟨_,_,⟨a,h1,rfl,rfl⟩,h2⟩
theorem zfu {op:IOp} {K:PV->St->Prop} {o:Option (PV×St)} (h:zag m R st op=o):WI m R op st K=Ob' o fun r=>K r.1 r.2:=by
 simp only [WI,h,Ob',eq_iff_iff];constructor
 ·rintro ⟨x,s,h1,h2⟩; exact ⟨(x,s),h1,h2⟩
 ·rintro ⟨⟨x,s⟩,h1,h2⟩; exact ⟨x,s,h1,h2⟩
end
section
variable {m:Nat->List Bool} {R:zak} {st:St} {K:PV->St->Prop}
@[simp] theorem qp9:WI m R (.mv x) st K=K (x.get st) st:=z9j rfl
@[simp] theorem quw {c a b:Opd}:WI m R (.pick c a b) st K=Ob' (zg9 (c.get st)) fun t=>K (if t then a.get st else b.get st) st:=zhn rfl
@[simp] theorem q6f {z:List PV}:WI m R (.alloc z) st K=K (zb5 st z).1 (zb5 st z).2:=z9j rfl
@[simp] theorem q23:WI m R (.box x) st K=Cd ((cellsOf (x.get st)).all zcx=true) (K (zb5 st (cellsOf (x.get st))).1 (zb5 st (cellsOf (x.get st))).2):=by
 rw [zfu (qgj m R st x),yq0,ymx]
@[simp] theorem qrm {z:List PV}:WI m R (.build z ps) st K=Ob' (zgt z (ps.map fun q=>(q.1,q.2.1,q.2.2.get st))) fun cs=>K (.agg cs) st:=zhn rfl
@[simp] theorem qx3 {z:List PV} {ps:List (Nat×Opd)}:WI m R (.bslice n sz z ps) st K=Ob' (if (zc6 st (zb6 st ps)).any fun q=>(cellsOf q.2).any isF then
   (zh3 z (List.replicate n (z.map fz)) (zc6 st (zb6 st ps))).map fun es=>zhi (zdc st (zb6 st ps)) sz es
  else (zdd (zdc st (zb6 st ps)) z (List.replicate n z) (zc6 st (zb6 st ps))).map fun q=>newRow q.2 sz q.1) fun r=>K r.1 r.2:=zfu (qd1 m R st n sz z ps)
@[simp] theorem q1x:WI m R (.mvL x) st K=K (x.get st) st:=z9j rfl
@[simp] theorem qr8 {z:List PV}:WI m R (.allocL z) st K=K (zb5 st z).1 (zb5 st z).2:=z9j rfl
@[simp] theorem qy4 {z:List PV} {ps:List (Nat×Opd)}:WI m R (.bsliceL n sz z ps) st K=Ob' (zdd st z (List.replicate n z) (zb6 st ps)) fun q=>K (newRow q.2 sz q.1).1 (newRow q.2 sz q.1).2:=by
 rw [zfu (qhq m R st n sz z ps),eq_iff_iff];simp only [Ob',bB];constructor
 ·rintro ⟨r,⟨q,h1,rfl⟩,h3⟩; exact ⟨q,h1,h3⟩
 ·rintro ⟨q,h1,h3⟩; exact ⟨_,⟨q,h1,rfl⟩,h3⟩
@[simp] theorem qz2 {a:Opd}:WI m R (.load ag sz a) st K=Ob' (loadCells st sz (a.get st)) fun cs=>Ob' (zkx ag cs) fun x=>K x st:=by
 rw [zfu (qcj m R st ag sz a),eq_iff_iff];simp only [Ob',Option.bind_eq_some_iff,bB];constructor
 ·rintro ⟨r,⟨cs,h1,x,h2,rfl⟩,h3⟩; exact ⟨cs,h1,x,h2,h3⟩
 ·rintro ⟨cs,h1,x,h2,h3⟩; exact ⟨_,⟨cs,h1,x,h2,rfl⟩,h3⟩
@[simp] theorem qzl {szs:List Nat} {a x:Opd}:WI m R (.store szs a x) st K=Ob' (storeAt st szs (a.get st) (x.get st)) fun s=>K .undef s:=by
 rw [zfu (qco m R st szs a x),qe3]
@[simp] theorem qz9:WI m R (.nilc x) st K=Ob' (zh0 st (x.get st)) fun r=>K r st:=zhn (f:=id) rfl
@[simp] theorem qtl {op:BinOp}:WI m R (.bin op x y) st K=Ob' (zms op (x.get st) (y.get st)) fun r=>K r st:=zhn (f:=id) rfl
@[simp] theorem q1z {n:Bool}:WI m R (.eqb n ks x y) st K=Ob' (eqP ks (x.get st) (y.get st)) fun b=>K (.v (.bool (b != n))) st:=zhn rfl
@[simp] theorem qxp {op:UnOp}:WI m R (.un op x) st K=Ob' (unP op (x.get st)) fun r=>K r st:=zhn (f:=id) rfl
@[simp] theorem q46:WI m R (.convI k x) st K=Ob' (zhp (x.get st)) fun n=>K (.v (.int k (k.wrap n))) st:=zhn rfl
@[simp] theorem qww:WI m R (.toS x) st K=Ob' (zfj st (x.get st)) fun r=>Ob' (ziv r.2) fun l=>K (.v (.string ⟨l.toArray⟩)) st:=by
 rw [zfu (qbn m R st x),eq_iff_iff];simp only [Ob',Option.bind_eq_some_iff,bB];constructor
 ·rintro ⟨r,⟨cs,h1,x,h2,rfl⟩,h3⟩; exact ⟨cs,h1,x,h2,h3⟩
 ·rintro ⟨cs,h1,x,h2,h3⟩; exact ⟨_,⟨cs,h1,x,h2,rfl⟩,h3⟩
@[simp] theorem q28:WI m R (.mkfn f caps) st K=Cd ((caps.map (Opd.get st)).all zpp=true) (K (.fn f (caps.map (Opd.get st))) st):=by
 rw [zfu (qic m R st f caps),yq0,ymx]
@[simp] theorem qxh {z:List PV} {l c:Opd}:WI m R (.mksl b sz z l c) st K=Ob' (zb1 (l.get st)) fun n=>Ob' (zb1 (c.get st)) fun k=>Cd (n<=k/\zaj b k=true) (K (newRow st sz (List.replicate n z)).1 (newRow st sz (List.replicate n z)).2):=by
 rw [zfu (qa5 m R st b sz z l c),eq_iff_iff];simp only [Ob',Cd,Option.bind_eq_some_iff];constructor
 ·rintro ⟨r,⟨n,h1,k,h2,h3⟩,h4⟩;split at h3
  ·rename_i hc; cases h3; exact ⟨n,h1,k,h2,hc,h4⟩
  ·cases h3
 ·rintro ⟨n,h1,k,h2,hc,h4⟩; exact ⟨_,⟨n,h1,k,h2,if_pos hc⟩,h4⟩
@[simp] theorem q26:WI m R (.slice sz x lo hi mx) st K=Ob' (zbo st lo) fun l=>Ob' (zbo st hi) fun h=>Ob' (zbo st mx) fun k=>Ob' (zk1 st sz (x.get st) l h k) fun r=>K r st:=by
 rw [zfu (qh6 m R st sz x lo hi mx),eq_iff_iff];simp only [Ob',Option.bind_eq_some_iff,bB];constructor
 ·rintro ⟨r,⟨l,h1,h,h2,k,h3,q,h4,rfl⟩,h5⟩; exact ⟨l,h1,h,h2,k,h3,q,h4,h5⟩
 ·rintro ⟨l,h1,h,h2,k,h3,q,h4,h5⟩; exact ⟨_,⟨l,h1,h,h2,k,h3,q,h4,rfl⟩,h5⟩
@[simp] theorem qso:WI m R (.sliceS x lo hi) st K=Ob' (zcv (x.get st)) fun s=>Ob' (zbo st lo) fun l=>Ob' (zbo st hi) fun h=>Ob' (sliceS s l h) fun r=>K r st:=by
 rw [zfu (o:=(zcv (x.get st)).bind fun s=>(zbo st lo).bind fun l=>(zbo st hi).bind fun h=>(sliceS s l h).map fun r=>(r,st)) rfl,eq_iff_iff];simp only [Ob',Option.bind_eq_some_iff,bB];constructor
 ·rintro ⟨r,⟨l,h1,h,h2,k,h3,q,h4,rfl⟩,h5⟩; exact ⟨l,h1,h,h2,k,h3,q,h4,h5⟩
 ·rintro ⟨l,h1,h,h2,k,h3,q,h4,h5⟩; exact ⟨_,⟨l,h1,h,h2,k,h3,q,h4,rfl⟩,h5⟩
@[simp] theorem qx8 {off:Nat}:WI m R (.faddr off x) st K=Ob' (zh8 st off (x.get st)) fun r=>K r st:=zhn (f:=id) rfl
@[simp] theorem qzd:WI m R (.iaddr sz x i) st K=Ob' (zb1 (i.get st)) fun k=>Ob' (iaddr st sz k (x.get st)) fun r=>K r st:=by
 rw [zfu (qeh m R st sz x i),eq_iff_iff];simp only [Ob',Option.bind_eq_some_iff,bB];constructor
 ·rintro ⟨r,⟨cs,h1,x,h2,rfl⟩,h3⟩; exact ⟨cs,h1,x,h2,h3⟩
 ·rintro ⟨cs,h1,x,h2,h3⟩; exact ⟨_,⟨cs,h1,x,h2,rfl⟩,h3⟩
@[simp] theorem quc:WI m R (.idx x i) st K=Ob' (zcv (x.get st)) fun s=>Ob' (zb1 (i.get st)) fun k=>Ob' (s[k]?) fun b=>K (.v (.int .u8 (b.toNat:Int))) st:=by
 rw [zfu (qbp m R st x i),eq_iff_iff];simp only [Ob',Option.bind_eq_some_iff,bB];constructor
 ·rintro ⟨r,⟨l,h1,h,h2,k,h3,rfl⟩,h5⟩; exact ⟨l,h1,h,h2,k,h3,h5⟩
 ·rintro ⟨l,h1,h,h2,k,h3,h5⟩; exact ⟨_,⟨l,h1,h,h2,k,h3,rfl⟩,h5⟩
@[simp] theorem qqt {i:Nat}:WI m R (.ext i x) st K=Ob' (zmg i (x.get st)) fun r=>K r st:=zhn (f:=id) rfl
@[simp] theorem qw0:WI m R (.call f args) st K=Ob' (zdq m R st f (args.map fun q=>(q.1,q.2.get st))) fun r=>K r.1 r.2:=zfu rfl
@[simp] theorem qpv:WI m R (.callv g args) st K=Ob' (zo8 m R st (args.map fun q=>(q.1,q.2.get st)) (g.get st)) fun r=>K r.1 r.2:=zfu rfl
@[simp] theorem qvn:WI m R (.len x) st K=Ob' (lenOf st (x.get st)) fun n=>K (.v (.int .i64 ((n:Nat):Int))) st:=zhn rfl
@[simp] theorem q17:WI m R (.lenS x) st K=Ob' (zcv (x.get st)) fun s=>K (.v (.int .i64 (s.size:Int))) st:=zhn rfl
@[simp] theorem qr4 {s x:Opd}:WI m R (.app b sz s x) st K=Ob' (zkw st b sz (s.get st) (x.get st)) fun r=>K r.1 r.2:=zfu rfl
@[simp] theorem qtb {s x:Opd}:WI m R (.appS s x) st K=Ob' (zcv (x.get st)) fun t=>Ob' (appS st (s.get st) t) fun r=>K r.1 r.2:=by
 rw [zfu (o:=(zcv (x.get st)).bind fun t=>appS st (s.get st) t) rfl,qht]
@[simp] theorem q1t {b:Bool}:WI m R (.mx b x y) st K=Ob' (mxP b (x.get st) (y.get st)) fun r=>K r st:=zhn (f:=id) rfl
end
section
variable {m:Nat->List Bool} {R:zak} {st:St} {K:St->Prop} {os:List (zac×Nat×Nat)} {todo:List (zac×PV×Nat)} {past:List St} {d:Option Dst} {g:Option (Opd×Bool)}
@[simp] theorem q0x:WQ m R os todo past st K ⟨d,.mv x,g⟩ 0 0 w s=WD m R os todo past (st.put d w) K:=zd7 rfl
@[simp] theorem qrr:WQ m R os todo past st K ⟨d,.mv x,g⟩ bk (fw+1) w s=Cd (za4 st.V st.E ⟨d,.mv x,g⟩ w bk past) (WD m R os ((⟨d,.mv x,g⟩,w,fw+1)::todo) past (st.put d w) K):=zee rfl
@[simp] theorem q0m:WQ m R os todo past st K ⟨d,.mv x,g⟩ (bk+1) 0 w s=Cd (za4 st.V st.E ⟨d,.mv x,g⟩ w (bk+1) past) (WD m R os todo past (st.put d w) K):=by rw [zdy rfl]; rfl
@[simp] theorem q45 (c a b:Opd):WQ m R os todo past st K ⟨d,.pick c a b,g⟩ 0 0 w s=WD m R os todo past (st.put d w) K:=zd7 rfl
@[simp] theorem q6d (c a b:Opd):WQ m R os todo past st K ⟨d,.pick c a b,g⟩ bk (fw+1) w s=Cd (za4 st.V st.E ⟨d,.pick c a b,g⟩ w bk past) (WD m R os ((⟨d,.pick c a b,g⟩,w,fw+1)::todo) past (st.put d w) K):=zee rfl
@[simp] theorem q0a (c a b:Opd):WQ m R os todo past st K ⟨d,.pick c a b,g⟩ (bk+1) 0 w s=Cd (za4 st.V st.E ⟨d,.pick c a b,g⟩ w (bk+1) past) (WD m R os todo past (st.put d w) K):=by rw [zdy rfl]; rfl
@[simp] theorem q2t (z:List PV):WQ m R os todo past st K ⟨d,.build z ps,g⟩ 0 0 w s=WD m R os todo past (st.put d w) K:=zd7 rfl
@[simp] theorem quz (z:List PV):WQ m R os todo past st K ⟨d,.build z ps,g⟩ bk (fw+1) w s=Cd (za4 st.V st.E ⟨d,.build z ps,g⟩ w bk past) (WD m R os ((⟨d,.build z ps,g⟩,w,fw+1)::todo) past (st.put d w) K):=zee rfl
@[simp] theorem qyl (z:List PV):WQ m R os todo past st K ⟨d,.build z ps,g⟩ (bk+1) 0 w s=Cd (za4 st.V st.E ⟨d,.build z ps,g⟩ w (bk+1) past) (WD m R os todo past (st.put d w) K):=by rw [zdy rfl]; rfl
@[simp] theorem qxb (a:Opd):WQ m R os todo past st K ⟨d,.load ag sz a,g⟩ 0 0 w s=WD m R os todo past (st.put d w) K:=zd7 rfl
@[simp] theorem qsl (a:Opd):WQ m R os todo past st K ⟨d,.load ag sz a,g⟩ bk (fw+1) w s=Cd (za4 st.V st.E ⟨d,.load ag sz a,g⟩ w bk past) (WD m R os ((⟨d,.load ag sz a,g⟩,w,fw+1)::todo) past (st.put d w) K):=zee rfl
@[simp] theorem qy0 (a:Opd):WQ m R os todo past st K ⟨d,.load ag sz a,g⟩ (bk+1) 0 w s=Cd (za4 st.V st.E ⟨d,.load ag sz a,g⟩ w (bk+1) past) (WD m R os todo past (st.put d w) K):=by rw [zdy rfl]; rfl
@[simp] theorem qw3:WQ m R os todo past st K ⟨d,.nilc x,g⟩ 0 0 w s=WD m R os todo past (st.put d w) K:=zd7 rfl
@[simp] theorem qvc:WQ m R os todo past st K ⟨d,.nilc x,g⟩ bk (fw+1) w s=Cd (za4 st.V st.E ⟨d,.nilc x,g⟩ w bk past) (WD m R os ((⟨d,.nilc x,g⟩,w,fw+1)::todo) past (st.put d w) K):=zee rfl
@[simp] theorem qyo:WQ m R os todo past st K ⟨d,.nilc x,g⟩ (bk+1) 0 w s=Cd (za4 st.V st.E ⟨d,.nilc x,g⟩ w (bk+1) past) (WD m R os todo past (st.put d w) K):=by rw [zdy rfl]; rfl
@[simp] theorem qwx (op:BinOp):WQ m R os todo past st K ⟨d,.bin op x y,g⟩ 0 0 w s=WD m R os todo past (st.put d w) K:=zd7 rfl
@[simp] theorem qzg (op:BinOp):WQ m R os todo past st K ⟨d,.bin op x y,g⟩ bk (fw+1) w s=Cd (za4 st.V st.E ⟨d,.bin op x y,g⟩ w bk past) (WD m R os ((⟨d,.bin op x y,g⟩,w,fw+1)::todo) past (st.put d w) K):=zee rfl
@[simp] theorem q20 (op:BinOp):WQ m R os todo past st K ⟨d,.bin op x y,g⟩ (bk+1) 0 w s=Cd (za4 st.V st.E ⟨d,.bin op x y,g⟩ w (bk+1) past) (WD m R os todo past (st.put d w) K):=by rw [zdy rfl]; rfl
@[simp] theorem q0b (n:Bool):WQ m R os todo past st K ⟨d,.eqb n ks x y,g⟩ 0 0 w s=WD m R os todo past (st.put d w) K:=zd7 rfl
@[simp] theorem qym (n:Bool):WQ m R os todo past st K ⟨d,.eqb n ks x y,g⟩ bk (fw+1) w s=Cd (za4 st.V st.E ⟨d,.eqb n ks x y,g⟩ w bk past) (WD m R os ((⟨d,.eqb n ks x y,g⟩,w,fw+1)::todo) past (st.put d w) K):=zee rfl
@[simp] theorem qze (n:Bool):WQ m R os todo past st K ⟨d,.eqb n ks x y,g⟩ (bk+1) 0 w s=Cd (za4 st.V st.E ⟨d,.eqb n ks x y,g⟩ w (bk+1) past) (WD m R os todo past (st.put d w) K):=by rw [zdy rfl]; rfl
@[simp] theorem qsa (op:UnOp):WQ m R os todo past st K ⟨d,.un op x,g⟩ 0 0 w s=WD m R os todo past (st.put d w) K:=zd7 rfl
@[simp] theorem qto (op:UnOp):WQ m R os todo past st K ⟨d,.un op x,g⟩ bk (fw+1) w s=Cd (za4 st.V st.E ⟨d,.un op x,g⟩ w bk past) (WD m R os ((⟨d,.un op x,g⟩,w,fw+1)::todo) past (st.put d w) K):=zee rfl
@[simp] theorem q58 (op:UnOp):WQ m R os todo past st K ⟨d,.un op x,g⟩ (bk+1) 0 w s=Cd (za4 st.V st.E ⟨d,.un op x,g⟩ w (bk+1) past) (WD m R os todo past (st.put d w) K):=by rw [zdy rfl]; rfl
@[simp] theorem qxd:WQ m R os todo past st K ⟨d,.convI k x,g⟩ 0 0 w s=WD m R os todo past (st.put d w) K:=zd7 rfl
@[simp] theorem q4o:WQ m R os todo past st K ⟨d,.convI k x,g⟩ bk (fw+1) w s=Cd (za4 st.V st.E ⟨d,.convI k x,g⟩ w bk past) (WD m R os ((⟨d,.convI k x,g⟩,w,fw+1)::todo) past (st.put d w) K):=zee rfl
@[simp] theorem q06:WQ m R os todo past st K ⟨d,.convI k x,g⟩ (bk+1) 0 w s=Cd (za4 st.V st.E ⟨d,.convI k x,g⟩ w (bk+1) past) (WD m R os todo past (st.put d w) K):=by rw [zdy rfl]; rfl
@[simp] theorem q3w:WQ m R os todo past st K ⟨d,.toS x,g⟩ 0 0 w s=WD m R os todo past (st.put d w) K:=zd7 rfl
@[simp] theorem q07:WQ m R os todo past st K ⟨d,.toS x,g⟩ bk (fw+1) w s=Cd (za4 st.V st.E ⟨d,.toS x,g⟩ w bk past) (WD m R os ((⟨d,.toS x,g⟩,w,fw+1)::todo) past (st.put d w) K):=zee rfl
@[simp] theorem q0y:WQ m R os todo past st K ⟨d,.toS x,g⟩ (bk+1) 0 w s=Cd (za4 st.V st.E ⟨d,.toS x,g⟩ w (bk+1) past) (WD m R os todo past (st.put d w) K):=by rw [zdy rfl]; rfl
@[simp] theorem q3u:WQ m R os todo past st K ⟨d,.mkfn f caps,g⟩ 0 0 w s=WD m R os todo past (st.put d w) K:=zd7 rfl
@[simp] theorem q5d:WQ m R os todo past st K ⟨d,.mkfn f caps,g⟩ bk (fw+1) w s=Cd (za4 st.V st.E ⟨d,.mkfn f caps,g⟩ w bk past) (WD m R os ((⟨d,.mkfn f caps,g⟩,w,fw+1)::todo) past (st.put d w) K):=zee rfl
@[simp] theorem qr6:WQ m R os todo past st K ⟨d,.mkfn f caps,g⟩ (bk+1) 0 w s=Cd (za4 st.V st.E ⟨d,.mkfn f caps,g⟩ w (bk+1) past) (WD m R os todo past (st.put d w) K):=by rw [zdy rfl]; rfl
@[simp] theorem q3i:WQ m R os todo past st K ⟨d,.slice sz x lo hi mx,g⟩ 0 0 w s=WD m R os todo past (st.put d w) K:=zd7 rfl
@[simp] theorem q12:WQ m R os todo past st K ⟨d,.slice sz x lo hi mx,g⟩ bk (fw+1) w s=Cd (za4 st.V st.E ⟨d,.slice sz x lo hi mx,g⟩ w bk past) (WD m R os ((⟨d,.slice sz x lo hi mx,g⟩,w,fw+1)::todo) past (st.put d w) K):=zee rfl
@[simp] theorem q5c:WQ m R os todo past st K ⟨d,.slice sz x lo hi mx,g⟩ (bk+1) 0 w s=Cd (za4 st.V st.E ⟨d,.slice sz x lo hi mx,g⟩ w (bk+1) past) (WD m R os todo past (st.put d w) K):=by rw [zdy rfl]; rfl
@[simp] theorem qt9:WQ m R os todo past st K ⟨d,.sliceS x lo hi,g⟩ 0 0 w s=WD m R os todo past (st.put d w) K:=zd7 rfl
@[simp] theorem qwm:WQ m R os todo past st K ⟨d,.sliceS x lo hi,g⟩ bk (fw+1) w s=Cd (za4 st.V st.E ⟨d,.sliceS x lo hi,g⟩ w bk past) (WD m R os ((⟨d,.sliceS x lo hi,g⟩,w,fw+1)::todo) past (st.put d w) K):=zee rfl
@[simp] theorem qrz:WQ m R os todo past st K ⟨d,.sliceS x lo hi,g⟩ (bk+1) 0 w s=Cd (za4 st.V st.E ⟨d,.sliceS x lo hi,g⟩ w (bk+1) past) (WD m R os todo past (st.put d w) K):=by rw [zdy rfl]; rfl
@[simp] theorem q3e (off:Nat):WQ m R os todo past st K ⟨d,.faddr off x,g⟩ 0 0 w s=WD m R os todo past (st.put d w) K:=zd7 rfl
@[simp] theorem qxt (off:Nat):WQ m R os todo past st K ⟨d,.faddr off x,g⟩ bk (fw+1) w s=Cd (za4 st.V st.E ⟨d,.faddr off x,g⟩ w bk past) (WD m R os ((⟨d,.faddr off x,g⟩,w,fw+1)::todo) past (st.put d w) K):=zee rfl
@[simp] theorem qwa (off:Nat):WQ m R os todo past st K ⟨d,.faddr off x,g⟩ (bk+1) 0 w s=Cd (za4 st.V st.E ⟨d,.faddr off x,g⟩ w (bk+1) past) (WD m R os todo past (st.put d w) K):=by rw [zdy rfl]; rfl
@[simp] theorem q0v:WQ m R os todo past st K ⟨d,.iaddr sz x i,g⟩ 0 0 w s=WD m R os todo past (st.put d w) K:=zd7 rfl
@[simp] theorem qsz:WQ m R os todo past st K ⟨d,.iaddr sz x i,g⟩ bk (fw+1) w s=Cd (za4 st.V st.E ⟨d,.iaddr sz x i,g⟩ w bk past) (WD m R os ((⟨d,.iaddr sz x i,g⟩,w,fw+1)::todo) past (st.put d w) K):=zee rfl
@[simp] theorem q0e:WQ m R os todo past st K ⟨d,.iaddr sz x i,g⟩ (bk+1) 0 w s=Cd (za4 st.V st.E ⟨d,.iaddr sz x i,g⟩ w (bk+1) past) (WD m R os todo past (st.put d w) K):=by rw [zdy rfl]; rfl
@[simp] theorem q24:WQ m R os todo past st K ⟨d,.idx x i,g⟩ 0 0 w s=WD m R os todo past (st.put d w) K:=zd7 rfl
@[simp] theorem qtj:WQ m R os todo past st K ⟨d,.idx x i,g⟩ bk (fw+1) w s=Cd (za4 st.V st.E ⟨d,.idx x i,g⟩ w bk past) (WD m R os ((⟨d,.idx x i,g⟩,w,fw+1)::todo) past (st.put d w) K):=zee rfl
@[simp] theorem qth:WQ m R os todo past st K ⟨d,.idx x i,g⟩ (bk+1) 0 w s=Cd (za4 st.V st.E ⟨d,.idx x i,g⟩ w (bk+1) past) (WD m R os todo past (st.put d w) K):=by rw [zdy rfl]; rfl
@[simp] theorem qsi (i:Nat):WQ m R os todo past st K ⟨d,.ext i x,g⟩ 0 0 w s=WD m R os todo past (st.put d w) K:=zd7 rfl
@[simp] theorem q53 (i:Nat):WQ m R os todo past st K ⟨d,.ext i x,g⟩ bk (fw+1) w s=Cd (za4 st.V st.E ⟨d,.ext i x,g⟩ w bk past) (WD m R os ((⟨d,.ext i x,g⟩,w,fw+1)::todo) past (st.put d w) K):=zee rfl
@[simp] theorem qxk (i:Nat):WQ m R os todo past st K ⟨d,.ext i x,g⟩ (bk+1) 0 w s=Cd (za4 st.V st.E ⟨d,.ext i x,g⟩ w (bk+1) past) (WD m R os todo past (st.put d w) K):=by rw [zdy rfl]; rfl
@[simp] theorem qvt:WQ m R os todo past st K ⟨d,.len x,g⟩ 0 0 w s=WD m R os todo past (st.put d w) K:=zd7 rfl
@[simp] theorem qt4:WQ m R os todo past st K ⟨d,.len x,g⟩ bk (fw+1) w s=Cd (za4 st.V st.E ⟨d,.len x,g⟩ w bk past) (WD m R os ((⟨d,.len x,g⟩,w,fw+1)::todo) past (st.put d w) K):=zee rfl
@[simp] theorem q1v:WQ m R os todo past st K ⟨d,.len x,g⟩ (bk+1) 0 w s=Cd (za4 st.V st.E ⟨d,.len x,g⟩ w (bk+1) past) (WD m R os todo past (st.put d w) K):=by rw [zdy rfl]; rfl
@[simp] theorem qsn:WQ m R os todo past st K ⟨d,.lenS x,g⟩ 0 0 w s=WD m R os todo past (st.put d w) K:=zd7 rfl
@[simp] theorem q40:WQ m R os todo past st K ⟨d,.lenS x,g⟩ bk (fw+1) w s=Cd (za4 st.V st.E ⟨d,.lenS x,g⟩ w bk past) (WD m R os ((⟨d,.lenS x,g⟩,w,fw+1)::todo) past (st.put d w) K):=zee rfl
@[simp] theorem qv9:WQ m R os todo past st K ⟨d,.lenS x,g⟩ (bk+1) 0 w s=Cd (za4 st.V st.E ⟨d,.lenS x,g⟩ w (bk+1) past) (WD m R os todo past (st.put d w) K):=by rw [zdy rfl]; rfl
@[simp] theorem q47 (b:Bool):WQ m R os todo past st K ⟨d,.mx b x y,g⟩ 0 0 w s=WD m R os todo past (st.put d w) K:=zd7 rfl
@[simp] theorem qrc (b:Bool):WQ m R os todo past st K ⟨d,.mx b x y,g⟩ bk (fw+1) w s=Cd (za4 st.V st.E ⟨d,.mx b x y,g⟩ w bk past) (WD m R os ((⟨d,.mx b x y,g⟩,w,fw+1)::todo) past (st.put d w) K):=zee rfl
@[simp] theorem q0d (b:Bool):WQ m R os todo past st K ⟨d,.mx b x y,g⟩ (bk+1) 0 w s=Cd (za4 st.V st.E ⟨d,.mx b x y,g⟩ w (bk+1) past) (WD m R os todo past (st.put d w) K):=by rw [zdy rfl]; rfl
@[simp] theorem qvq (z:List PV):WQ m R os todo past st K ⟨d,.alloc z,g⟩ bk fw w s=Cd (zcf s todo) (WD m R os (zda todo) (st::past) (s.put d w) K):=zhg rfl
@[simp] theorem qsg:WQ m R os todo past st K ⟨d,.box x,g⟩ bk fw w s=Cd (zcf s todo) (WD m R os (zda todo) (st::past) (s.put d w) K):=zhg rfl
@[simp] theorem q0r (z:List PV) (ps:List (Nat×Opd)):WQ m R os todo past st K ⟨d,.bslice n sz z ps,g⟩ bk fw w s=Cd (zcf s todo) (WD m R os (zda todo) (st::past) (s.put d w) K):=zhg rfl
@[simp] theorem qzk (z:List PV):WQ m R os todo past st K ⟨d,.allocL z,g⟩ bk fw w s=Cd (zcf s todo) (WD m R os (zda todo) (st::past) (s.put d w) K):=zhg rfl
@[simp] theorem q0g:WQ m R os todo past st K ⟨d,.mvL x,g⟩ bk fw w s=Cd (zcf s todo) (WD m R os (zda todo) (st::past) (s.put d w) K):=zhg rfl
@[simp] theorem q1d (z:List PV) (ps:List (Nat×Opd)):WQ m R os todo past st K ⟨d,.bsliceL n sz z ps,g⟩ bk fw w s=Cd (zcf s todo) (WD m R os (zda todo) (st::past) (s.put d w) K):=zhg rfl
@[simp] theorem q5m (szs:List Nat) (a x:Opd):WQ m R os todo past st K ⟨d,.store szs a x,g⟩ bk fw w s=Cd (zcf s todo) (WD m R os (zda todo) (st::past) (s.put d w) K):=zhg rfl
@[simp] theorem q4q (z:List PV) (l c:Opd):WQ m R os todo past st K ⟨d,.mksl b sz z l c,g⟩ bk fw w s=Cd (zcf s todo) (WD m R os (zda todo) (st::past) (s.put d w) K):=zhg rfl
@[simp] theorem qu7:WQ m R os todo past st K ⟨d,.call f args,g⟩ bk fw w s=Cd (zcf s todo) (WD m R os (zda todo) (st::past) (s.put d w) K):=zhg rfl
@[simp] theorem q3n (g0:Opd):WQ m R os todo past st K ⟨d,.callv g0 args,g⟩ bk fw w s=Cd (zcf s todo) (WD m R os (zda todo) (st::past) (s.put d w) K):=zhg rfl
@[simp] theorem qrh:WQ m R os todo past st K ⟨d,.app b sz y x,g⟩ bk fw w s=Cd (zcf s todo) (WD m R os (zda todo) (st::past) (s.put d w) K):=zhg rfl
@[simp] theorem qx2:WQ m R os todo past st K ⟨d,.appS y x,g⟩ bk fw w s=Cd (zcf s todo) (WD m R os (zda todo) (st::past) (s.put d w) K):=zhg rfl
end
section
variable {α:Type}
@[simp] theorem ge0 (a:α) (l:List α):(a::l)[0]?=some a:=rfl
@[simp] theorem ge1 (a0 a1:α) (l:List α):(a0::a1::l)[1]?=some a1:=rfl
@[simp] theorem ge2 (a0 a1 a2:α) (l:List α):(a0::a1::a2::l)[2]?=some a2:=rfl
@[simp] theorem ge3 (a0 a1 a2 a3:α) (l:List α):(a0::a1::a2::a3::l)[3]?=some a3:=rfl
@[simp] theorem ge4 (a0 a1 a2 a3 a4:α) (l:List α):(a0::a1::a2::a3::a4::l)[4]?=some a4:=rfl
@[simp] theorem ge5 (a0 a1 a2 a3 a4 a5:α) (l:List α):(a0::a1::a2::a3::a4::a5::l)[5]?=some a5:=rfl
@[simp] theorem ge6 (a0 a1 a2 a3 a4 a5 a6:α) (l:List α):(a0::a1::a2::a3::a4::a5::a6::l)[6]?=some a6:=rfl
@[simp] theorem ge7 (a0 a1 a2 a3 a4 a5 a6 a7:α) (l:List α):(a0::a1::a2::a3::a4::a5::a6::a7::l)[7]?=some a7:=rfl
@[simp] theorem ge8 (a0 a1 a2 a3 a4 a5 a6 a7 a8:α) (l:List α):(a0::a1::a2::a3::a4::a5::a6::a7::a8::l)[8]?=some a8:=rfl
@[simp] theorem ge9 (a0 a1 a2 a3 a4 a5 a6 a7 a8 a9:α) (l:List α):(a0::a1::a2::a3::a4::a5::a6::a7::a8::a9::l)[9]?=some a9:=rfl
@[simp] theorem qqo (a0 a1 a2 a3 a4 a5 a6 a7 a8 a9 a10:α) (l:List α):(a0::a1::a2::a3::a4::a5::a6::a7::a8::a9::a10::l)[10]?=some a10:=rfl
@[simp] theorem qv3 (a0 a1 a2 a3 a4 a5 a6 a7 a8 a9 a10 a11:α) (l:List α):(a0::a1::a2::a3::a4::a5::a6::a7::a8::a9::a10::a11::l)[11]?=some a11:=rfl
end
@[simp] theorem qs0:zb1 (.v (.int k ((n:Int)+1)))=some (n+1):=qg6 k (n+1)
@[simp] theorem q2a:zb1 (.v (.int k 1))=some 1:=rfl
@[simp] theorem qvv:zb1 (.v (.int k 2))=some 2:=rfl
@[simp] theorem qx4:zb1 (.v (.int k 3))=some 3:=rfl
@[simp] theorem q18:zb1 (.v (.int k 4))=some 4:=rfl
@[simp] theorem qq3:zb1 (.v (.int k 5))=some 5:=rfl
theorem fr {o n:Nat} (h:o<n):(o=n)=False/\(n=o)=False/\(∀ j:Nat,(o=n+j)=False)/\∀ j:Nat,(n+j=o)=False:=by
 refine ⟨?_,?_,fun j => ?_,fun j => ?_⟩ <;> simp <;> omega
@[simp] theorem as1:n+1+1=n+2:=rfl
@[simp] theorem as2:n+2+1=n+3:=rfl
@[simp] theorem as3:n+3+1=n+4:=rfl
@[simp] theorem as4:n+4+1=n+5:=rfl
@[simp] theorem as5:n+5+1=n+6:=rfl
@[simp] theorem as6:n+6+1=n+7:=rfl
@[simp] theorem as7:n+7+1=n+8:=rfl
@[simp] theorem as8:n+8+1=n+9:=rfl
@[simp] theorem as9:n+9+1=n+10:=rfl
@[simp] theorem q44:n+10+1=n+11:=rfl
@[simp] theorem qu1:n+11+1=n+12:=rfl
@[simp] theorem q1o:n+12+1=n+13:=rfl
@[simp] theorem qv6:n+13+1=n+14:=rfl
@[simp] theorem q3q:n+14+1=n+15:=rfl
@[simp] theorem qyg:n+15+1=n+16:=rfl
@[simp] theorem q3f:n+16+1=n+17:=rfl
@[simp] theorem qxr:n+17+1=n+18:=rfl
@[simp] theorem q2v:n+18+1=n+19:=rfl
@[simp] theorem qxj:n+19+1=n+20:=rfl
@[simp] theorem qzm:n+20+1=n+21:=rfl
@[simp] theorem q2j:n+21+1=n+22:=rfl
@[simp] theorem q3r:n+22+1=n+23:=rfl
@[simp] theorem qt1:n+23+1=n+24:=rfl
theorem zae {T:zcg} {ms:List Bool} {rv:List RV} {ic:IC} (hT:T f=some (.code ⟨ms,rv,ic⟩)) {args:List PV} {r:List PV×List PV} {st:St} (hi:zk0 args=some st) (h:W (zad T) (RUN T) ic st (Fin rv st.nx r ⟨⟩ ⟨⟩)):RUN T f args=some r:=by
 refine yn4 hT ?_;obtain ⟨e,s,h1,h2,h3⟩:=h;unfold zyo;rw [hi];simp only [Option.bind_some,h1];rcases h2 with rfl | rfl <;> exact h3
def Rnd (Inv:Nat->St->Prop) (n:Nat) (Q:Ex->St->Prop) (_:Dm Inv) (_:Dm Q):Ex->St->Prop
 | .normal,s => ∃ k,k<n/\Inv k s
 | e,s=>Q e s
@[simp] theorem qqj {Inv:Nat->St->Prop}:Rnd Inv n Q ⟨⟩ ⟨⟩ .ret s=Q .ret s:=rfl
@[simp] theorem q0l {Inv:Nat->St->Prop} {i:Nat}:Rnd Inv n Q ⟨⟩ ⟨⟩ (.exit i) s=Q (.exit i) s:=rfl
theorem zan {m:Nat->List Bool} {R:zak} {c:IC} (Inv:Nat->St->Prop) (step : ∀ n st,Inv n st->W m R c st (Rnd Inv n Q ⟨⟩ ⟨⟩)) : ∀ n st,Inv n st->W m R (.loop c) st Q:=by
 intro n
 induction n using Nat.strongRecOn with
 | ind n ih =>
  intro st hI;obtain ⟨e,s,h1,h2⟩:=step n st hI;cases e with
  | normal =>
   obtain ⟨k,hk,hI'⟩:=h2;obtain ⟨e',s',h3,h4⟩:=ih k hk s hI';exact ⟨e',s',by rw [z9k,h1]; exact h3,h4⟩
  | exit i=>exact ⟨_,_,by rw [z9k,h1]; rfl,h2⟩
  | ret=>exact ⟨_,_,by rw [z9k,h1]; rfl,h2⟩
theorem qfl {m:Nat->List Bool} {R:zak} {c:IC} {st:St}:W m R (.loop c) st Q=W m R c st (Nx (fun s=>W m R (.loop c) s Q) Q ⟨⟩ ⟨⟩):=by
 rw [<- qi8];simp only [W,ynu];rw [z9k]
theorem zai {Inv:Nat->St->Prop} (k:Nat) (h:k<n) (hI:Inv k s):Rnd Inv n Q ⟨⟩ ⟨⟩ .normal s:=⟨k,h,hI⟩
theorem W.mono {m:Nat->List Bool} {R:zak} {c:IC} {st:St} {Q Q':Ex->St->Prop} (h:W m R c st Q) (hq : ∀ e s,Q e s->Q' e s):W m R c st Q':=by
 obtain ⟨e,s,h1,h2⟩:=h;exact ⟨e,s,h1,hq e s h2⟩
attribute [irreducible] W WO WD WI WQ Ob' Br Cd Nx Bl Fin
end Go.Pe
namespace Go.Pe
open Go
def zhk (sz by_:Nat):List PV->Option (List PV×List PV)
 | [.sl s es]=>if s=sz/\zcl es=true/\zaj by_ es.length=true then some ([.own sz es],[]) else none
 | _=>none
theorem yb2 {T:zcg} {f sz by_:Nat} (hT:T f=some (.known [] (zhk sz by_))) {es:List (List PV)} (hv:zcl es=true) (hr:zaj by_ es.length=true):RUN T f [.sl sz es]=some ([.own sz es],[]) :=
 ybv hT (if_pos ⟨rfl,hv,hr⟩)
def zcn (l:List Int):List (List PV):=l.map fun n=>[.v (.int .i64 n)]
def ydr:List PV->Option Int
 | [.v (.int .i64 n)]=>some n
 | _=>none
def zoo:List (List PV)->Option (List Int)
 | []=>some []
 | c::cs=>(ydr c).bind fun n=>(zoo cs).map (n :: ·)
theorem yer : ∀ l:List Int,zoo (zcn l)=some l
 | []=>rfl
 | n::l=>by
  have:=yer l;unfold zcn at this;simp [zcn,zoo,ydr,this]
theorem yd8 : ∀ {es:List (List PV)} {l:List Int},zoo es=some l->es=zcn l
 | [],l,h=>by cases h; rfl
 | c::cs,l,h=>by
  simp only [zoo] at h;obtain ⟨n,h1,h⟩:=bA h;simp only [bB] at h;obtain ⟨l',h2,rfl⟩:=h;rw [yd8 h2];unfold ydr at h1;split at h1
  ·cases h1; rfl
  ·cases h1
def zh9 (l:List Int):List Int:=l.mergeSort fun x y=>decide (x<=y)
def zot:List PV->Option (List PV×List PV)
 | [.own 1 es]=>(zoo es).bind fun l=>if l.length<4611686018427387904 then some ([],[.own 1 (zcn (zh9 l))]) else none
 | _=>none
def zo0:List PV->Option (List PV×List PV)
 | [.own 1 es]=>(zoo es).bind fun l=>if l.length<4611686018427387904 then some ([.own 1 (zcn (Lib.compact l))],[.undef]) else none
 | _=>none
theorem qgk {T:zcg} {f:Nat} (hT:T f=some (.known [true] zot)) {l:List Int} (hl:l.length<4611686018427387904):RUN T f [.own 1 (zcn l)]=some ([],[.own 1 (zcn (zh9 l))]) :=
 ybv hT (by simp [zot,yer,hl])
theorem qg2 {T:zcg} {f:Nat} (hT:T f=some (.known [true] zo0)) {l:List Int} (hl:l.length<4611686018427387904):RUN T f [.own 1 (zcn l)]=some ([.own 1 (zcn (Lib.compact l))],[.undef]) :=
 ybv hT (by simp [zo0,yer,hl])
end Go.Pe
