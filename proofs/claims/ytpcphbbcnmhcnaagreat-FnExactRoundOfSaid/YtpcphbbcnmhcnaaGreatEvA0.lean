/- An evaluator over compact texts of Go functions is defined,and how it goes on is told,operation by operation; no condition. -/
import Derived.Calls
import Derived.Laws.AppendOwn
import Derived.Lib.SlicesCompact
set_option linter.all false
namespace Go.Pe
open Go
theorem bA {α β:Type} {x:Option α} {f:α->Option β} {b:β} (h:x.bind f=some b) : ∃ a,x=some a/\f a=some b:=Option.bind_eq_some_iff.mp h
theorem bB {α β:Type} {x:Option α} {f:α->β} {b:β}:Option.map f x=some b ↔ ∃ a,x=some a/\f a=b:=Option.map_eq_some_iff
theorem bC {α:Type} {a b:α}:(some a=some b)=(a=b):=Option.some.injEq a b
theorem bD {α:Type} {l:List α} {i:Nat} {a:α} (h:l[i]?=some a) : ∃ w:i<l.length,l[i]=a:=List.getElem?_eq_some_iff.mp h
theorem bF {α:Type} {l:List α} {i:Nat} {a:α} (h:l[i]?=some a):a∈l:=List.mem_of_getElem? h
theorem bG {α:Type} {l:List α} {i:Nat} (h:i<l.length):l[i]?=some l[i]:=List.getElem?_eq_getElem h
theorem bH {α:Type} {l:List α} {a:α} (h:a∈l) : ∃ i:Nat,l[i]?=some a:=List.getElem?_of_mem h
theorem bI {a b:Prop} (x:a) (y:b):a/\b:=⟨x,y⟩
inductive PV where
 | undef
 | v (x:Value)
 | e0
 | sl (sz:Nat) (es:List (List PV))
 | own (sz:Nat) (es:List (List PV))
 | bx (cs:List PV)
 | ref (o:Nat) (p:Option (Nat×Nat)) (ep lo len:Nat)
 | ptr (o:Nat) (p:Option (Nat×Nat)) (ep i j:Nat)
 | fptr (cs:List PV) (j:Nat)
 | fn (f:Nat) (caps:List PV)
 | agg (cs:List PV)
 | tup (vs:List PV)
inductive Ob where
 | row (sz:Nat) (es:List (List PV))
 | rowF (sz:Nat) (es:List (List PV))
 | box (cs:List PV)
 | shadow (sz:Nat) (es:List (List PV)) (ep:Nat)
structure St where
 V:Nat->PV
 E:Nat->PV
 S:Nat->Option Ob
 nx:Nat
 ep:Nat
inductive Opd where
 | V (k:Nat)
 | E (k:Nat)
 | C (x:PV)
inductive Dst where
 | V (k:Nat)
 | E (k:Nat)
inductive Kd where
 | b
 | i (k:IntKind)
 | s
inductive IOp where
 | mv (x:Opd)
 | pick (c a b:Opd)
 | alloc (z:List PV)
 | box (x:Opd)
 | build (z:List PV) (parts:List (Nat×Nat×Opd))
 | bslice (n sz:Nat) (z:List PV) (parts:List (Nat×Opd))
 | allocL (z:List PV)
 | mvL (x:Opd)
 | bsliceL (n sz:Nat) (z:List PV) (parts:List (Nat×Opd))
 | load (ag:Bool) (sz:Nat) (a:Opd)
 | store (szs:List Nat) (a x:Opd)
 | nilc (x:Opd)
 | bin (op:BinOp) (x y:Opd)
 | eqb (neg:Bool) (ks:List Kd) (x y:Opd)
 | un (op:UnOp) (x:Opd)
 | convI (k:IntKind) (x:Opd)
 | toS (x:Opd)
 | mkfn (f:Nat) (caps:List Opd)
 | mksl (bytes sz:Nat) (z:List PV) (l c:Opd)
 | slice (sz:Nat) (x:Opd) (lo hi mx:Option Opd)
 | sliceS (x:Opd) (lo hi:Option Opd)
 | faddr (off:Nat) (x:Opd)
 | iaddr (sz:Nat) (x i:Opd)
 | idx (x i:Opd)
 | ext (i:Nat) (x:Opd)
 | call (f:Nat) (args:List (List Nat×Opd))
 | callv (g:Opd) (args:List (List Nat×Opd))
 | len (x:Opd)
 | lenS (x:Opd)
 | app (bytes sz:Nat) (s x:Opd)
 | appS (s x:Opd)
 | mx (big:Bool) (x y:Opd)
structure zad where
 dst:Option Dst
 op:IOp
 guard:Option (Opd×Bool)
inductive IC where
 | skip
 | reg (ops:List zad)
 | regD (ops:List (zad×Nat×Nat))
 | seq (a b:IC)
 | cond (c:Opd) (x y:IC)
 | block (id:Nat) (c:IC)
 | loop (c:IC)
 | exit (id:Nat)
 | ret
inductive Ex where
 | normal
 | exit (id:Nat)
 | ret
inductive RV where
 | tmp (szs:List Nat) (k:Nat)
 | cell (szs:List Nat) (k:Nat) (ag:Bool)
 | pl
structure IFn where
 modes:List Bool
 results:List RV
 body:IC
def Opd.get (st:St):Opd->PV
 | .V k=>st.V k
 | .E k=>st.E k
 | .C x=>x
def upd {α:Type} (f:Nat->α) (k:Nat) (x:α):Nat->α:=fun i=>if i=k then x else f i
def St.put (st:St):Option Dst->PV->St
 | none,_=>st
 | some (.V k),x => { st with V:=upd st.V k x }
 | some (.E k),x => { st with E:=upd st.E k x }
def isV:PV->Bool
 | .v _=>true
 | _=>false
def okV:Value->Bool
 | .bool _=>true
 | .int _ _=>true
 | .string _=>true
 | .pointer none=>true
 | .nilFunc=>true
 | .nilIface=>true
 | _=>false
def zch (es:List (List PV)):Bool:=es.all fun e=>e.all isV
def zbv (es:List (List PV)) (i j:Nat):Option (Nat×List (List PV)) :=
 match es[i]? with
 | some cs =>
  match cs[j]? with
  | some (.own sz es')=>some (sz,es')
  | _=>none
 | none=>none
def zb2 (es:List (List PV)) (i j:Nat) (c:PV):List (List PV) :=
 match es[i]? with
 | some cs=>es.set i (cs.set j c)
 | none=>es
def zau (ce:Nat):Option Ob->Option (Nat×Nat)->Nat->Option (Nat×List (List PV))
 | some (.row sz es),none,_=>some (sz,es)
 | some (.row _ es),some (i,j),ep=>if ep=ce then zbv es i j else none
 | some (.rowF sz es),none,_=>some (sz,es)
 | some (.shadow sz es e),none,_=>if e=ce then some (sz,es) else none
 | _,_,_=>none
def ze9 (st:St) (o:Nat) (p:Option (Nat×Nat)) (ep:Nat):Option (Nat×List (List PV)):=zau st.ep (st.S o) p ep
def cut (es:List (List PV)) (lo len:Nat):List (List PV):=if lo=0/\len=es.length then es else (es.drop lo).take len
def zfb (st:St):PV->Option (Nat×List (List PV))
 | .sl sz es=>some (sz,es)
 | .ref o p ep lo len=>(ze9 st o p ep).map fun r=>(r.1,cut r.2 lo len)
 | _=>none
def fz:PV->PV
 | .own sz es => .sl sz es
 | c=>c
def rd (o ep i j:Nat):PV->PV
 | .own _ es => .ref o (some (i,j)) ep 0 es.length
 | c=>c
def zhd (o ep i:Nat):Nat->List PV->List PV
 | _,[]=>[]
 | j,c::cs=>rd o ep i j c::zhd o ep i (j+1) cs
def rdV:PV->PV
 | .v x => .v x
 | _ => .undef
def seg (cs:List PV) (j sz:Nat):Option (List PV):=if j+sz<=cs.length then some ((cs.drop j).take sz) else none
def zkq (ag:Bool) (cs:List PV):Option PV :=
 if ag then some (.agg cs) else match cs with
 | [c]=>some c
 | _=>none
def zh5 (ce:Nat) (o sz:Nat):Option Ob->Option (Nat×Nat)->Nat->Nat->Nat->Option (List PV)
 | some (.box cs),none,_,i,j=>if i=0 then seg cs j sz else none
 | some (.row _ es),none,_,i,j=>(es[i]?).bind fun cs=>(seg cs j sz).map (zhd o ce i j)
 | some (.row _ es),some (a,b),ep,i,j=>if ep=ce then (zbv es a b).bind fun r=>(r.2[i]?).bind fun cs=>(seg cs j sz).map (·.map rdV) else none
 | some (.rowF _ es),none,_,i,j=>(es[i]?).bind fun cs=>(seg cs j sz).map (·.map fz)
 | some (.shadow _ es e),none,_,i,j=>if e=ce then (es[i]?).bind fun cs=>(seg cs j sz).map (·.map rdV) else none
 | _,_,_,_,_=>none
def loadCells (st:St) (sz:Nat):PV->Option (List PV)
 | .fptr cs j=>(seg cs j sz).map (·.map fz)
 | .ptr o p ep i j=>zh5 st.ep o sz (st.S o) p ep i j
 | _=>none
def cellsOf:PV->List PV
 | .agg cs=>cs
 | x=>[x]
def zf6 (st:St) (o:Nat):Option Ob->Option (Nat×Nat)->Nat->Nat->Option (PV×St)
 | some (.row s es),none,lo,len=>if lo=0/\len=es.length then some (.own s es,{ st with S:=upd st.S o (some (.shadow s es st.ep)) }) else none
 | _,_,_,_=>none
def zfh (st:St) (sz:Nat):PV->Option (PV×St)
 | .v x=>if okV x then some (.v x,st) else none
 | .e0=>some (.own sz [],st)
 | .ref o p _ lo len=>zf6 st o (st.S o) p lo len
 | _=>none
def zdk (st:St):List Nat->List PV->Option (List PV×St)
 | sz::szs,c::cs=>(zfh st sz c).bind fun r=>(zdk r.2 szs cs).bind fun q=>some (r.1::q.1,q.2)
 | [],[]=>some ([],st)
 | _,_=>none
def toF (sz:Nat):PV->Option PV
 | .v x=>if okV x then some (.v x) else none
 | .e0=>some (.sl sz [])
 | .sl s es=>some (.sl s es)
 | _=>none
def ze3:List Nat->List PV->Option (List PV)
 | sz::szs,c::cs=>(toF sz c).bind fun x=>(ze3 szs cs).bind fun xs=>some (x::xs)
 | [],[]=>some []
 | _,_=>none
def isF:PV->Bool
 | .sl _ _=>true
 | _=>false
def zcw:PV->Bool
 | .v x=>okV x
 | .e0=>true
 | .sl _ _=>true
 | .ref .. => true
 | _=>false
def over (cs:List PV) (j:Nat) (xs:List PV):List PV:=cs.take j++xs++cs.drop (j+xs.length)
def zej:PV->Bool
 | .v x=>okV x
 | _=>false
def zim (st:St) (o i j:Nat) (ys:List PV):Option Ob->Option St
 | some (.row sz es)=>(es[i]?).bind fun cs =>
  if j+ys.length<=cs.length then
   some { st with S:=upd st.S o (some (.row sz (es.set i (over cs j ys)))),ep:=if ys.all isV && ((cs.drop j).take ys.length).all isV then st.ep else st.ep+1 }
  else none
 | _=>none
def zi2:List PV->Option (Nat×(Nat×Nat)×Nat×Nat×Nat)
 | [.ref o (some q) ep lo len]=>some (o,q,ep,lo,len)
 | _=>none
def zxn (st:St) (o i j:Nat) (d:Nat×(Nat×Nat)×Nat×Nat×Nat) (s:Nat) (es:List (List PV)):Option St :=
 if d.1=o/\d.2.1=(i,j)/\d.2.2.1=st.ep then
  (zbv es i j).bind fun r=>if d.2.2.2.1+d.2.2.2.2<=r.2.length then some { st with S:=upd st.S o (some (.row s (zb2 es i j (.own r.1 (cut r.2 d.2.2.2.1 d.2.2.2.2))))),ep:=st.ep+1 } else none
 else none
def ze7 (st:St) (szs:List Nat) (xs:List PV) (o:Nat):Option Ob->Option (Nat×Nat)->Nat->Nat->Nat->Option St
 | some (.box cs),none,_,i,j=>if i=0/\j+xs.length<=cs.length/\xs.all zcw then some { st with S:=upd st.S o (some (.box (over cs j xs))) } else none
 | some (.row s es),none,_,i,j=>match zi2 xs with
  | some d=>zxn st o i j d s es
  | none=>(zdk st szs xs).bind fun r=>zim r.2 o i j r.1 (r.2.S o)
 | some (.row sz es),some (a,b),ep,i,j =>
  if ep=st.ep/\xs.all zej then
   (zbv es a b).bind fun q=>(q.2[i]?).bind fun cs =>
    if j+xs.length<=cs.length then
     some { st with S:=upd st.S o (some (.row sz (zb2 es a b (.own q.1 (q.2.set i (over cs j xs)))))),ep:=st.ep+1 }
    else none
  else none
 | some (.rowF sz es),none,_,i,j=>(ze3 szs xs).bind fun ys=>(es[i]?).bind fun cs =>
  if j+ys.length<=cs.length then some { st with S:=upd st.S o (some (.rowF sz (es.set i (over cs j ys)))) } else none
 | _,_,_,_,_=>none
def zuf (st:St) (szs:List Nat) (xs:List PV):PV->Option St
 | .ptr o p ep i j=>if xs.length=szs.length then ze7 st szs xs o (st.S o) p ep i j else none
 | _=>none
def storeAt (st:St) (szs:List Nat) (a x:PV):Option St:=zuf st szs (cellsOf x) a
def newRow (st:St) (sz:Nat) (es:List (List PV)):PV×St :=
 (.ref st.nx none st.ep 0 es.length,{ st with S:=upd st.S st.nx (some (.row sz es)),nx:=st.nx+1 })
def zho (st:St) (sz:Nat) (es:List (List PV)):PV×St :=
 (.ref st.nx none st.ep 0 es.length,{ st with S:=upd st.S st.nx (some (.rowF sz es)),nx:=st.nx+1 })
def zby (st:St) (cs:List PV):PV×St :=
 (.ptr st.nx none st.ep 0 0,{ st with S:=upd st.S st.nx (some (.box cs)),nx:=st.nx+1 })
def zpd:PV->Nat
 | .own sz _=>sz
 | _=>0
def zc9 (st:St) (z:List PV) (es:List (List PV)):List (Nat×PV)->Option (List (List PV)×St)
 | []=>some (es,st)
 | (i,x)::r=>(zdk st (z.map zpd) (cellsOf x)).bind fun q=>if i<es.length then zc9 q.2 z (es.set i q.1) r else none
def zib (z:List PV) (es:List (List PV)):List (Nat×PV)->Option (List (List PV))
 | []=>some es
 | (i,x)::r=>(ze3 (z.map zpd) (cellsOf x)).bind fun ys=>if i<es.length then zib z (es.set i ys) r else none
def zkg (ce a b ep lo len:Nat):Option Ob->Option ((Nat×List (List PV))×Ob)
 | some (.row s es)=>if ep=ce then (zbv es a b).map fun r=>((r.1,cut r.2 lo len),.rowF s (es.map fun e=>e.map fz)) else none
 | _=>none
def zc1 (st:St):List (Nat×PV)->List (Nat×PV)
 | [(i,.ref o (some (a,b)) ep lo len)]=>(zkg st.ep a b ep lo len (st.S o)).elim [(i,.ref o (some (a,b)) ep lo len)] fun r=>[(i,.sl r.1.1 r.1.2)]
 | l=>l
def zda (st:St):List (Nat×PV)->St
 | [(_,.ref o (some (a,b)) ep lo len)]=>(zkg st.ep a b ep lo len (st.S o)).elim st fun r => { st with S:=upd st.S o (some r.2),ep:=st.ep+1 }
 | _=>st
def zg6 (cs:List PV):List (Nat×Nat×PV)->Option (List PV)
 | []=>some cs
 | (off,sz,x)::r =>
  if (cellsOf x).length=sz/\off+sz<=cs.length/\(cellsOf x).all zcw then zg6 (over cs off (cellsOf x)) r else none
def zhl:PV->Option Int
 | .v (.int _ n)=>some n
 | _=>none
def zgu:PV->Option Bool
 | .v (.bool b)=>some b
 | _=>none
def zcv:PV->Option ByteArray
 | .v (.string s)=>some s
 | _=>none
def zbb:BinOp->Value->Value->Option Value
 | .add,.int k a,.int k' b=>if k=k' then some (.int k (k.wrap (a+b))) else none
 | .sub,.int k a,.int k' b=>if k=k' then some (.int k (k.wrap (a-b))) else none
 | .mul,.int k a,.int k' b=>if k=k' then some (.int k (k.wrap (a*b))) else none
 | .quo,.int k a,.int k' b=>if k=k'/\b≠0 then some (.int k (k.wrap (a.tdiv b))) else none
 | .rem,.int k a,.int k' b=>if k=k'/\b≠0 then some (.int k (a.tmod b)) else none
 | .and,.int k a,.int k' b=>if k=k' then some (.int k (k.wrap (BitVec.ofInt k.bits a &&& BitVec.ofInt k.bits b).toNat)) else none
 | .or,.int k a,.int k' b=>if k=k' then some (.int k (k.wrap (BitVec.ofInt k.bits a ||| BitVec.ofInt k.bits b).toNat)) else none
 | .xor,.int k a,.int k' b=>if k=k' then some (.int k (k.wrap (BitVec.ofInt k.bits a ^^^ BitVec.ofInt k.bits b).toNat)) else none
 | .shl,.int k a,.int _ b=>if 0<=b then some (.int k (k.wrap (a*2 ^ min b.toNat k.bits))) else none
 | .shr,.int k a,.int _ b=>if 0<=b then some (.int k (a.fdiv (2 ^ min b.toNat k.bits))) else none
 | .eql,.int k a,.int k' b=>if k=k' then some (.bool (a == b)) else none
 | .neq,.int k a,.int k' b=>if k=k' then some (.bool (a != b)) else none
 | .lss,.int k a,.int k' b=>if k=k' then some (.bool (a<b)) else none
 | .leq,.int k a,.int k' b=>if k=k' then some (.bool (a<=b)) else none
 | .gtr,.int k a,.int k' b=>if k=k' then some (.bool (a > b)) else none
 | .geq,.int k a,.int k' b=>if k=k' then some (.bool (a ≥ b)) else none
 | .add,.string a,.string b=>if ((a.size+b.size:Nat):Int)<=IntKind.i64.max then some (.string (a++b)) else none
 | .eql,.string a,.string b=>some (.bool (a.toList == b.toList))
 | .neq,.string a,.string b=>some (.bool !(a.toList == b.toList))
 | .lss,.string a,.string b=>some (.bool (Op.bytesLess a.toList b.toList))
 | _,_,_=>none
def unV:UnOp->Value->Option Value
 | .neg,.int k a=>some (.int k (k.wrap (0-a)))
 | .not,.bool b=>some (.bool !b)
 | _,_=>none
def zmf (op:BinOp):PV->PV->Option PV
 | .v a,.v b=>(zbb op a b).map .v
 | _,_=>none
def unP (op:UnOp):PV->Option PV
 | .v a=>(unV op a).map .v
 | _=>none
def eqV:Kd->Value->Value->Option Bool
 | .i k,.int k1 a,.int k2 b=>if k1=k/\k2=k then some (a == b) else none
 | .b,.bool a,.bool b=>some (a == b)
 | .s,.string a,.string b=>some (a == b)
 | _,_,_=>none
def zb5:List Kd->List PV->List PV->Option Bool
 | [],[],[]=>some true
 | k::ks,.v x::xs,.v y::ys=>(eqV k x y).bind fun b=>if b then zb5 ks xs ys else some false
 | _,_,_=>none
def eqP:List Kd->PV->PV->Option Bool
 | [k],.v x,.v y=>eqV k x y
 | k::l::ks,.agg xs,.agg ys=>zb5 (k::l::ks) xs ys
 | _,_,_=>none
def zbu (x:PV):Option Nat:=(zhl x).bind fun n=>if 0<=n then some n.toNat else none
def lenOf (st:St):PV->Option Nat
 | .e0=>some 0
 | .sl _ es=>some es.length
 | .ref o p ep _ len=>if (ze9 st o p ep).isSome then some len else none
 | _=>none
def iaddr (st:St) (sz i:Nat):PV->Option PV
 | .sl s es=>if s=sz then (es[i]?).map fun cs => .fptr cs 0 else none
 | .ref o p ep lo len=>(ze9 st o p ep).bind fun r=>if r.1=sz/\i<len then some (.ptr o p ep (lo+i) 0) else none
 | _=>none
def zhy (s:ByteArray):List (List PV):=s.data.toList.map fun b=>[.v (.int .u8 (b.toNat:Int))]
def zi4:List (List PV)->Option (List UInt8)
 | []=>some []
 | [.v (.int .u8 n)]::r=>(zi4 r).map fun l=>n.toNat.toUInt8::l
 | _=>none
def sliceS (s:ByteArray) (lo hi:Option Nat):Option PV :=
 if lo.getD 0<=hi.getD s.size/\hi.getD s.size<=s.size then some (.v (.string (s.extract (lo.getD 0) (hi.getD s.size)))) else none
def zuo (st:St) (sz l h:Nat):PV->Option PV
 | .e0=>some .e0
 | .sl s es=>if s=sz then some (.sl s ((es.drop l).take (h-l))) else none
 | .ref o p ep lo _=>(ze9 st o p ep).bind fun r=>if r.1=sz then some (.ref o p ep (lo+l) (h-l)) else none
 | _=>none
def zki (st:St) (sz:Nat) (x:PV) (lo hi:Option Nat):Option Nat->Option PV
 | some m=>(lenOf st x).bind fun n=>if m=0/\hi=some 0/\lo.getD 0=0/\0<=n then some .e0 else none
 | none=>(lenOf st x).bind fun n=>if lo.getD 0<=hi.getD n/\hi.getD n<=n then zuo st sz (lo.getD 0) (hi.getD n) x else none
def zah (bytes n:Nat):Bool:=n*bytes<=140737488355328 && n<=140737488355328
def zgk (st:St) (sz o:Nat):Option Ob->Option (Nat×Nat)->Nat->Nat->Nat->Option (List (List PV)×Bool×St)
 | some (.row s es),none,_,lo,len=>if s=sz/\lo+len=es.length then some (es.drop lo,false,{ st with S:=upd st.S o none }) else none
 | some (.row s es),some (i,j),ep,lo,len=>if ep=st.ep then
   (zbv es i j).bind fun r=>if r.1=sz/\lo+len=r.2.length then
    some (r.2.drop lo,false,{ st with S:=upd st.S o (some (.row s (zb2 es i j .undef))),ep:=st.ep+1 }) else none
  else none
 | some (.rowF s es),none,_,lo,len=>if s=sz/\lo+len=es.length then some (es.drop lo,true,{ st with S:=upd st.S o none }) else none
 | _,_,_,_,_=>none
def zf5 (st:St) (sz:Nat):PV->Option (List (List PV)×Bool×St)
 | .e0=>some ([],false,st)
 | .ref o p ep lo len=>zgk st sz o (st.S o) p ep lo len
 | _=>none
def zg8 (st:St) (o:Nat):Option Ob->Option (Nat×Nat)->Nat->Nat->Option (List (List PV)×Option Bool×St)
 | some (.row _ es),none,lo,len=>if lo=0/\len=es.length then some (es,some false,{ st with S:=upd st.S o none }) else none
 | some (.rowF _ es),none,lo,len=>some (cut es lo len,some true,st)
 | _,_,_,_=>none
def zf3 (st:St) (sz:Nat):PV->Option (List (List PV)×Option Bool×St)
 | .e0=>some ([],none,st)
 | .sl s es=>if s=sz/\zch es then some (es,none,st) else none
 | .ref o p ep lo len =>
  (ze9 st o p ep).bind fun r =>
   if r.1=sz then
    if zch (cut r.2 lo len) then some (cut r.2 lo len,none,st) else zg8 st o (st.S o) p lo len
   else none
 | _=>none
def zg2 (st:St) (sz:Nat) (es:List (List PV)):Bool->Option Bool->Option (PV×St)
 | false,none=>some (newRow st sz es)
 | false,some false=>some (newRow st sz es)
 | true,none=>some (zho st sz es)
 | true,some true=>some (zho st sz es)
 | _,_=>none
def zku (st:St) (bytes sz:Nat) (s x:PV):Option (PV×St) :=
 (zf3 st sz x).bind fun m=>(zf5 m.2.2 sz s).bind fun b =>
  if zah bytes (b.1.length+m.1.length) then zg2 b.2.2 sz (b.1++m.1) b.2.1 m.2.1 else none
def appS (st:St) (s:PV) (t:ByteArray):Option (PV×St) :=
 (zf5 st 1 s).bind fun b=>if zah 1 (b.1.length+t.size) then zg2 b.2.2 1 (b.1++zhy t) b.2.1 none else none
def zdp (c:PV):Bool:=zej c || isF c
def ziy:Option Ob->Option (Nat×Nat)->Nat->Nat->Option PV
 | some (.box cs),none,i,j=>if i=0/\cs.all zdp then some (.fptr cs j) else none
 | _,_,_,_=>none
def zb8 (st:St) (sz:Nat):PV->Option PV
 | .v x=>some (.v x)
 | .e0=>some (.sl sz [])
 | .sl s es=>some (.sl s es)
 | .ref o p ep lo len=>(ze9 st o p ep).map fun r => .sl r.1 (cut r.2 lo len)
 | .fptr cs j=>some (.fptr cs j)
 | .ptr o p _ i j=>ziy (st.S o) p i j
 | _=>none
def zez (st:St):List Nat->List PV->Option (List PV)
 | sz::szs,c::cs=>(zb8 st sz c).bind fun x=>(zez st szs cs).bind fun xs=>some (x::xs)
 | [],c::cs=>(zb8 st 0 c).bind fun x=>(zez st [] cs).bind fun xs=>some (x::xs)
 | _,[]=>some []
def zcp (st:St) (szs:List Nat):PV->Option PV
 | .agg cs=>(zez st szs cs).map .agg
 | .fn f caps=>(zez st [] caps).map (.fn f)
 | x=>zb8 st (szs.headD 0) x
def zmu (o ep lo len:Nat):Option Ob->Option (PV×List PV)
 | some (.row s es)=>if lo=0/\len=es.length then some (.own s es,[.ref o none ep lo len]) else none
 | _=>none
def zkh (o ep:Nat):Option Ob->Option (Nat×Nat)->Nat->Nat->Option (PV×List PV)
 | some (.box cs),none,i,j=>if i=0/\j=0/\cs.all zdp then some (.bx cs,[.ptr o none ep 0 0]) else none
 | _,_,_,_=>none
def zdi (st:St) (sz:Nat):PV->Option (PV×List PV)
 | .v x=>some (.v x,[])
 | .e0=>some (.own sz [],[.e0])
 | .ref o none ep lo len=>zmu o ep lo len (st.S o)
 | .ptr o p ep i j=>zkh o ep (st.S o) p i j
 | _=>none
def zgm (st:St):List Nat->List PV->Option (List PV×List PV)
 | sz::szs,c::cs=>(zdi st sz c).bind fun r=>(zgm st szs cs).bind fun q=>some (r.1::q.1,r.2++q.2)
 | [],c::cs=>(zdi st 0 c).bind fun r=>(zgm st [] cs).bind fun q=>some (r.1::q.1,r.2++q.2)
 | _,[]=>some ([],[])
def zfp (st:St) (szs:List Nat):PV->Option (PV×List PV)
 | .agg cs=>(zgm st szs cs).map fun q=>(.agg q.1,q.2)
 | x=>zdi st (szs.headD 0) x
def zcx (st:St):List Bool->List (List Nat×PV)->Option (List PV×List PV)
 | _,[]=>some ([],[])
 | m::ms,(szs,x)::xs =>
  (if m then zfp st szs x else (zcp st szs x).map fun y=>(y,[])).bind fun r =>
   (zcx st ms xs).bind fun q=>some (r.1::q.1,r.2++q.2)
 | [],(szs,x)::xs=>(zcp st szs x).bind fun y=>(zcx st [] xs).bind fun q=>some (y::q.1,q.2)
def root:PV->List Nat
 | .ref o _ _ _ _=>[o]
 | .ptr o _ _ _ _=>[o]
 | _=>[]
def zdw:PV->List Nat
 | .agg cs=>cs.flatMap root
 | .fn _ cs=>cs.flatMap root
 | x=>root x
def zes:List Nat->Bool
 | []=>true
 | x::xs => !xs.any (fun y=>y=x) && zes xs
def zex:PV->Bool
 | .own _ _=>true
 | .undef=>true
 | _=>false
def putRow (st:St) (o len s:Nat) (es':List (List PV)):Option Ob->Option (Nat×Nat)->Option St
 | some (.row sz es),none=>if es'.length=len/\s=sz/\es.length=len then some { st with S:=upd st.S o (some (.row sz es')) } else none
 | _,_=>none
def zpn (st:St) (o:Nat) (cs':List PV):Option Ob->Option St
 | some (.box cs)=>if cs'.length=cs.length then some { st with S:=upd st.S o (some (.box cs')) } else none
 | _=>none
def zo8 (st:St) (o:Nat):Option Ob->Option St
 | some (.row _ _)=>some { st with S:=upd st.S o none }
 | _=>none
def zcr (st:St):PV->PV->Option St
 | .e0,.own _ es=>if es.length=0 then some st else none
 | .e0,.undef=>some st
 | .ref o _ _ _ _,.undef=>zo8 st o (st.S o)
 | .ref o p _ _ len,.own s es'=>putRow st o len s es' (st.S o) p
 | .ptr o _ _ _ _,.bx cs'=>zpn st o cs' (st.S o)
 | _,_=>none
def zet (st:St):List PV->List PV->Option St
 | [],[]=>some st
 | t::ts,o::os=>(zcr st t o).bind fun st=>zet st ts os
 | _,_=>none
def zdd (st:St) (nofz:Bool):PV->Option (PV×St)
 | .v x=>some (.v x,st)
 | .sl sz es=>if nofz then none else some (.sl sz es,st)
 | .own sz es=>some (newRow st sz es)
 | .bx cs=>if nofz && cs.any isF then none else some (zby st cs)
 | _=>none
def zgl (st:St) (nofz:Bool):List PV->Option (List PV×St)
 | []=>some ([],st)
 | c::cs=>(zdd st nofz c).bind fun r=>(zgl r.2 nofz cs).bind fun q=>some (r.1::q.1,q.2)
def zfc (st:St) (nofz:Bool):PV->Option (PV×St)
 | .agg cs=>(zgl st nofz cs).map fun q=>(.agg q.1,q.2)
 | x=>zdd st nofz x
def zfo (st:St) (nofz:Bool):List PV->Option (List PV×St)
 | []=>some ([],st)
 | c::cs=>(zfc st nofz c).bind fun r=>(zfo r.2 nofz cs).bind fun q=>some (r.1::q.1,q.2)
abbrev zak:=Nat->List PV->Option (List PV×List PV)
def zoz:List PV->PV
 | [x]=>x
 | vs => .tup vs
def zeh (args:List (List Nat×PV)):List Nat:=args.flatMap fun x=>zdw x.2
def zxo (rs all:List Nat):Bool:=rs.all fun o=>(all.filter (fun y=>y=o)).length=1
def zyi:PV->Bool
 | .own _ es=>zch es
 | _=>true
def zfz:Option Ob->Option Ob
 | some (.shadow _ _ _)=>none
 | x=>x
def yem (S:Nat->Option Ob):Nat->Option Ob:=fun o=>zfz (S o)
def zg3 (fl b:Bool) (st:St):St:=if b then (if fl then { st with S:=yem st.S } else { st with ep:=st.ep+1 }) else st
def zks:Option Ob->Bool
 | some (.shadow _ _ _)=>true
 | _=>false
def zh3 (st:St):List Nat->Bool
 | []=>true
 | o::os => !zks (st.S o) && zh3 st os
def zxp:List PV->Bool
 | []=>true
 | _=>false
def z79:PV->Bool
 | .bx cs=>cs.any isF
 | _=>false
def zhe (args:List (List Nat×PV)) (hs:List PV):Bool:=(zeh args).length != (hs.flatMap root).length
def zgr (fl:Bool) (R:zak) (st:St) (f:Nat) (args:List (List Nat×PV)) (a:List PV×List PV):Option (PV×St) :=
  if zxo (a.2.flatMap root) (zeh args) && (zxp a.2 || zh3 st (zeh args)) then
   (R f a.1).bind fun r =>
    if zhe args a.2 && r.2.any z79 || fl && !r.2.all zyi then none else
    (zet st a.2 r.2).bind fun st1 =>
     (zfo (zg3 fl (r.2.any zex) st1) (zhe args a.2) r.1).map fun q=>(zoz q.1,q.2)
  else none
def ze6 (modes:Nat->List Bool) (R:zak) (st:St) (f:Nat) (args:List (List Nat×PV)):Option (PV×St) :=
 (zcx st (modes f) args).bind (zgr (decide (args.length<(modes f).length)) R st f args)
structure Sub where
 o:Nat
 i:Nat
 j:Nat
 sz:Nat
 es:List (List PV)
 s2:Nat
 es2:List (List PV)
def zhx (ce o i j ep lo len:Nat):Option Ob->Option Sub
 | some (.row sz es)=>if ep=ce then (zbv es i j).bind fun r=>if lo=0/\len=r.2.length then some ⟨o,i,j,sz,es,r.1,r.2⟩ else none else none
 | _=>none
def zfn (st:St):PV->Option Sub
 | .ref o (some (i,j)) ep lo len=>zhx st.ep o i j ep lo len (st.S o)
 | _=>none
def zgq {α β:Type} (x:Option α) (y:Option β) (k:α->Option β):Option β:=match x with
 | some a=>k a
 | none=>y
def zgs (st:St):List PV->Option Sub
 | []=>none
 | c::cs=>zgq (zfn st c) (zgs st cs) some
def zef (st:St):List Bool->List (List Nat×PV)->Option Sub
 | true::ms,q::xs=>zgq (zgs st (cellsOf q.2)) (zef st ms xs) some
 | false::ms,_::xs=>zef st ms xs
 | _,_=>none
def zgj (d:Sub) (n e:Nat):PV->PV
 | .ref o p ep lo len=>if o=d.o/\p=some (d.i,d.j)/\ep=e then .ref n none (e+1) lo len else .ref o p ep lo len
 | c=>c
def zhh (d:Sub) (n e:Nat):PV->PV
 | .agg cs => .agg (cs.map (zgj d n e))
 | .fn f cs => .fn f cs
 | x=>zgj d n e x
def zkf (d:Sub) (n e:Nat) (args:List (List Nat×PV)):List (List Nat×PV):=args.map fun q=>(q.1,zhh d n e q.2)
def zb3 (st:St) (d:Sub):St :=
 { st with S:=upd (upd st.S d.o (some (.row d.sz (zb2 d.es d.i d.j .undef)))) st.nx (some (.row d.s2 d.es2)),nx:=st.nx+1,ep:=st.ep+1 }
def zpq (st:St) (n o i j:Nat):Option Ob->Option Ob->Option St
 | some (.row s es'),some (.row sz es)=>some { st with S:=upd (upd st.S n none) o (some (.row sz (zb2 es i j (.own s es')))),ep:=st.ep+1 }
 | _,_=>none
def zpt (st:St) (n:Nat) (d:Sub):Option St:=zpq st n d.o d.i d.j (st.S n) (st.S d.o)
def zi6 (modes:Nat->List Bool) (R:zak) (st:St) (f:Nat) (args:List (List Nat×PV)) (d:Sub):Option (PV×St) :=
 if (zeh (zkf d st.nx st.ep args)).any (fun o=>o=d.o) then none else
  (ze6 modes R (zb3 st d) f (zkf d st.nx st.ep args)).bind fun r=>(zpt r.2 st.nx d).map fun s=>(r.1,s)
def zdl (modes:Nat->List Bool) (R:zak) (st:St) (f:Nat) (args:List (List Nat×PV)):Option (PV×St) :=
 zgq (zef st (modes f) args) (ze6 modes R st f args) (zi6 modes R st f args)
def zbk (st:St):Option Opd->Option (Option Nat)
 | none=>some none
 | some y=>(zbu (y.get st)).map some
def zhw (ce:Nat):Option Ob->Option (Nat×Nat)->Nat->Nat->Bool
 | some (.box _),none,_,i=>i == 0
 | some (.row sz es),p,ep,_=>(zau ce (some (.row sz es)) p ep).isSome
 | some (.rowF sz es),p,ep,_=>(zau ce (some (.rowF sz es)) p ep).isSome
 | some (.shadow sz es e),p,ep,_=>(zau ce (some (.shadow sz es e)) p ep).isSome
 | _,_,_,_=>false
def zio (st:St):PV->Option PV
 | .ptr o p ep i j=>if zhw st.ep (st.S o) p ep i then some (.ptr o p ep i j) else none
 | .fptr cs j=>some (.fptr cs j)
 | .fn f caps=>some (.fn f caps)
 | _=>none
def zic (st:St) (off:Nat):PV->Option PV
 | .ptr o p ep i j=>if zhw st.ep (st.S o) p ep i then some (.ptr o p ep i (j+off)) else none
 | .fptr cs j=>some (.fptr cs (j+off))
 | _=>none
def zmh (i:Nat):PV->Option PV
 | .tup vs=>vs[i]?
 | _=>none
def zpk (modes:Nat->List Bool) (R:zak) (st:St) (args:List (List Nat×PV)):PV->Option (PV×St)
 | .fn f caps=>zdl modes R st f (args++caps.map fun c=>([],c))
 | _=>none
def mxP (big:Bool):PV->PV->Option PV
 | .v (.int k a),.v (.int k' b)=>if k=k' then some (.v (.int k (if big then (if a<b then b else a) else (if b<a then b else a)))) else none
 | _,_=>none
def zpm:PV->Bool
 | .agg _=>false
 | .fn _ _=>false
 | .tup _=>false
 | _=>true
def zbz (st:St) (ps:List (Nat×Opd)):List (Nat×PV):=ps.map fun q=>(q.1,q.2.get st)
def zag (modes:Nat->List Bool) (R:zak) (st:St):IOp->Option (PV×St)
 | .mv x=>some (x.get st,st)
 | .pick c a b=>(zgu (c.get st)).map fun t=>(if t then a.get st else b.get st,st)
 | .alloc z=>some (zby st z)
 | .box x=>if (cellsOf (x.get st)).all zcw then some (zby st (cellsOf (x.get st))) else none
 | .build z ps=>(zg6 z (ps.map fun q=>(q.1,q.2.1,q.2.2.get st))).map fun cs=>(.agg cs,st)
 | .bslice n sz z ps =>
  if (zc1 st (zbz st ps)).any fun q=>(cellsOf q.2).any isF then
   (zib z (List.replicate n (z.map fz)) (zc1 st (zbz st ps))).map fun es=>zho (zda st (zbz st ps)) sz es
  else (zc9 (zda st (zbz st ps)) z (List.replicate n z) (zc1 st (zbz st ps))).map fun q=>newRow q.2 sz q.1
 | .allocL z=>some (zby st z)
 | .mvL x=>some (x.get st,st)
 | .bsliceL n sz z ps=>(zc9 st z (List.replicate n z) (zbz st ps)).map fun q=>newRow q.2 sz q.1
 | .load ag sz a=>(loadCells st sz (a.get st)).bind fun cs=>(zkq ag cs).map fun x=>(x,st)
 | .store szs a x=>(storeAt st szs (a.get st) (x.get st)).map fun st=>(.undef,st)
 | .nilc x=>(zio st (x.get st)).map fun r=>(r,st)
 | .bin op x y=>(zmf op (x.get st) (y.get st)).map fun r=>(r,st)
 | .eqb neg ks x y=>(eqP ks (x.get st) (y.get st)).map fun b=>(.v (.bool (b != neg)),st)
 | .un op x=>(unP op (x.get st)).map fun r=>(r,st)
 | .convI k x=>(zhl (x.get st)).map fun n=>(.v (.int k (k.wrap n)),st)
 | .toS x=>(zfb st (x.get st)).bind fun r=>(zi4 r.2).map fun l=>(.v (.string ⟨l.toArray⟩),st)
 | .mkfn f caps=>if (caps.map (Opd.get st)).all zpm then some (.fn f (caps.map (Opd.get st)),st) else none
 | .mksl bytes sz z l c=>(zbu (l.get st)).bind fun n=>(zbu (c.get st)).bind fun m =>
  if n<=m/\zah bytes m then some (newRow st sz (List.replicate n z)) else none
 | .slice sz x lo hi mx =>
  (zbk st lo).bind fun l=>(zbk st hi).bind fun h=>(zbk st mx).bind fun m=>(zki st sz (x.get st) l h m).map fun r=>(r,st)
 | .sliceS x lo hi =>
  (zcv (x.get st)).bind fun s=>(zbk st lo).bind fun l=>(zbk st hi).bind fun h=>(sliceS s l h).map fun r=>(r,st)
 | .faddr off x=>(zic st off (x.get st)).map fun r=>(r,st)
 | .iaddr sz x i=>(zbu (i.get st)).bind fun k=>(iaddr st sz k (x.get st)).map fun r=>(r,st)
 | .idx x i=>(zcv (x.get st)).bind fun s=>(zbu (i.get st)).bind fun k=>(s[k]?).map fun b=>(.v (.int .u8 (b.toNat:Int)),st)
 | .ext i x=>(zmh i (x.get st)).map fun r=>(r,st)
 | .call f args=>zdl modes R st f (args.map fun q=>(q.1,q.2.get st))
 | .callv g args=>zpk modes R st (args.map fun q=>(q.1,q.2.get st)) (g.get st)
 | .len x=>(lenOf st (x.get st)).map fun (n:Nat)=>(.v (.int .i64 (n:Int)),st)
 | .lenS x=>(zcv (x.get st)).map fun s=>(.v (.int .i64 (s.size:Int)),st)
 | .appS s x=>(zcv (x.get st)).bind fun t=>appS st (s.get st) t
 | .app bytes sz s x=>zku st bytes sz (s.get st) (x.get st)
 | .mx big x y=>(mxP big (x.get st) (y.get st)).map fun r=>(r,st)
def zih (want:Bool):PV->Option Bool
 | .v (.bool b)=>some (b == want)
 | .v _=>some false
 | _=>none
def zcs (st:St):Option (Opd×Bool)->Option Bool
 | none=>some true
 | some (g,want)=>zih want (g.get st)
def zdj (modes:Nat->List Bool) (R:zak):List zad->St->Option St
 | [],st=>some st
 | o::os,st=>(zcs st o.guard).bind fun t =>
  if t then (zag modes R st o.op).bind fun r=>zdj modes R os (r.2.put o.dst r.1)
  else zdj modes R os (st.put o.dst (.v Go.undef))
def quiet:IOp->Bool
 | .alloc _=>false
 | .box _=>false
 | .bslice .. => false
 | .allocL _=>false
 | .mvL _=>false
 | .bsliceL .. => false
 | .store .. => false
 | .mksl .. => false
 | .call .. => false
 | .callv .. => false
 | .app .. => false
 | .appS .. => false
 | _=>true
def evG (modes:Nat->List Bool) (R:zak) (st:St) (o:zad):Option (PV×St) :=
 (zcs st o.guard).bind fun t=>if t then zag modes R st o.op else some (.v Go.undef,st)
def yv (st:St) (o:zad):Option PV:=(evG (fun _=>[]) (fun _ _=>none) st o).map Prod.fst
def za2 (V E:Nat->PV) (o:zad) (x:PV):Nat->List St->Prop
 | 0,_=>True
 | _+1,[]=>True
 | n+1,m::ms=>yv { m with V:=V,E:=E } o=some x/\za2 V E o x n ms
def zca (st:St):List (zad×PV×Nat)->Prop
 | []=>True
 | (_,_,0)::r=>zca st r
 | (o,x,_+1)::r=>yv st o=some x/\zca st r
def zc5:List (zad×PV×Nat)->List (zad×PV×Nat)
 | []=>[]
 | (_,_,0)::r=>zc5 r
 | (o,x,n+1)::r=>(o,x,n)::zc5 r
open Classical in
noncomputable def evD (modes:Nat->List Bool) (R:zak):List (zad×Nat×Nat)->List (zad×PV×Nat)->List St->St->Option St
 | [],_,_,st=>some st
 | (o,b,w)::os,todo,past,st =>
  (evG modes R st o).bind fun r =>
   if quiet o.op then
    if za2 st.V st.E o r.1 b past then evD modes R os (if w=0 then todo else (o,r.1,w)::todo) past (st.put o.dst r.1) else none
   else if zca r.2 todo then evD modes R os (zc5 todo) (st::past) (r.2.put o.dst r.1) else none
def Ex.go (k:St->Option (Ex×St)):Ex×St->Option (Ex×St)
 | (.normal,st)=>k st
 | r=>some r
def Ex.out (id:Nat):Ex×St->Ex×St
 | (.exit i,st)=>(if i=id then .normal else .exit i,st)
 | r=>r
def zdz (F:St->Option (Ex×St)):Nat->St->Option (Ex×St)
 | 0,_=>none
 | n+1,st=>(F st).bind (Ex.go (zdz F n))
noncomputable def evC (modes:Nat->List Bool) (R:zak) (n:Nat):IC->St->Option (Ex×St)
 | .skip,st=>some (.normal,st)
 | .reg ops,st=>(zdj modes R ops { st with E:=fun _ => .undef }).map fun st=>(.normal,st)
 | .regD ops,st=>(evD modes R ops [] [] { st with E:=fun _ => .undef }).map fun st=>(.normal,st)
 | .seq a b,st=>(evC modes R n a st).bind (Ex.go (evC modes R n b))
 | .cond c x y,st=>(zgu (c.get st)).bind fun t=>if t then evC modes R n x st else evC modes R n y st
 | .block id c,st=>(evC modes R n c st).map (Ex.out id)
 | .loop c,st=>zdz (evC modes R n c) n st
 | .exit id,st=>some (.exit id,st)
 | .ret,st=>some (.ret,st)
def zcu (st:St):PV->Option (PV×St)
 | .v x=>some (.v x,st)
 | .sl sz es=>some (.sl sz es,st)
 | .fptr cs j=>some (.fptr cs j,st)
 | .own sz es=>some (newRow st sz es)
 | .bx cs=>some (zby st cs)
 | .fn f caps=>some (.fn f caps,st)
 | _=>none
def zk2 (st:St):List PV->Option (List PV×St)
 | []=>some ([],st)
 | c::cs=>(zcu st c).bind fun r=>(zk2 r.2 cs).bind fun q=>some (r.1::q.1,q.2)
def zg5 (st:St):PV->Option (PV×St)
 | .agg cs=>(zk2 st cs).map fun q=>(.agg q.1,q.2)
 | x=>zcu st x
def zk1 (st:St):List PV->Option (List PV×St)
 | []=>some ([],st)
 | c::cs=>(zg5 st c).bind fun r=>(zk1 r.2 cs).bind fun q=>some (r.1::q.1,q.2)
def st0:St := { V:=fun _ => .undef,E:=fun _ => .undef,S:=fun _=>none,nx:=0,ep:=0 }
def zky (args:List PV):Option St :=
 (zk1 st0 args).map fun q => { q.2 with V:=fun k=>q.1.getD k .undef }
def zkl (io o:Nat):Option Ob->Option (Nat×Nat)->Nat->Nat->Option PV
 | some (.row s es),none,lo,len=>if io<=o then some (.own s (cut es lo len)) else none
 | _,_,_,_=>none
def zkw (io o:Nat):Option Ob->Option (Nat×Nat)->Nat->Nat->Option PV
 | some (.box cs),none,i,j=>if io<=o/\i=0/\j=0/\cs.all zdp then some (.bx cs) else none
 | _,_,_,_=>none
def zdg (st:St) (io sz:Nat):PV->Option PV
 | .v x=>some (.v x)
 | .e0=>some (.own sz [])
 | .sl s es=>some (.sl s es)
 | .ref o p _ lo len=>zkl io o (st.S o) p lo len
 | .ptr o p _ i j=>zkw io o (st.S o) p i j
 | _=>none
def zi7 (st:St) (io:Nat):List Nat->List PV->Option (List PV)
 | sz::szs,c::cs=>(zdg st io sz c).bind fun x=>(zi7 st io szs cs).bind fun xs=>some (x::xs)
 | [],c::cs=>(zdg st io 0 c).bind fun x=>(zi7 st io [] cs).bind fun xs=>some (x::xs)
 | _,[]=>some []
def zhb (st:St) (io:Nat) (szs:List Nat):PV->Option PV
 | .agg cs=>(zi7 st io szs cs).map .agg
 | x=>zdg st io (szs.headD 0) x
def zpl (st:St):RV->Option PV
 | .tmp _ k=>some (st.V k)
 | .cell szs k ag=>(loadCells st szs.length (st.V k)).bind (zkq ag)
 | .pl=>none
def RV.szs:RV->List Nat
 | .tmp s _=>s
 | .cell s _ _=>s
 | .pl=>[]
def zk0 (st:St) (io:Nat):List (List Nat×PV)->Option (List PV)
 | []=>some []
 | (szs,x)::r=>(zhb st io szs x).bind fun y=>(zk0 st io r).bind fun ys=>some (y::ys)
def zi1 (st:St):List RV->Option (List (List Nat×PV))
 | []=>some []
 | r::rs=>(zpl st r).bind fun x=>(zi1 st rs).bind fun xs=>some ((r.szs,x)::xs)
def zgd:Option Ob->Option PV
 | some (.row sz es)=>some (.own sz es)
 | some (.box cs)=>if cs.all zdp then some (.bx cs) else none
 | _=>none
def zje (st:St):Nat->Option (List PV)
 | 0=>some []
 | n+1=>(zje st n).bind fun l=>(zgd (st.S n)).map fun x=>l++[x]
def zun:List RV->Bool
 | .pl::_=>true
 | _=>false
def zmp:List RV->List RV
 | .pl::r=>r
 | r=>r
def zkj (d:Sub) (n e:Nat):PV->PV
 | .ref o (some q) ep lo len=>if o=d.o/\ep=e then (if q=(d.i,d.j) then .ref n none (e+1) lo len else .ref o (some q) (e+1) lo len) else .ref o (some q) ep lo len
 | c=>c
def zuu (d:Sub) (n e:Nat):PV->PV
 | .agg cs => .agg (cs.map (zkj d n e))
 | .fn f cs => .fn f cs
 | x=>zkj d n e x
def zix:Nat->St->List (List Nat×PV)->St×List (List Nat×PV)
 | 0,st,xs=>(st,xs)
 | n+1,st,xs=>match zgs st (xs.flatMap fun x=>cellsOf x.2) with
  | some d=>zix n (zb3 st d) (xs.map fun q=>(q.1,zuu d st.nx st.ep q.2))
  | none=>(st,xs)
def zyh (io:Nat) (r:St×List (List Nat×PV)):Option (List PV×List PV) :=
 if zes (r.2.flatMap fun x=>zdw x.2) then
  (zk0 r.1 io r.2).bind fun ys=>(zje r.1 io).map fun os=>(ys,os)
 else none
def zfr (fn:IFn) (io:Nat) (st:St):Option (List PV×List PV) :=
 (zi1 st (zmp fn.results)).bind fun xs=>zyh io (if zun fn.results then zix 2 st xs else (st,xs))
def Ex.fin (k:St->Option (List PV×List PV)):Ex×St->Option (List PV×List PV)
 | (.normal,st)=>k st
 | (.ret,st)=>k st
 | _=>none
noncomputable def zpg (modes:Nat->List Bool) (R:zak) (n:Nat) (fn:IFn) (args:List PV):Option (List PV×List PV) :=
 (zky args).bind fun st=>(evC modes R n fn.body st).bind (Ex.fin (zfr fn st.nx))
inductive Fun where
 | code (fn:IFn)
 | known (modes:List Bool) (g:List PV->Option (List PV×List PV))
 | ext (g:List Value->Option (List Value))
def Fun.modes:Fun->List Bool
 | .code fn=>fn.modes
 | .known m _=>m
 | .ext _=>[]
def zmn:List PV->Option (List Value)
 | []=>some []
 | .v x::r=>(zmn r).map (x :: ·)
 | _=>none
def yeg (g:List Value->Option (List Value)) (args:List PV):Option (List PV×List PV):=(zmn args).bind fun xs=>(g xs).map fun ys=>(ys.map .v,[])
abbrev zcd:=Nat->Option Fun
def zac (T:zcd) (f:Nat):List Bool:=((T f).map Fun.modes).getD []
noncomputable def run (T:zcd):Nat->zak
 | 0,_,_=>none
 | n+1,f,args=>(T f).bind fun
  | .code fn=>zpg (zac T) (run T n) n fn args
  | .known _ g=>g args
  | .ext g=>yeg g args
end Go.Pe
namespace Go.Pe
open Go
variable {R R':zak} {st:St} {f:Nat} {args:List (List Nat×PV)} {r:PV×St} {T:zcd}
theorem zgi {α β:Type} {a a':Option α} {f f':α->Option β} {r:β} (h:a.bind f=some r) (ha : ∀ x,a=some x->a'=some x) (hf : ∀ x,a=some x->f x=some r->f' x=some r):a'.bind f'=some r:=by
 obtain ⟨x,hx,hr⟩:=bA h;rw [ha x hx]; exact hf x hx hr
def OLe (R R':zak):Prop := ∀ f a r,R f a=some r->R' f a=some r
theorem qdb (hR:OLe R R') {a:List PV×List PV} {fl:Bool} (h:zgr fl R st f args a=some r):zgr fl R' st f args a=some r:=by
 unfold zgr at h ⊢;split at h
 ·rename_i c; rw [if_pos c]; exact zgi h (fun x hx=>hR _ _ _ hx) (fun _ _ h=>h)
 ·cases h
theorem yrs {modes:Nat->List Bool} (hR:OLe R R') (h:ze6 modes R st f args=some r):ze6 modes R' st f args=some r :=
 zgi h (fun _ h=>h) (fun _ _ ha=>qdb hR ha)
theorem ytf {modes:Nat->List Bool} (hR:OLe R R') (h:zdl modes R st f args=some r):zdl modes R' st f args=some r:=by
 unfold zdl zgq at h ⊢;cases hd:zef st (modes f) args with
 | none=>rw [hd] at h; exact yrs hR h
 | some d =>
  rw [hd] at h;simp only [zi6] at h ⊢;split at h
  ·cases h
  ·rename_i c; rw [if_neg c]; exact zgi h (fun _ hx=>yrs hR hx) (fun _ _ h=>h)
theorem ybq {modes:Nat->List Bool} (hR:OLe R R') {o:IOp} (h:zag modes R st o=some r):zag modes R' st o=some r:=by
 cases o
 case call f args=>exact ytf hR h
 case callv g args =>
  simp only [zag] at h ⊢;cases hg:g.get st <;> rw [hg] at h <;> first | exact ytf hR h | cases h
 all_goals exact h
theorem z9m {modes:Nat->List Bool} {R R':zak} (hR:OLe R R') : ∀ (os:List zad) (st st':St),zdj modes R os st=some st'->zdj modes R' os st=some st'
 | [],_,_,h=>h
 | o::os,st,st',h=>by
  unfold zdj at h ⊢;refine zgi h (fun _ h=>h) (fun t _ ht => ?_);cases t with
  | true=>exact zgi ht (fun _ hx=>ybq hR hx) (fun _ _ h=>z9m hR os _ _ h)
  | false=>exact z9m hR os _ _ ht
theorem ybu {F F':St->Option (Ex×St)} {q r:Ex×St} (hF : ∀ st r,F st=some r->F' st=some r) (h:Ex.go F q=some r):Ex.go F' q=some r:=by
 obtain ⟨e,st⟩:=q;cases e
 ·exact hF _ _ h
 ·exact h
 ·exact h
theorem yek {modes:Nat->List Bool} (hR:OLe R R') {o:zad} (h:evG modes R st o=some r):evG modes R' st o=some r:=by
 unfold evG at h ⊢;refine zgi h (fun _ h=>h) (fun t _ ht => ?_);cases t with
 | true=>exact ybq hR ht
 | false=>exact ht
theorem zyc {modes:Nat->List Bool} {R R':zak} (hR:OLe R R') : ∀ (os:List (zad×Nat×Nat)) (todo:List (zad×PV×Nat)) (past:List St) (st r:St),evD modes R os todo past st=some r->evD modes R' os todo past st=some r
 | [],_,_,_,_,h=>h
 | (o,b,w)::os,todo,past,st,r,h=>by
  simp only [evD] at h ⊢;refine zgi h (fun x hx=>yek hR hx) (fun q _ hq => ?_);split at hq
  ·rename_i c; rw [if_pos c];split at hq
   ·rename_i c2; rw [if_pos c2]; exact zyc hR os _ _ _ _ hq
   ·cases hq
  ·rename_i c; rw [if_neg c];split at hq
   ·rename_i c2; rw [if_pos c2]; exact zyc hR os _ _ _ _ hq
   ·cases hq
theorem zyr {F F':St->Option (Ex×St)} (hF : ∀ st r,F st=some r->F' st=some r) : ∀ (n n':Nat) (st:St) (r:Ex×St),n<=n'->zdz F n st=some r->zdz F' n' st=some r
 | 0,_,_,_,_,h=>by cases h
 | n+1,n',st,r,hn,h=>by
  obtain ⟨m,rfl⟩ : ∃ m,n'=m+1:=⟨n'-1,by omega⟩;simp only [zdz] at h ⊢;exact zgi h (fun x hx=>hF _ _ hx) (fun q _ hq=>ybu (fun st r h=>zyr hF n m st r (by omega) h) hq)
theorem zhj {modes:Nat->List Bool} (hR:OLe R R') {n n':Nat} (hn:n<=n') : ∀ (c:IC) (st:St) (r:Ex×St),evC modes R n c st=some r->evC modes R' n' c st=some r
 | .skip,_,_,h=>h
 | .reg ops,st,r,h=>by
  simp only [evC,bB] at h ⊢;obtain ⟨s,hs,hr⟩:=h;exact ⟨s,z9m hR ops _ _ hs,hr⟩
 | .regD ops,st,r,h=>by
  simp only [evC,bB] at h ⊢;obtain ⟨s,hs,hr⟩:=h;exact ⟨s,zyc hR ops _ _ _ _ hs,hr⟩
 | .seq a b,st,r,h=>by
  simp only [evC] at h ⊢;exact zgi h (fun x hx=>zhj hR hn a st x hx) (fun q _ hq=>ybu (fun st r h=>zhj hR hn b st r h) hq)
 | .cond c x y,st,r,h=>by
  simp only [evC] at h ⊢;refine zgi h (fun _ h=>h) (fun t _ ht => ?_);cases t
  ·exact zhj hR hn y st r ht
  ·exact zhj hR hn x st r ht
 | .block id c,st,r,h=>by
  simp only [evC,bB] at h ⊢;obtain ⟨s,hs,hr⟩:=h;exact ⟨s,zhj hR hn c st s hs,hr⟩
 | .loop c,st,r,h=>zyr (fun st r h=>zhj hR hn c st r h) n n' st r hn h
 | .exit _,_,_,h=>h
 | .ret,_,_,h=>h
theorem qe8 {modes:Nat->List Bool} (hR:OLe R R') {n n':Nat} (hn:n<=n') {fn:IFn} {args:List PV} {r:List PV×List PV} (h:zpg modes R n fn args=some r):zpg modes R' n' fn args=some r:=by
 unfold zpg at h ⊢;exact zgi h (fun _ h=>h) (fun st _ hst=>zgi hst (fun q hq=>zhj hR hn fn.body st q hq) (fun _ _ h=>h))
theorem ypa (T:zcd) : ∀ n,OLe (run T n) (run T (n+1))
 | 0=>fun f a r h=>by cases h
 | n+1=>fun f a r h=>by
  have ih:=ypa T n;rw [run] at h ⊢;refine zgi h (fun _ h=>h) (fun fu _ hfu => ?_);cases fu with
  | code fn=>exact qe8 ih (Nat.le_succ n) hfu
  | known m g=>exact hfu
  | ext g=>exact hfu
theorem zhi (T:zcd) {n n':Nat} (h:n<=n'):OLe (run T n) (run T n'):=by
 induction h with
 | refl=>exact fun _ _ _ h=>h
 | step _ ih=>exact fun f a r hr=>ypa T _ f a r (ih f a r hr)
open Classical in
noncomputable def lim {α:Type} (g:Nat->Option α):Option α:=if h : ∃ n r,g n=some r then some h.choose_spec.choose else none
theorem ypk {α:Type} {g:Nat->Option α} (hg : ∀ n n' r,n<=n'->g n=some r->g n'=some r) {r:α}:lim g=some r↔∃ n,g n=some r:=by
 unfold lim;constructor
 ·intro h;split at h
  ·rename_i hx;have:=hx.choose_spec.choose_spec;cases h;exact ⟨_,this⟩
  ·cases h
 ·rintro ⟨n,hn⟩;have hx : ∃ n r,g n=some r:=⟨n,r,hn⟩;rw [dif_pos hx];have h1:=hx.choose_spec.choose_spec;have a:=hg _ (max n hx.choose) _ (Nat.le_max_left _ _) hn;have b:=hg _ (max n hx.choose) _ (Nat.le_max_right _ _) h1;rw [a] at b;exact b.symm
noncomputable def RUN (T:zcd):zak:=fun f a=>lim fun n=>run T n f a
theorem zym {a:List PV} {r:List PV×List PV}:RUN T f a=some r↔∃ n,run T n f a=some r :=
 ypk (g:=fun n=>run T n f a) fun _ _ _ h hr=>zhi T h _ _ _ hr
noncomputable def zu2 (F:St->Option (Ex×St)) (st:St):Option (Ex×St):=lim fun n=>zdz F n st
theorem z9h {F:St->Option (Ex×St)} {r:Ex×St}:zu2 F st=some r↔∃ n,zdz F n st=some r :=
 ypk (g:=fun n=>zdz F n st) fun n n' r h hr=>zyr (fun _ _ h=>h) n n' st r h hr
theorem qd7 (F:St->Option (Ex×St)) (st:St):zu2 F st=(F st).bind (Ex.go (zu2 F)):=by
 refine Option.ext fun r => ?_;rw [z9h];constructor
 ·rintro ⟨n,hn⟩;cases n with
  | zero=>cases hn
  | succ n =>
   simp only [zdz] at hn;exact zgi hn (fun _ h=>h) (fun q _ hq=>ybu (fun st r h=>z9h.mpr ⟨n,h⟩) hq)
 ·intro h;obtain ⟨⟨e,st'⟩,hq,hr⟩:=bA h;cases e with
  | normal =>
   obtain ⟨n,hn⟩:=z9h.mp (show zu2 F st'=some r from hr);exact ⟨n+1,by simp only [zdz]; rw [hq]; exact hn⟩
  | exit i=>exact ⟨1,by simp only [zdz]; rw [hq]; exact hr⟩
  | ret=>exact ⟨1,by simp only [zdz]; rw [hq]; exact hr⟩
noncomputable def evL (modes:Nat->List Bool) (R:zak):IC->St->Option (Ex×St)
 | .skip,st=>some (.normal,st)
 | .reg ops,st=>(zdj modes R ops { st with E:=fun _ => .undef }).map fun st=>(.normal,st)
 | .regD ops,st=>(evD modes R ops [] [] { st with E:=fun _ => .undef }).map fun st=>(.normal,st)
 | .seq a b,st=>(evL modes R a st).bind (Ex.go (evL modes R b))
 | .cond c x y,st=>(zgu (c.get st)).bind fun t=>if t then evL modes R x st else evL modes R y st
 | .block id c,st=>(evL modes R c st).map (Ex.out id)
 | .loop c,st=>zu2 (evL modes R c) st
 | .exit id,st=>some (.exit id,st)
 | .ret,st=>some (.ret,st)
theorem qci {a:List PV×List PV} {fl:Bool} (h:zgr fl (RUN T) st f args a=some r) : ∃ n,zgr fl (run T n) st f args a=some r:=by
 unfold zgr at h ⊢;split at h
 ·rename_i c;obtain ⟨x,hx,h⟩:=bA h;obtain ⟨n,hn⟩:=zym.mp hx;exact ⟨n,by rw [if_pos c,hn]; exact h⟩
 ·cases h
theorem ysx {modes:Nat->List Bool} (h:ze6 modes (RUN T) st f args=some r) : ∃ n,ze6 modes (run T n) st f args=some r:=by
 obtain ⟨a,ha,h⟩:=bA h;obtain ⟨n,hn⟩:=qci h;exact ⟨n,Option.bind_eq_some_iff.mpr ⟨a,ha,hn⟩⟩
theorem ys7 {modes:Nat->List Bool} (h:zdl modes (RUN T) st f args=some r) : ∃ n,zdl modes (run T n) st f args=some r:=by
 unfold zdl zgq at h ⊢;cases hd:zef st (modes f) args with
 | none=>rw [hd] at h; exact ysx h
 | some d =>
  rw [hd] at h;simp only [zi6] at h ⊢;split at h
  ·cases h
  ·rename_i c;obtain ⟨q,hq,h⟩:=bA h;obtain ⟨n,hn⟩:=ysx hq;exact ⟨n,by rw [if_neg c,hn]; exact h⟩
theorem ysj {modes:Nat->List Bool} {o:IOp} (h:zag modes (RUN T) st o=some r) : ∃ n,zag modes (run T n) st o=some r:=by
 cases o
 case call f args=>exact ys7 h
 case callv g args =>
  simp only [zag] at h ⊢;cases hg:g.get st <;> rw [hg] at h <;> first | exact ys7 h | cases h
 all_goals exact ⟨0,h⟩
theorem yeo {modes:Nat->List Bool} : ∀ (os:List zad) (st st':St),zdj modes (RUN T) os st=some st'->∃ n,zdj modes (run T n) os st=some st'
 | [],_,_,h=>⟨0,h⟩
 | o::os,st,st',h=>by
  unfold zdj at h ⊢;obtain ⟨t,ht,h⟩:=bA h;cases t with
  | true =>
   obtain ⟨x,hx,h⟩:=bA h;obtain ⟨n,hn⟩:=ysj hx;obtain ⟨m,hm⟩:=yeo os _ _ h;refine ⟨max n m,?_⟩;rw [ht];simp only [Option.bind_some,if_true];rw [ybq (zhi T (Nat.le_max_left n m)) hn];exact z9m (zhi T (Nat.le_max_right n m)) os _ _ hm
  | false =>
   obtain ⟨m,hm⟩:=yeo os _ _ h;exact ⟨m,by rw [ht]; exact hm⟩
theorem qiy {modes:Nat->List Bool} {o:zad} (h:evG modes (RUN T) st o=some r) : ∃ n,evG modes (run T n) st o=some r:=by
 unfold evG at h ⊢;obtain ⟨t,ht,h⟩:=bA h;cases t with
 | true=>obtain ⟨n,hn⟩:=ysj h; exact ⟨n,by rw [ht]; exact hn⟩
 | false=>exact ⟨0,by rw [ht]; exact h⟩
theorem yc6 {modes:Nat->List Bool} : ∀ (os:List (zad×Nat×Nat)) (todo:List (zad×PV×Nat)) (past:List St) (st r:St),evD modes (RUN T) os todo past st=some r->∃ n,evD modes (run T n) os todo past st=some r
 | [],_,_,_,_,h=>⟨0,h⟩
 | (o,b,w)::os,todo,past,st,r,h=>by
  simp only [evD] at h;obtain ⟨q,hq,h⟩:=bA h;obtain ⟨n,hn⟩:=qiy hq;split at h
  ·rename_i c;split at h
   ·rename_i c2;obtain ⟨m,hm⟩:=yc6 os _ _ _ _ h;refine ⟨max n m,?_⟩;simp only [evD];rw [yek (zhi T (Nat.le_max_left n m)) hn];simp only [Option.bind_some];rw [if_pos c,if_pos c2];exact zyc (zhi T (Nat.le_max_right n m)) os _ _ _ _ hm
   ·cases h
  ·rename_i c;split at h
   ·rename_i c2;obtain ⟨m,hm⟩:=yc6 os _ _ _ _ h;refine ⟨max n m,?_⟩;simp only [evD];rw [yek (zhi T (Nat.le_max_left n m)) hn];simp only [Option.bind_some];rw [if_neg c,if_pos c2];exact zyc (zhi T (Nat.le_max_right n m)) os _ _ _ _ hm
   ·cases h
theorem zpr {modes:Nat->List Bool} : ∀ (c:IC) (st:St) (r:Ex×St),evL modes (RUN T) c st=some r->∃ n,evC modes (run T n) n c st=some r
 | .skip,_,_,h=>⟨0,h⟩
 | .reg ops,st,r,h=>by
  simp only [evL,bB] at h;obtain ⟨s,hs,hr⟩:=h;obtain ⟨n,hn⟩:=yeo ops _ _ hs;exact ⟨n,by simp only [evC,hn,Option.map_some,hr]⟩
 | .regD ops,st,r,h=>by
  simp only [evL,bB] at h;obtain ⟨s,hs,hr⟩:=h;obtain ⟨n,hn⟩:=yc6 ops _ _ _ _ hs;exact ⟨n,by simp only [evC,hn,Option.map_some,hr]⟩
 | .seq a b,st,r,h=>by
  simp only [evL] at h;obtain ⟨⟨e,s⟩,hs,h⟩:=bA h;obtain ⟨n,hn⟩:=zpr a _ _ hs;cases e with
  | normal =>
   obtain ⟨m,hm⟩:=zpr b _ _ (show evL modes (RUN T) b s=some r from h);refine ⟨max n m,?_⟩;simp only [evC];rw [zhj (zhi T (Nat.le_max_left n m)) (Nat.le_max_left n m) a _ _ hn];exact zhj (zhi T (Nat.le_max_right n m)) (Nat.le_max_right n m) b _ _ hm
  | exit i=>exact ⟨n,by simp only [evC]; rw [hn]; exact h⟩
  | ret=>exact ⟨n,by simp only [evC]; rw [hn]; exact h⟩
 | .cond c x y,st,r,h=>by
  simp only [evL] at h;obtain ⟨t,ht,h⟩:=bA h;cases t with
  | true=>obtain ⟨n,hn⟩:=zpr x _ _ (show evL modes (RUN T) x st=some r from h); exact ⟨n,by simp only [evC,ht,Option.bind_some,if_true]; exact hn⟩
  | false=>obtain ⟨n,hn⟩:=zpr y _ _ (show evL modes (RUN T) y st=some r from h); exact ⟨n,by simp only [evC,ht,Option.bind_some,Bool.false_eq_true,if_false]; exact hn⟩
 | .block id c,st,r,h=>by
  simp only [evL,bB] at h;obtain ⟨s,hs,hr⟩:=h;obtain ⟨n,hn⟩:=zpr c _ _ hs;exact ⟨n,by simp only [evC,hn,Option.map_some,hr]⟩
 | .loop c,st,r,h=>by
  obtain ⟨k,hk⟩:=z9h.mp (show zu2 (evL modes (RUN T) c) st=some r from h);have go : ∀ (k:Nat) (st:St),zdz (evL modes (RUN T) c) k st=some r->∃ n,zdz (evC modes (run T n) n c) k st=some r:=by
   intro k
   induction k with
   | zero=>intro st h; cases h
   | succ k ih =>
    intro st h;simp only [zdz] at h;obtain ⟨⟨e,s⟩,hs,h⟩:=bA h;obtain ⟨n,hn⟩:=zpr c _ _ hs;cases e with
    | normal =>
     obtain ⟨m,hm⟩:=ih s h;refine ⟨max n m,?_⟩;simp only [zdz];rw [zhj (zhi T (Nat.le_max_left n m)) (Nat.le_max_left n m) c _ _ hn];exact zyr (fun st r h=>zhj (zhi T (Nat.le_max_right n m)) (Nat.le_max_right n m) c st r h) k k _ _ (Nat.le_refl _) hm
    | exit i=>exact ⟨n,by simp only [zdz]; rw [hn]; exact h⟩
    | ret=>exact ⟨n,by simp only [zdz]; rw [hn]; exact h⟩
  obtain ⟨n,hn⟩:=go k st hk;exact ⟨max n k,zyr (fun st r h=>zhj (zhi T (Nat.le_max_left n k)) (Nat.le_max_left n k) c st r h) k (max n k) st r (Nat.le_max_right _ _) hn⟩
 | .exit _,_,_,h=>⟨0,h⟩
 | .ret,_,_,h=>⟨0,h⟩
noncomputable def zxy (modes:Nat->List Bool) (R:zak) (fn:IFn) (args:List PV):Option (List PV×List PV) :=
 (zky args).bind fun st=>(evL modes R fn.body st).bind (Ex.fin (zfr fn st.nx))
theorem yow {fn:IFn} (hT:T f=some (.code fn)) {args:List PV} {r:List PV×List PV} (h:zxy (zac T) (RUN T) fn args=some r):RUN T f args=some r:=by
 unfold zxy at h;obtain ⟨st,hst,h⟩:=bA h;obtain ⟨q,hq,h⟩:=bA h;obtain ⟨n,hn⟩:=zpr _ _ _ hq;refine zym.mpr ⟨n+1,?_⟩;rw [run,hT];simp only [Option.bind_some,zpg,hst,hn];exact h
theorem yb3 {m:List Bool} {g:List PV->Option (List PV×List PV)} (hT:T f=some (.known m g)) {args:List PV} {r:List PV×List PV} (h:g args=some r):RUN T f args=some r :=
 zym.mpr ⟨1,by rw [run,hT]; exact h⟩
theorem ynz {T:zcd} {f:Nat} {g:List Value->Option (List Value)} (hT:T f=some (.ext g)) {xs ys:List Value} (h:g xs=some ys):RUN T f (xs.map .v)=some (ys.map .v,[]):=by
 have e : ∀ l:List Value,zmn (l.map .v)=some l:=by
  intro l
  induction l with
  | nil=>rfl
  | cons x l ih=>simp only [List.map_cons,zmn,ih,Option.map_some]
 exact zym.mpr ⟨1,by rw [run,hT]; simp only [Option.bind_some,yeg,e,h,Option.map_some]⟩
end Go.Pe
namespace Go.Pe
open Go
def zdf (P:Program) (t:TypeId):Option Nat:=(P.info? t).map (·.size)
def ze8 (P:Program) (t:TypeId):Option Bool:=(P.underlying t).map fun | .struct _=>true | .array _ _=>true | _=>false
def yn6 (P:Program):Nat->TypeId->Option (List Nat)
 | 0,_=>none
 | n+1,t =>
  match P.underlying t with
  | some (.struct fs)=>(fs.toList.mapM fun f=>yn6 P n f.type).map List.flatten
  | some (.slice e)=>(zdf P e).map fun s=>[s]
  | some (.array _ _)=>none
  | some _=>some [0]
  | none=>none
def zpp (P:Program) (t:TypeId):Option (List Nat):=(yn6 P 8 t).bind fun l=>if zdf P t=some l.length then some l else none
def zph:Value->Option PV
 | .slice none 0 0=>some .e0
 | x=>if okV x then some (.v x) else none
def yc2:Value->Nat->Option PV
 | .slice none 0 0,sz=>some (.own sz [])
 | x,_=>if okV x then some (.v x) else none
def zo0:List Value->List Nat->Option (List PV)
 | x::xs,s::ss=>(yc2 x s).bind fun c=>(zo0 xs ss).map (c :: ·)
 | [],[]=>some []
 | _,_=>none
def zo5 (P:Program) (t:TypeId):Option (List PV):=((P.info? t).bind (·.zero)).bind fun z=>z.cells.toList.mapM zph
def zo4 (P:Program) (t:TypeId):Option (List PV):=((P.info? t).bind (·.zero)).bind fun z=>(zpp P t).bind fun l=>zo0 z.cells.toList l
def zan (vars:List Nat):Operand->Option Opd
 | .tmp k=>some (if vars.contains k then .V k else .E k)
 | .const (.slice none 0 0)=>some (.C .e0)
 | .const x=>if okV x then some (.C (.v x)) else none
 | .func f=>some (.C (.fn f []))
 | .global _=>none
def zgx (vars:List Nat):Option Operand->Option (Option Opd)
 | none=>some none
 | some x=>(zan vars x).map some
def zh4 (P:Program):Nat->TypeId->Option (List Kd)
 | 0,_=>none
 | n+1,t =>
  match P.underlying t with
  | some .bool=>some [.b]
  | some (.int k)=>some [.i k]
  | some .string=>some [.s]
  | some (.struct fs)=>if P.stoodInHeld t then none else kindsFs (fun t=>zh4 P n t) P 0 fs.toList
  | _=>none
where kindsFs (f:TypeId->Option (List Kd)) (P:Program):Nat->List Field->Option (List Kd)
 | _,[]=>some []
 | off, fd :: fs => if fd.name != "_" && fd.offset == off then
   (f fd.type).bind fun l=>if zdf P fd.type=some l.length then (kindsFs f P (off+l.length) fs).map (l ++ ·) else none
  else none
def zjc (P:Program) (vars:List Nat):List Operand->List TypeId->Option (List (List Nat×Opd))
 | x::xs,t::ts=>(zan vars x).bind fun y=>(zjc P vars xs ts).map fun r=>((zpp P t).getD [],y)::r
 | [],[]=>some []
 | _,_=>none
def ydm:BinOp->Bool
 | .eql=>true
 | .neq=>true
 | _=>false
def zu6:BinOp->Bool
 | .neq=>true
 | _=>false
def zyt (P:Program) (op:BinOp) (t:TypeId) (x y:Opd):Option IOp :=
 match P.underlying t with
 | some .bool=>if ydm op then some (.eqb (zu6 op) [.b] x y) else none
 | some (.struct _)=>if ydm op && !P.eqGuardType P.depth t then (zh4 P 4 t).bind fun ks=>if 2<=ks.length then some (.eqb (zu6 op) ks x y) else none else none
 | some (.int _)=>some (.bin op x y)
 | some .string=>some (.bin op x y)
 | _=>none
def zo9 (i:TypeInfo):Bool:=match i.zero with
 | some z=>z.cells.size == i.size
 | none=>false
def zue (vars:List Nat) (places:List (Nat×Nat)):List (Nat×Operand)->Option (List (Nat×Nat×Opd))
 | []=>some []
 | q::qs=>(places[q.1]?).bind fun p=>(zan vars q.2).bind fun x=>(zue vars places qs).map ((p.1,p.2,x) :: ·)
def zjg (vars:List Nat):List (Nat×Operand)->Option (List (Nat×Opd))
 | []=>some []
 | q::qs=>(zan vars q.2).bind fun x=>(zjg vars qs).map ((q.1,x) :: ·)
def zbq (P:Program) (vars:List Nat) (o:Op):Option IOp :=
 match o with
 | .move x=>(zan vars x).map .mv
 | .assign x=>(zan vars x).map .mv
 | .pick c a b=>(zan vars c).bind fun c=>(zan vars a).bind fun a=>(zan vars b).map fun b => .pick c a b
 | .alloc t=>(zo5 P t).map .alloc
 | .box _ x=>(zan vars x).map .box
 | .build t parts =>
  match P.underlying t with
  | some (.struct fs)=>(zo5 P t).bind fun z=>(fs.toList.mapM fun f=>(P.info? f.type).map fun i=>(f.offset,i.size)).bind fun places =>
   (zue vars places parts.toList).map fun ps => .build z ps
  | _=>none
 | .buildSlice t n parts =>
  match P.underlying t with
  | some (.slice e)=>(zdf P e).bind fun s=>(zo4 P e).bind fun z =>
   (zjg vars parts.toList).bind fun ps =>
    if n*s<=16777216/\z.length=s/\0<s then some (.bslice n s z ps) else none
  | _=>none
 | .load t a=>(ze8 P t).bind fun ag=>(zdf P t).bind fun s=>(zan vars a).bind fun a=>if ag || s == 1 then some (.load ag s a) else none
 | .store t a x=>(zpp P t).bind fun l=>(zan vars a).bind fun a=>(zan vars x).map fun x => .store l a x
 | .nilCheck x=>(zan vars x).map .nilc
 | .binOp op t x y _=>(zan vars x).bind fun x=>(zan vars y).bind fun y=>zyt P op t x y
 | .unOp op _ x=>(zan vars x).map fun x => .un op x
 | .convert src dst x =>
  match P.underlying src,P.underlying dst with
  | some (.int _),some (.int k)=>(zan vars x).map fun x => .convI k x
  | some (.slice e),some .string=>match P.underlying e with
   | some (.int .u8)=>(zan vars x).map .toS
   | _=>none
  | _,_=>none
 | .makeFunc (.func f) first caps=>if first.size=0 then (caps.toList.mapM (zan vars)).map fun cs => .mkfn f cs else none
 | .makeSlice t l c =>
  match P.underlying t with
  | some (.slice e)=>(P.info? e).bind fun i=>(zo4 P e).bind fun z=>(zan vars l).bind fun l=>(zan vars c).bind fun c =>
    if z.length=i.size/\0<i.size/\i.size<=i.bytes then some (.mksl i.bytes i.size z l c) else none
  | _=>none
 | .slice t x lo hi mx =>
  match P.underlying t with
  | some (.slice e)=>(zdf P e).bind fun s=>(zan vars x).bind fun x=>(zgx vars lo).bind fun lo=>(zgx vars hi).bind fun hi=>(zgx vars mx).map fun mx => .slice s x lo hi mx
  | some .string=>if mx.isNone then (zan vars x).bind fun x=>(zgx vars lo).bind fun lo=>(zgx vars hi).map fun hi => .sliceS x lo hi else none
  | _=>none
 | .fieldAddr s x f =>
  match P.underlying s with
  | some (.struct fs)=>(fs[f]?).bind fun f=>(zdf P f.type).bind fun z=>(zan vars x).bind fun x=>if z≠0 then some (.faddr f.offset x) else none
  | _=>none
 | .indexAddr t x i =>
  match P.underlying t with
  | some (.slice e)=>(zdf P e).bind fun s=>(zan vars x).bind fun x=>(zan vars i).map fun i => .iaddr s x i
  | _=>none
 | .index t x i =>
  match P.underlying t with
  | some .string=>(zan vars x).bind fun x=>(zan vars i).map fun i => .idx x i
  | _=>none
 | .extract x i=>(zan vars x).map fun x => .ext i x
 | .call c =>
  match c.callee with
  | .value (.func f)=>(zjc P vars c.args.toList c.argTypes.toList).map fun l => .call f l
  | .value g=>(zan vars g).bind fun g=>(zjc P vars c.args.toList c.argTypes.toList).map fun l => .callv g l
  | .builtin .len =>
   match c.args.toList,c.argTypes.toList with
   | [x],[t]=>match P.underlying t with
    | some (.slice _)=>(zan vars x).map .len
    | some .string=>(zan vars x).map .lenS
    | _=>none
   | _,_=>none
  | .builtin .append =>
   match c.args.toList,c.argTypes.toList with
   | [s,x],[t,u]=>match P.underlying t,P.underlying u with
    | some (.slice e),some (.slice _)=>(P.info? e).bind fun i=>(zan vars s).bind fun s=>(zan vars x).bind fun x=>if 0<i.size/\i.size<=i.bytes/\zo9 i=true then some (.app i.bytes i.size s x) else none
    | some (.slice e),some .string=>(P.info? e).bind fun i=>(zan vars s).bind fun s=>(zan vars x).bind fun x=>if i.size=1/\i.bytes=1/\zo9 i=true then some (.appS s x) else none
    | _,_=>none
   | _,_=>none
  | .builtin .max =>
   match c.args.toList with
   | [x,y]=>(zan vars x).bind fun x=>(zan vars y).map fun y => .mx true x y
   | _=>none
  | .builtin .min =>
   match c.args.toList with
   | [x,y]=>(zan vars x).bind fun x=>(zan vars y).map fun y => .mx false x y
   | _=>none
  | _=>none
 | _=>none
def zh0 (vars:List Nat) (nt:Nat):Option Tmp->Option (Option Dst)
 | none=>some none
 | some k=>if k<nt then some (some (if vars.contains k then .V k else .E k)) else none
def zxu (vars:List Nat) (ops:Array Oper):Option (Nat×Bool)->Option (Option (Opd×Bool))
 | none=>some none
 | some (j,want)=>((ops[j]?).bind (·.dst)).map fun k=>some (if vars.contains k then .V k else .E k,want)
def zu4 (P:Program) (vars:List Nat) (nt:Nat) (ops:Array Oper) (o:Oper):Option zad :=
 (zbq P vars o.op).bind fun op=>(zh0 vars nt o.dst).bind fun d=>(zxu vars ops o.guard).map fun g => { dst:=d,op:=op,guard:=g }
def zil (P:Program) (vars:List Nat) (nt:Nat) (ops:Array Oper):List Oper->Option (List zad)
 | []=>some []
 | o::os=>(zu4 P vars nt ops o).bind fun x=>(zil P vars nt ops os).map (x :: ·)
def zmi (ms:List Nat):List Edge->Nat
 | []=>0
 | e::es=>if Region.binds .any e then (2 ^ e.on ||| ms.getD e.on 0) ||| zmi ms es else zmi ms es
def zbx:List Oper->List Nat->List Nat
 | [],ms=>ms
 | o::os,ms=>zbx os (ms++[zmi ms o.after.toList])
def zel (ms:List Nat) (i j:Nat):Bool:=(ms.getD i 0).testBit j
def zf0:IOp->Bool
 | .mv _=>true
 | .pick .. => true
 | .build .. => true
 | .bin .. => true
 | .eqb .. => true
 | .un .. => true
 | .convI .. => true
 | .mkfn .. => true
 | .sliceS .. => true
 | .idx .. => true
 | .ext .. => true
 | .lenS .. => true
 | .mx .. => true
 | _=>false
def zow:Option Opd->List Opd
 | none=>[]
 | some x=>[x]
def IOp.opds:IOp->List Opd
 | .mv x=>[x]
 | .pick c a b=>[c,a,b]
 | .alloc _=>[]
 | .box x=>[x]
 | .build _ ps=>ps.map fun q=>q.2.2
 | .bslice _ _ _ ps=>ps.map fun q=>q.2
 | .allocL _=>[]
 | .mvL x=>[x]
 | .bsliceL _ _ _ ps=>ps.map fun q=>q.2
 | .load _ _ a=>[a]
 | .store _ a x=>[a,x]
 | .nilc x=>[x]
 | .bin _ x y=>[x,y]
 | .eqb _ _ x y=>[x,y]
 | .un _ x=>[x]
 | .convI _ x=>[x]
 | .toS x=>[x]
 | .mkfn _ caps=>caps
 | .mksl _ _ _ l c=>[l,c]
 | .slice _ x lo hi m=>x::(zow lo++zow hi++zow m)
 | .sliceS x lo hi=>x::(zow lo++zow hi)
 | .faddr _ x=>[x]
 | .iaddr _ x i=>[x,i]
 | .idx x i=>[x,i]
 | .ext _ x=>[x]
 | .call _ args=>args.map fun q=>q.2
 | .callv g args=>g::args.map fun q=>q.2
 | .len x=>[x]
 | .lenS x=>[x]
 | .app _ _ s x=>[s,x]
 | .appS s x=>[s,x]
 | .mx _ x y=>[x,y]
def zut:Option (Opd×Bool)->List Opd
 | none=>[]
 | some (y,_)=>[y]
def zad.opds (o:zad):List Opd:=zut o.guard++o.op.opds
def Dst.code:Dst->Nat
 | .V k=>2*k
 | .E k=>2*k+1
def zxk (o:zad):Option Nat:=o.dst.map Dst.code
def Opd.code:Opd->Option Nat
 | .V k=>some (2*k)
 | .E k=>some (2*k+1)
 | .C _=>none
def zeo (ios:List zad) (j:Nat):Bool:=match ios[j]? with
 | some o => !quiet o.op
 | none=>false
def zeq:IOp->Bool
 | .allocL _=>true
 | .bsliceL .. => true
 | _=>false
def zf4:IOp->IOp
 | .alloc z => .allocL z
 | .bslice n sz z ps => .bsliceL n sz z ps
 | o=>o
def z90:IOp->Bool
 | .alloc _=>true
 | .bslice .. => true
 | _=>false
def z8u (ms:List Nat) (ios:List zad):List zad:=ios.zipIdx.map fun q =>
 if z90 q.1.op && (List.range q.2).any (fun j=>zeo ios j && !zel ms q.2 j) then { q.1 with op:=zf4 q.1.op } else q.1
def lzB (ios:List zad) (j:Nat):Bool:=match ios[j]? with
 | some o=>zeq o.op
 | none=>false
def zkt (ios:List zad) (k:Nat):Bool:=zeo ios k && !lzB ios k
def bOf (ms:List Nat) (ios:List zad) (o:zad) (i:Nat):Nat :=
 if quiet o.op && !zf0 o.op then (List.range i).countP (zeo ios)-(List.range ios.length).countP (fun j=>zeo ios j && zel ms i j) else 0
def upB (ms:List Nat) (ios:List zad) (i j:Nat):Bool := !zel ms j i && (!lzB ios j || (List.range ios.length).any fun k=>decide (j<k) && zkt ios k && !zel ms k i)
def wOf (ms:List Nat) (ios:List zad) (o:zad) (i:Nat):Nat :=
 if quiet o.op && !zf0 o.op then (List.range ios.length).countP (fun j=>zeo ios j && upB ms ios i j)-(List.range i).countP (zeo ios) else 0
def bws (ms:List Nat) (ios:List zad):List (zad×Nat×Nat):=ios.zipIdx.map fun q=>(q.1,bOf ms ios q.1 q.2,wOf ms ios q.1 q.2)
def zo7 (md:Region.Mode) (rk:Nat->Nat) (ops:List Oper):Bool :=
 ops.zipIdx.all fun q=>q.1.after.toList.all fun e => !Region.binds md e || (decide (e.on<ops.length) && decide (rk e.on<rk q.2))
def yo2 (e:Edge):Bool:=match e.ground with
 | .gcOnly _=>true
 | _=>false
def yu7 (ops:List Oper):Bool:=ops.any fun o=>o.after.toList.any yo2
def yso (es:List (List Nat)):Nat->List Nat->List Nat
 | 0,done=>done
 | n+1,done=>match (List.range es.length).find? (fun i => !done.contains i && (es.getD i []).all done.contains) with
  | some i=>yso es n (done++[i])
  | none=>done
def qen (ops:List Oper):Nat->Nat :=
 fun i=>(yso (ops.map fun o=>(o.after.toList.filter (Region.binds .gc)).map (·.on)) ops.length []).idxOf i
def ypd (ms:List Nat) (ios:List zad):Bool :=
 ios.zipIdx.all fun q=>q.1.opds.all fun y=>match y.code with
  | some c=>ios.zipIdx.all fun p => !(zxk p.1 == some c) || (zel ms q.2 p.2 || (zf0 q.1.op && zel ms p.2 q.2))
  | none=>true
def ys3 (ms:List Nat) (ios:List zad):Bool :=
 (List.range ios.length).all fun j => !zkt ios j || (List.range j).all fun i => !zeo ios i || zel ms j i
def ycv (ms:List Nat) (ios:List zad):Bool :=
 (List.range ios.length).all fun j => !lzB ios j || ((List.range ios.length).any (fun k=>decide (j<k) && zkt ios k) &&
  (List.range ios.length).all fun i => !zel ms i j || (!lzB ios i && (zeo ios i || (List.range ios.length).any fun k=>decide (j<k) && zkt ios k && zel ms i k)))
def dOk (rk:Nat->Nat) (ops:List Oper) (ios:List zad) (ms:List Nat):Bool :=
 (List.range ms.length).all (fun i=>decide (ms.getD i 0<2 ^ i)) && zes (ios.filterMap zxk) && ypd ms ios && ys3 ms ios && ycv ms ios &&
  zo7 .text rk ops && (!yu7 ops || zo7 .gc (qen ops) ops)
def qfx:IOp->IOp
 | .mv x => .mvL x
 | o=>o
def qcf:IOp->Bool
 | .mv _=>true
 | _=>false
def z84 (b:Bool) (ms:List Nat) (ios:List zad):List zad:=ios.zipIdx.map fun q =>
 if b && qcf q.1.op && (List.range q.2).any (fun j=>lzB ios j && zel ms q.2 j) && (List.range q.2).all (fun j => !zeo ios j || zel ms q.2 j) then { q.1 with op:=qfx q.1.op } else q.1
def ziv (b:Bool) (ms:List Nat) (ios:List zad):List zad:=z84 b ms (z8u ms ios)
def z96 (P:Program) (vars:List Nat) (nt:Nat) (b:Bool) (rk:Nat->Nat) (ops:Array Oper):Option IC :=
 (zil P vars nt ops ops.toList).bind fun ios =>
  if dOk rk ops.toList (ziv b (zbx ops.toList []) ios) (zbx ops.toList []) then some (.regD (bws (zbx ops.toList []) (ziv b (zbx ops.toList []) ios))) else none
def yqp (ord:List Nat) (e:Edge):Edge := { e with on:=ord.idxOf e.on }
def z89 (ord:List Nat) (o:Oper):Oper := { o with after:=o.after.map (yqp ord),guard:=o.guard.map fun g=>(ord.idxOf g.1,g.2) }
def zga (ops:Array Oper) (ord:List Nat):Array Oper:=(ord.map fun i=>z89 ord (ops.getD i default)).toArray
def z8e (n:Nat) (ord:List Nat):Bool:=ord.length == n && (List.range n).all ord.contains && ord.all (fun i=>decide (i<n)) && (List.range n).all (fun k=>ord.idxOf (ord.getD k 0) == k)
def yea (ops:List Oper) (es:List (List Nat)) (late:Oper->Bool):Nat->List Nat->List Nat
 | 0,done=>done
 | n+1,done =>
  let rdy:=(List.range ops.length).filter fun i => !done.contains i && (es.getD i []).all done.contains
  match rdy.find? (fun i => !((ops[i]?).map late).getD false) with
  | some i=>yea ops es late n (done++[i])
  | none=>match rdy with
   | i::_=>yea ops es late n (done++[i])
   | []=>done
def qh6 (o:Oper):Bool:=match o.op with
 | .buildSlice .. => true
 | _=>false
def ydy (ops:List Oper):List Nat:=yea ops (ops.map fun o=>(o.after.toList.filter (Region.binds .any)).map (·.on)) qh6 ops.length []
def yee (P:Program) (vars:List Nat) (nt:Nat) (ops:Array Oper):Option IC :=
 match z96 P vars nt false id ops with
 | some x=>some x
 | none=>if z8e ops.size (ydy ops.toList) then z96 P vars nt true (fun k=>(ydy ops.toList).getD k 0) (zga ops (ydy ops.toList)) else none
def zeg (P:Program) (vars:List Nat) (nt:Nat):Code->Option IC
 | .skip=>some .skip
 | .region _ ops draw=>if draw then yee P vars nt ops else (zil P vars nt ops ops.toList).map .reg
 | .seq a b=>(zeg P vars nt a).bind fun a=>(zeg P vars nt b).map fun b => .seq a b
 | .cond c x y=>(zan vars c).bind fun c=>(zeg P vars nt x).bind fun x=>(zeg P vars nt y).map fun y => .cond c x y
 | .block id c=>(zeg P vars nt c).map fun c => .block id c
 | .loop c=>(zeg P vars nt c).map .loop
 | .exit id=>some (.exit id)
 | .ret=>some .ret
 | _=>none
def z9t (P:Program) (vars:List Nat) (r:ResultVar) (t:TypeId):Option RV :=
 match r with
 | .tmp k=>(zpp P t).bind fun l=>if vars.contains k then some (.tmp l k) else none
 | .cell k u=>(zpp P u).bind fun l=>(ze8 P u).bind fun ag=>if vars.contains k && (ag || l.length == 1) then some (.cell l k ag) else none
def ziz (P:Program) (vars:List Nat):List ResultVar->List TypeId->Option (List RV)
 | r::rs,t::ts=>(z9t P vars r t).bind fun x=>(ziz P vars rs ts).map (x :: ·)
 | [],[]=>some []
 | _,_=>none
end Go.Pe
namespace Go.Pe
open Go
variable {st:St} {k:IntKind} {x:Value} {m:Nat->List Bool} {R:zak} {b:Int} {i s o ep lo ce e n j f sz id io:Nat} {l:List (Nat×PV)} {es:List (List PV)} {cs caps:List PV} {p:Option (Nat×Nat)} {args xs:List (List Nat×PV)} {r:List RV} {ms:List Bool} {d:Sub} {ag:Bool}
abbrev ki (n:Int):Opd := .C (.v (.int .i64 n))
abbrev kb (b:Bool):Opd := .C (.v (.bool b))
abbrev iv (n:Int):PV := .v (.int .i64 n)
abbrev oE (n:Nat) (o:IOp):zad:=⟨some (.E n),o,none⟩
abbrev mV (n k:Nat):zad:=⟨some (.E n),.mv (.V k),none⟩
abbrev vE (n k:Nat):zad:=⟨some (.V n),.mv (.E k),none⟩
abbrev xE (n i k:Nat):zad:=⟨some (.E n),.ext i (.E k),none⟩
abbrev oV (n:Nat) (o:IOp):zad:=⟨some (.V n),o,none⟩
abbrev oN (o:IOp):zad:=⟨none,o,none⟩
abbrev bv (b:Bool):PV := .v (.bool b)
abbrev zaa (ic:IC) (rv:List RV) (ms:List Bool):Fun := .code ⟨ms,rv,ic⟩
@[simp] theorem qs3 (k:Nat):Opd.get st (.V k)=st.V k:=rfl
@[simp] theorem qt6 (k:Nat):Opd.get st (.E k)=st.E k:=rfl
@[simp] theorem qzq (x:PV):Opd.get st (.C x)=x:=rfl
@[simp] theorem q3c (x:PV):st.put none x=st:=rfl
@[simp] theorem qdx (st:St) (k:Nat) (x:PV):st.put (some (.V k)) x = { st with V:=upd st.V k x }:=rfl
@[simp] theorem qgf (st:St) (k:Nat) (x:PV):st.put (some (.E k)) x = { st with E:=upd st.E k x }:=rfl
@[simp] theorem zar {α:Type} (f:Nat->α) (k:Nat) (x:α) (i:Nat):upd f k x i=if i=k then x else f i:=rfl
@[simp] theorem q1m (x:Opd):zag m R st (.mv x)=some (x.get st,st):=rfl
@[simp] theorem qxt (c a b:Opd):zag m R st (.pick c a b)=(zgu (c.get st)).map fun t=>(if t then a.get st else b.get st,st):=rfl
@[simp] theorem qtc (z:List PV):zag m R st (.alloc z)=some (zby st z):=rfl
@[simp] theorem qhm (m:Nat->List Bool) (R:zak) (st:St) (x:Opd):zag m R st (.box x)=if (cellsOf (x.get st)).all zcw then some (zby st (cellsOf (x.get st))) else none:=rfl
@[simp] theorem q62 (z:List PV) (ps:List (Nat×Nat×Opd)):zag m R st (.build z ps)=(zg6 z (ps.map fun q=>(q.1,q.2.1,q.2.2.get st))).map fun cs=>(.agg cs,st):=rfl
@[simp] theorem qe0 (m:Nat->List Bool) (R:zak) (st:St) (n sz:Nat) (z:List PV) (ps:List (Nat×Opd)):zag m R st (.bslice n sz z ps)=if (zc1 st (zbz st ps)).any fun q=>(cellsOf q.2).any isF then (zib z (List.replicate n (z.map fz)) (zc1 st (zbz st ps))).map fun es=>zho (zda st (zbz st ps)) sz es else (zc9 (zda st (zbz st ps)) z (List.replicate n z) (zc1 st (zbz st ps))).map fun q=>newRow q.2 sz q.1:=rfl
@[simp] theorem qvh:zc1 st []=[]/\zda st []=st:=⟨rfl,rfl⟩
@[simp] theorem q38:zc1 st ((i,.v x)::l)=(i,.v x)::l:=by cases l <;> rfl
@[simp] theorem qqy:zda st ((i,.v x)::l)=st:=by cases l <;> rfl
@[simp] theorem q5p:zc1 st ((i,.e0)::l)=(i,.e0)::l:=by cases l <;> rfl
@[simp] theorem qwk:zda st ((i,.e0)::l)=st:=by cases l <;> rfl
@[simp] theorem qwx:zc1 st ((i,.sl s es)::l)=(i,.sl s es)::l:=by cases l <;> rfl
@[simp] theorem q46:zda st ((i,.sl s es)::l)=st:=by cases l <;> rfl
@[simp] theorem qrb:zc1 st ((i,.agg cs)::l)=(i,.agg cs)::l:=by cases l <;> rfl
@[simp] theorem q6b:zda st ((i,.agg cs)::l)=st:=by cases l <;> rfl
@[simp] theorem q14 (o ep lo len:Nat):zc1 st ((i,.ref o none ep lo len)::l)=(i,.ref o none ep lo len)::l:=by cases l <;> rfl
@[simp] theorem q0t (o ep lo len:Nat):zda st ((i,.ref o none ep lo len)::l)=st:=by cases l <;> rfl
@[simp] theorem qz7:zc1 st ((i,.own s es)::l)=(i,.own s es)::l:=by cases l <;> rfl
@[simp] theorem qxb:zda st ((i,.own s es)::l)=st:=by cases l <;> rfl
@[simp] theorem qur (p q:Nat×PV):zc1 st (p::q::l)=p::q::l:=by
 obtain ⟨i,x⟩:=p; cases x <;> first | rfl | (rename_i o p _ _ _; cases p <;> rfl)
@[simp] theorem q6z (p q:Nat×PV):zda st (p::q::l)=st:=by
 obtain ⟨i,x⟩:=p; cases x <;> first | rfl | (rename_i o p _ _ _; cases p <;> rfl)
@[simp] theorem qvn (i o a b ep lo len:Nat):zc1 st [(i,.ref o (some (a,b)) ep lo len)]=(zkg st.ep a b ep lo len (st.S o)).elim [(i,.ref o (some (a,b)) ep lo len)] fun r=>[(i,.sl r.1.1 r.1.2)]:=rfl
@[simp] theorem qu3 (i o a b ep lo len:Nat):zda st [(i,.ref o (some (a,b)) ep lo len)]=(zkg st.ep a b ep lo len (st.S o)).elim st fun r => { st with S:=upd st.S o (some r.2),ep:=st.ep+1 }:=rfl
@[simp] theorem qyd (ce a b ep lo len s:Nat):zkg ce a b ep lo len (some (.row s es))=if ep=ce then (zbv es a b).map fun r=>((r.1,cut r.2 lo len),.rowF s (es.map fun e=>e.map fz)) else none:=rfl
@[simp] theorem q43 (S:Nat->Option Ob):yem S o=zfz (S o):=rfl
@[simp] theorem qzr:zfz none=none:=rfl
@[simp] theorem q1e:zfz (some (.row s es))=some (.row s es):=rfl
@[simp] theorem q65:zfz (some (.rowF s es))=some (.rowF s es):=rfl
@[simp] theorem q6j:zfz (some (.box cs))=some (.box cs):=rfl
@[simp] theorem qvd:zfz (some (.shadow s es e))=none:=rfl
@[simp] theorem qw0 (x:Opd):zag m R st (.mvL x)=some (x.get st,st):=rfl
@[simp] theorem q6a (z:List PV):zag m R st (.allocL z)=some (zby st z):=rfl
@[simp] theorem qcb (m:Nat->List Bool) (R:zak) (st:St) (n sz:Nat) (z:List PV) (ps:List (Nat×Opd)):zag m R st (.bsliceL n sz z ps)=(zc9 st z (List.replicate n z) (zbz st ps)).map fun q=>newRow q.2 sz q.1:=rfl
@[simp] theorem qgn (m:Nat->List Bool) (R:zak) (st:St) (ag:Bool) (sz:Nat) (a:Opd):zag m R st (.load ag sz a)=(loadCells st sz (a.get st)).bind fun cs=>(zkq ag cs).map fun x=>(x,st):=rfl
@[simp] theorem qfc (m:Nat->List Bool) (R:zak) (st:St) (szs:List Nat) (a x:Opd):zag m R st (.store szs a x)=(storeAt st szs (a.get st) (x.get st)).map fun st=>(.undef,st):=rfl
@[simp] theorem qx5 (x:Opd):zag m R st (.nilc x)=(zio st (x.get st)).map fun r=>(r,st):=rfl
@[simp] theorem qx4 (op:BinOp) (x y:Opd):zag m R st (.bin op x y)=(zmf op (x.get st) (y.get st)).map fun r=>(r,st):=rfl
@[simp] theorem q2p (n:Bool) (ks:List Kd) (x y:Opd):zag m R st (.eqb n ks x y)=(eqP ks (x.get st) (y.get st)).map fun b=>(.v (.bool (b != n)),st):=rfl
@[simp] theorem qwd (op:UnOp) (x:Opd):zag m R st (.un op x)=(unP op (x.get st)).map fun r=>(r,st):=rfl
@[simp] theorem qtt (x:Opd):zag m R st (.convI k x)=(zhl (x.get st)).map fun n=>(.v (.int k (k.wrap n)),st):=rfl
@[simp] theorem qf3 (m:Nat->List Bool) (R:zak) (st:St) (x:Opd):zag m R st (.toS x)=(zfb st (x.get st)).bind fun r=>(zi4 r.2).map fun l=>(.v (.string ⟨l.toArray⟩),st):=rfl
@[simp] theorem qiv (m:Nat->List Bool) (R:zak) (st:St) (f:Nat) (caps:List Opd):zag m R st (.mkfn f caps)=if (caps.map (Opd.get st)).all zpm then some (.fn f (caps.map (Opd.get st)),st) else none:=rfl
@[simp] theorem qzs:zpm (.ptr o p ep i j)=true:=rfl
@[simp] theorem q02:zpm (.fptr cs j)=true:=rfl
@[simp] theorem qbt (m:Nat->List Bool) (R:zak) (st:St) (b sz:Nat) (z:List PV) (l c:Opd):zag m R st (.mksl b sz z l c)=(zbu (l.get st)).bind fun n=>(zbu (c.get st)).bind fun m=>if n<=m/\zah b m then some (newRow st sz (List.replicate n z)) else none:=rfl
@[simp] theorem qfa (m:Nat->List Bool) (R:zak) (st:St) (sz:Nat) (x:Opd) (lo hi mx:Option Opd):zag m R st (.slice sz x lo hi mx)=(zbk st lo).bind fun l=>(zbk st hi).bind fun h=>(zbk st mx).bind fun m=>(zki st sz (x.get st) l h m).map fun r=>(r,st):=rfl
@[simp] theorem qw2 (off:Nat) (x:Opd):zag m R st (.faddr off x)=(zic st off (x.get st)).map fun r=>(r,st):=rfl
@[simp] theorem qif (m:Nat->List Bool) (R:zak) (st:St) (sz:Nat) (x i:Opd):zag m R st (.iaddr sz x i)=(zbu (i.get st)).bind fun k=>(iaddr st sz k (x.get st)).map fun r=>(r,st):=rfl
@[simp] theorem qdh (m:Nat->List Bool) (R:zak) (st:St) (x i:Opd):zag m R st (.idx x i)=(zcv (x.get st)).bind fun s=>(zbu (i.get st)).bind fun k=>(s[k]?).map fun b=>(.v (.int .u8 (b.toNat:Int)),st):=rfl
@[simp] theorem q4l (x:Opd):zag m R st (.ext i x)=(zmh i (x.get st)).map fun r=>(r,st):=rfl
@[simp] theorem quz (args:List (List Nat×Opd)):zag m R st (.call f args)=zdl m R st f (args.map fun q=>(q.1,q.2.get st)):=rfl
@[simp] theorem qs5 (g:Opd) (args:List (List Nat×Opd)):zag m R st (.callv g args)=zpk m R st (args.map fun q=>(q.1,q.2.get st)) (g.get st):=rfl
@[simp] theorem q12:zpk m R st args (.fn f caps)=zdl m R st f (args++caps.map fun c=>([],c)):=rfl
@[simp] theorem q5t (x:Opd):zag m R st (.len x)=(lenOf st (x.get st)).map fun (n:Nat)=>(.v (.int .i64 (n:Int)),st):=rfl
@[simp] theorem qy3 (b sz:Nat) (s x:Opd):zag m R st (.app b sz s x)=zku st b sz (s.get st) (x.get st):=rfl
@[simp] theorem qtu (big:Bool) (x y:Opd):zag m R st (.mx big x y)=(mxP big (x.get st) (y.get st)).map fun r=>(r,st):=rfl
@[simp] theorem qtm:zdj m R [] st=some st:=rfl
@[simp] theorem qdn (m:Nat->List Bool) (R:zak) (st:St) (d:Option Dst) (op:IOp) (os:List zad):zdj m R (⟨d,op,none⟩::os) st=(zag m R st op).bind fun r=>zdj m R os (r.2.put d r.1):=by simp [zdj,zcs]
@[simp] theorem qcj (m:Nat->List Bool) (R:zak) (st:St) (d:Option Dst) (op:IOp) (g:Opd) (w:Bool) (os:List zad):zdj m R (⟨d,op,some (g,w)⟩::os) st=(zih w (g.get st)).bind fun t=>if t then (zag m R st op).bind fun r=>zdj m R os (r.2.put d r.1) else zdj m R os (st.put d (.v Go.undef)):=rfl
@[simp] theorem qtk (w b:Bool):zih w (.v (.bool b))=some (b == w):=rfl
@[simp] theorem q0z (w:Bool):zih w (.v Go.undef)=some false:=rfl
@[simp] theorem q1j:evL m R .skip st=some (.normal,st):=rfl
@[simp] theorem qin (m:Nat->List Bool) (R:zak) (st:St) (ops:List zad):evL m R (.reg ops) st=(zdj m R ops { st with E:=fun _ => .undef }).map fun st=>(.normal,st):=rfl
@[simp] theorem ysa (m:Nat->List Bool) (R:zak) (st:St) (a b:IC):evL m R (.seq a b) st=(evL m R a st).bind (Ex.go (evL m R b)):=rfl
@[simp] theorem qhh (m:Nat->List Bool) (R:zak) (st:St) (c:Opd) (x y:IC):evL m R (.cond c x y) st=(zgu (c.get st)).bind fun t=>if t then evL m R x st else evL m R y st:=rfl
@[simp] theorem qjr (m:Nat->List Bool) (R:zak) (st:St) (id:Nat) (c:IC):evL m R (.block id c) st=(evL m R c st).map (Ex.out id):=rfl
theorem z93 (m:Nat->List Bool) (R:zak) (st:St) (c:IC):evL m R (.loop c) st=(evL m R c st).bind (Ex.go (evL m R (.loop c))):=qd7 _ _
@[simp] theorem qzg:evL m R (.exit id) st=some (.exit id,st):=rfl
@[simp] theorem qzi:evL m R .ret st=some (.ret,st):=rfl
@[simp] theorem qrf (k:St->Option (Ex×St)):Ex.go k (.normal,st)=k st:=rfl
@[simp] theorem q29 (k:St->Option (Ex×St)):Ex.go k (.exit i,st)=some (.exit i,st):=rfl
@[simp] theorem q3n (k:St->Option (Ex×St)):Ex.go k (.ret,st)=some (.ret,st):=rfl
@[simp] theorem q40:Ex.out id (.exit i,st)=(if i=id then .normal else .exit i,st):=rfl
@[simp] theorem qy1:Ex.out id (.normal,st)=(.normal,st):=rfl
@[simp] theorem qyj:Ex.out id (.ret,st)=(.ret,st):=rfl
@[simp] theorem qr4 (k:St->Option (List PV×List PV)):Ex.fin k (.normal,st)=k st:=rfl
@[simp] theorem q1q (k:St->Option (List PV×List PV)):Ex.fin k (.ret,st)=k st:=rfl
@[simp] theorem qsi (b:Bool):zgu (.v (.bool b))=some b:=rfl
@[simp] theorem q5s (n:Int):zhl (.v (.int k n))=some n:=rfl
@[simp] theorem qxg (s:ByteArray):zcv (.v (.string s))=some s:=rfl
@[simp] theorem qbw (k:IntKind) (n:Nat):zbu (.v (.int k (n:Int)))=some n:=by simp [zbu,zhl]
@[simp] theorem q2n:zbu (.v (.int k 0))=some 0:=by simp [zbu,zhl]
@[simp] theorem q0q (op:BinOp) (a b:Value):zmf op (.v a) (.v b)=(zbb op a b).map .v:=rfl
@[simp] theorem q1y (op:UnOp) (a:Value):unP op (.v a)=(unV op a).map .v:=rfl
@[simp] theorem yd9 (k:IntKind) (a b:Int):zbb .add (.int k a) (.int k b)=some (.int k (k.wrap (a+b))):=by simp [zbb]
@[simp] theorem q6c (a b:Int):zbb .sub (.int k a) (.int k b)=some (.int k (k.wrap (a-b))):=by simp [zbb]
@[simp] theorem yes (k:IntKind) (a b:Int):zbb .mul (.int k a) (.int k b)=some (.int k (k.wrap (a*b))):=by simp [zbb]
@[simp] theorem q5f (a b:Int):zbb .eql (.int k a) (.int k b)=some (.bool (decide (a=b))):=by simp [zbb]; rfl
@[simp] theorem qye (a b:Int):zbb .neq (.int k a) (.int k b)=some (.bool (!decide (a=b))):=by simp [zbb]; rfl
@[simp] theorem qrq (a b:Int):zbb .lss (.int k a) (.int k b)=some (.bool (decide (a<b))):=by simp [zbb]
@[simp] theorem qwy (a b:Int):zbb .leq (.int k a) (.int k b)=some (.bool (decide (a<=b))):=by simp [zbb]
@[simp] theorem qwc (a b:Int):zbb .gtr (.int k a) (.int k b)=some (.bool (decide (a > b))):=by simp [zbb]
@[simp] theorem qvo (a b:Int):zbb .geq (.int k a) (.int k b)=some (.bool (decide (a ≥ b))):=by simp [zbb]
@[simp] theorem yel (k:IntKind) (a b:Int):zbb .and (.int k a) (.int k b)=some (.int k (k.wrap (BitVec.ofInt k.bits a &&& BitVec.ofInt k.bits b).toNat)):=by simp [zbb]
@[simp] theorem qw3 (a b:Int):zbb .or (.int k a) (.int k b)=some (.int k (k.wrap (BitVec.ofInt k.bits a ||| BitVec.ofInt k.bits b).toNat)):=by simp [zbb]
@[simp] theorem q0c (a b:Int):zbb .xor (.int k a) (.int k b)=some (.int k (k.wrap (BitVec.ofInt k.bits a ^^^ BitVec.ofInt k.bits b).toNat)):=by simp [zbb]
@[simp] theorem qs2 (a b:Int):zbb .quo (.int k a) (.int k b)=if b≠0 then some (.int k (k.wrap (a.tdiv b))) else none:=by simp [zbb]
@[simp] theorem qtn (a b:Int):zbb .rem (.int k a) (.int k b)=if b≠0 then some (.int k (a.tmod b)) else none:=by simp [zbb]
@[simp] theorem yqd (k k':IntKind) (a b:Int):zbb .shl (.int k a) (.int k' b)=if 0<=b then some (.int k (k.wrap (a*2 ^ min b.toNat k.bits))) else none:=by simp [zbb]
@[simp] theorem yb5 (k k':IntKind) (a b:Int):zbb .shr (.int k a) (.int k' b)=if 0<=b then some (.int k (a.fdiv (2 ^ min b.toNat k.bits))) else none:=by simp [zbb]
@[simp] theorem qz6 (a b:ByteArray):zbb .add (.string a) (.string b)=if ((a.size+b.size:Nat):Int)<=IntKind.i64.max then some (.string (a++b)) else none:=by simp [zbb]
@[simp] theorem qv3 (a b:ByteArray):zbb .eql (.string a) (.string b)=some (.bool (a.toList == b.toList)):=by simp [zbb]
@[simp] theorem qyf (a b:ByteArray):zbb .neq (.string a) (.string b)=some (.bool !(a.toList == b.toList)):=by simp [zbb]
@[simp] theorem quh (a:Int):unV .neg (.int k a)=some (.int k (k.wrap (0-a))):=rfl
@[simp] theorem q4g (b:Bool):unV .not (.bool b)=some (.bool !b):=rfl
@[simp] theorem q4o:newRow st sz es=(.ref st.nx none st.ep 0 es.length,{ st with S:=upd st.S st.nx (some (.row sz es)),nx:=st.nx+1 }):=rfl
@[simp] theorem q53:zho st sz es=(.ref st.nx none st.ep 0 es.length,{ st with S:=upd st.S st.nx (some (.rowF sz es)),nx:=st.nx+1 }):=rfl
@[simp] theorem qqo:zby st cs=(.ptr st.nx none st.ep 0 0,{ st with S:=upd st.S st.nx (some (.box cs)),nx:=st.nx+1 }):=rfl
@[simp] theorem q21:ze9 st o p ep=zau st.ep (st.S o) p ep:=rfl
@[simp] theorem zit (ce sz:Nat) (es:List (List PV)) (ep:Nat):zau ce (some (.row sz es)) none ep=some (sz,es):=rfl
@[simp] theorem zfd (ce sz:Nat) (es:List (List PV)) (ep:Nat) (i j:Nat):zau ce (some (.row sz es)) (some (i,j)) ep=if ep=ce then zbv es i j else none:=rfl
@[simp] theorem ybw (ce sz:Nat) (es:List (List PV)) (ep:Nat):zau ce (some (.rowF sz es)) none ep=some (sz,es):=rfl
@[simp] theorem zx6 (ce sz:Nat) (es:List (List PV)) (ep:Nat) (e:Nat):zau ce (some (.shadow sz es e)) none ep=if e=ce then some (sz,es) else none:=rfl
@[simp] theorem q6k:zau ce none p ep=none:=rfl
@[simp] theorem qy6 (lo len:Nat):cut es lo len=if lo=0/\len=es.length then es else (es.drop lo).take len:=rfl
@[simp] theorem q0l:zfb st (.sl sz es)=some (sz,es):=rfl
@[simp] theorem q25 (ep lo len:Nat):zfb st (.ref o p ep lo len)=(ze9 st o p ep).map fun r=>(r.1,cut r.2 lo len):=rfl
@[simp] theorem q16:fz (.v x) = .v x:=rfl
@[simp] theorem qrj:fz (.own sz es) = .sl sz es:=rfl
@[simp] theorem qqe:fz (.sl sz es) = .sl sz es:=rfl
@[simp] theorem qs7:rd o ep i j (.v x) = .v x:=rfl
@[simp] theorem qqv:rd o ep i j (.own sz es) = .ref o (some (i,j)) ep 0 es.length:=rfl
@[simp] theorem qv6:zhd o ep i j []=[]:=rfl
@[simp] theorem q1n (c:PV):zhd o ep i j (c::cs)=rd o ep i j c::zhd o ep i (j+1) cs:=rfl
@[simp] theorem qxc:rdV (.v x) = .v x:=rfl
@[simp] theorem qrt:seg cs j sz=if j+sz<=cs.length then some ((cs.drop j).take sz) else none:=rfl
@[simp] theorem yqg (cs:List PV):zkq true cs=some (.agg cs):=rfl
@[simp] theorem yoa (c:PV):zkq false [c]=some c:=rfl
@[simp] theorem qdk (st:St) (sz:Nat) (cs:List PV) (j:Nat):loadCells st sz (.fptr cs j)=(seg cs j sz).map (·.map fz):=rfl
@[simp] theorem qf2 (st:St) (sz o:Nat) (p:Option (Nat×Nat)) (ep i j:Nat):loadCells st sz (.ptr o p ep i j)=zh5 st.ep o sz (st.S o) p ep i j:=rfl
@[simp] theorem qii (ce o sz:Nat) (cs:List PV) (ep i j:Nat):zh5 ce o sz (some (.box cs)) none ep i j=if i=0 then seg cs j sz else none:=rfl
@[simp] theorem qgr (ce o sz:Nat) (s:Nat) (es:List (List PV)) (ep i j:Nat):zh5 ce o sz (some (.row s es)) none ep i j=(es[i]?).bind fun cs=>(seg cs j sz).map (zhd o ce i j):=rfl
@[simp] theorem qbn (ce o sz:Nat) (s:Nat) (es:List (List PV)) (a b ep i j:Nat):zh5 ce o sz (some (.row s es)) (some (a,b)) ep i j=if ep=ce then (zbv es a b).bind fun r=>(r.2[i]?).bind fun cs=>(seg cs j sz).map (·.map rdV) else none:=rfl
@[simp] theorem qc4 (ce o sz:Nat) (s:Nat) (es:List (List PV)) (ep i j:Nat):zh5 ce o sz (some (.rowF s es)) none ep i j=(es[i]?).bind fun cs=>(seg cs j sz).map (·.map fz):=rfl
@[simp] theorem qff (ce o sz:Nat) (s:Nat) (es:List (List PV)) (e ep i j:Nat):zh5 ce o sz (some (.shadow s es e)) none ep i j=if e=ce then (es[i]?).bind fun cs=>(seg cs j sz).map (·.map rdV) else none:=rfl
@[simp] theorem qzl:cellsOf (.agg cs)=cs:=rfl
@[simp] theorem q6u:cellsOf (.v x)=[.v x]:=rfl
@[simp] theorem qxm  : cellsOf (.e0)=[.e0]:=rfl
@[simp] theorem q61:cellsOf (.sl sz es)=[.sl sz es]:=rfl
@[simp] theorem q0f (ep lo len:Nat):cellsOf (.ref o p ep lo len)=[.ref o p ep lo len]:=rfl
@[simp] theorem yc9 (st:St) (sz:Nat) (x:Value):zfh st sz (.v x)=if okV x then some (.v x,st) else none:=rfl
@[simp] theorem qi8 (st:St) (sz:Nat):zfh st sz .e0=some (.own sz [],st):=rfl
@[simp] theorem qjn (st:St) (sz o:Nat) (p:Option (Nat×Nat)) (ep lo len:Nat):zfh st sz (.ref o p ep lo len)=zf6 st o (st.S o) p lo len:=rfl
@[simp] theorem qgk (st:St) (o s:Nat) (es:List (List PV)) (lo len:Nat):zf6 st o (some (.row s es)) none lo len=if lo=0/\len=es.length then some (.own s es,{ st with S:=upd st.S o (some (.shadow s es st.ep)) }) else none:=rfl
@[simp] theorem ydk (st:St) (sz:Nat) (szs:List Nat) (c:PV) (cs:List PV):zdk st (sz::szs) (c::cs)=(zfh st sz c).bind fun r=>(zdk r.2 szs cs).bind fun q=>some (r.1::q.1,q.2):=rfl
@[simp] theorem qw1:zdk st [] []=some ([],st):=rfl
@[simp] theorem qsl:toF sz (.v x)=if okV x then some (.v x) else none:=rfl
@[simp] theorem q07:toF sz .e0=some (.sl sz []):=rfl
@[simp] theorem qxz:toF sz (.sl s es)=some (.sl s es):=rfl
@[simp] theorem q34 (szs:List Nat) (c:PV):ze3 (sz::szs) (c::cs)=(toF sz c).bind fun x=>(ze3 szs cs).bind fun xs=>some (x::xs):=rfl
@[simp] theorem q5n  : ze3 [] []=some []:=rfl
@[simp] theorem qyk (b:Bool):okV (.bool b)=true:=rfl
@[simp] theorem qxf (n:Int):okV (.int k n)=true:=rfl
@[simp] theorem qqw (s:ByteArray):okV (.string s)=true:=rfl
@[simp] theorem q1f:zcw (.v x)=okV x:=rfl
@[simp] theorem qt8  : zcw .e0=true:=rfl
@[simp] theorem qqh:zcw (.sl sz es)=true:=rfl
@[simp] theorem qts (ep lo len:Nat):zcw (.ref o p ep lo len)=true:=rfl
@[simp] theorem q54:zej (.v x)=okV x:=rfl
@[simp] theorem q0b:isF (.v x)=false:=rfl
@[simp] theorem q1l  : isF .e0=false:=rfl
@[simp] theorem qrp:isF (.sl sz es)=true:=rfl
@[simp] theorem qws:isF (.own sz es)=false:=rfl
@[simp] theorem qzw (ep lo len:Nat):isF (.ref o p ep lo len)=false:=rfl
@[simp] theorem qvs:isV (.v x)=true:=rfl
@[simp] theorem q50  : isV .e0=false:=rfl
@[simp] theorem qrw:isV (.sl sz es)=false:=rfl
@[simp] theorem q5l:isV (.own sz es)=false:=rfl
@[simp] theorem qra (ep lo len:Nat):isV (.ref o p ep lo len)=false:=rfl
@[simp] theorem q18:zdp (.v x)=okV x:=by simp [zdp,zej,isF]
@[simp] theorem q03:zdp (.sl sz es)=true:=rfl
@[simp] theorem qs6 (xs:List PV):over cs j xs=cs.take j++xs++cs.drop (j+xs.length):=rfl
@[simp] theorem qsf (szs:List Nat) (a x:PV):storeAt st szs a x=zuf st szs (cellsOf x) a:=rfl
@[simp] theorem q3l (szs:List Nat) (xs:List PV):zuf st szs xs (.ptr o p ep i j)=if xs.length=szs.length then ze7 st szs xs o (st.S o) p ep i j else none:=rfl
@[simp] theorem qyr (szs:List Nat) (xs:List PV):ze7 st szs xs o (some (.box cs)) none ep i j=if i=0/\j+xs.length<=cs.length/\xs.all zcw then some { st with S:=upd st.S o (some (.box (over cs j xs))) } else none:=rfl
@[simp] theorem qsz (szs:List Nat) (xs:List PV):ze7 st szs xs o (some (.row s es)) none ep i j=(match zi2 xs with | some d=>zxn st o i j d s es | none=>(zdk st szs xs).bind fun r=>zim r.2 o i j r.1 (r.2.S o)):=rfl
@[simp] theorem qup:zi2 [.v x]=none:=rfl
@[simp] theorem qqp:zi2 [.e0]=none:=rfl
@[simp] theorem qyg (o ep lo len:Nat):zi2 [.ref o none ep lo len]=none:=rfl
@[simp] theorem qwg (q:Nat×Nat) (ep lo len:Nat):zi2 [.ref o (some q) ep lo len]=some (o,q,ep,lo,len):=rfl
@[simp] theorem q1p (a b:PV) (l:List PV):zi2 (a::b::l)=none:=by
 cases a with
 | ref o p ep lo len=>cases p <;> rfl
 | _=>rfl
@[simp] theorem q3e (o2:Nat) (q:Nat×Nat) (ep lo len:Nat):zxn st o i j (o2,q,ep,lo,len) s es=if o2=o/\q=(i,j)/\ep=st.ep then (zbv es i j).bind fun r=>if lo+len<=r.2.length then some { st with S:=upd st.S o (some (.row s (zb2 es i j (.own r.1 (cut r.2 lo len))))),ep:=st.ep+1 } else none else none:=rfl
@[simp] theorem q60 (szs:List Nat) (xs:List PV) (a b ep i j:Nat):ze7 st szs xs o (some (.row s es)) (some (a,b)) ep i j=if ep=st.ep/\xs.all zej then (zbv es a b).bind fun q=>(q.2[i]?).bind fun cs=>if j+xs.length<=cs.length then some { st with S:=upd st.S o (some (.row s (zb2 es a b (.own q.1 (q.2.set i (over cs j xs)))))),ep:=st.ep+1 } else none else none:=rfl
@[simp] theorem qq8 (szs:List Nat) (xs:List PV):ze7 st szs xs o (some (.rowF s es)) none ep i j=(ze3 szs xs).bind fun ys=>(es[i]?).bind fun cs=>if j+ys.length<=cs.length then some { st with S:=upd st.S o (some (.rowF s (es.set i (over cs j ys)))) } else none:=rfl
@[simp] theorem qzj (ys:List PV):zim st o i j ys (some (.row s es))=(es[i]?).bind fun cs=>if j+ys.length<=cs.length then some { st with S:=upd st.S o (some (.row s (es.set i (over cs j ys)))),ep:=if ys.all isV && ((cs.drop j).take ys.length).all isV then st.ep else st.ep+1 } else none:=rfl
@[simp] theorem qt1:zpd (.own sz es)=sz:=rfl
@[simp] theorem q5g:zpd (.v x)=0:=rfl
@[simp] theorem q0j (z:List PV):zc9 st z es []=some (es,st):=rfl
@[simp] theorem qqr (z:List PV) (x:PV) (r:List (Nat×PV)):zc9 st z es ((i,x)::r)=(zdk st (z.map zpd) (cellsOf x)).bind fun q=>if i<es.length then zc9 q.2 z (es.set i q.1) r else none:=rfl
@[simp] theorem q5q (z:List PV):zib z es []=some es:=rfl
@[simp] theorem q2f (z:List PV) (x:PV) (r:List (Nat×PV)):zib z es ((i,x)::r)=(ze3 (z.map zpd) (cellsOf x)).bind fun ys=>if i<es.length then zib z (es.set i ys) r else none:=rfl
@[simp] theorem qq2:zg6 cs []=some cs:=rfl
@[simp] theorem q5m (off sz:Nat) (x:PV) (r:List (Nat×Nat×PV)):zg6 cs ((off,sz,x)::r)=if (cellsOf x).length=sz/\off+sz<=cs.length/\(cellsOf x).all zcw then zg6 (over cs off (cellsOf x)) r else none:=rfl
@[simp] theorem q1w (a b:Int):eqV (.i k) (.int k a) (.int k b)=some (decide (a=b)):=by simp [eqV]; rfl
@[simp] theorem qri (a b:Bool):eqV .b (.bool a) (.bool b)=some (a == b):=rfl
@[simp] theorem qww (a b:ByteArray):eqV .s (.string a) (.string b)=some (a == b):=rfl
@[simp] theorem qyx  : zb5 [] [] []=some true:=rfl
@[simp] theorem qx0 (k:Kd) (ks:List Kd) (x y:Value) (xs ys:List PV):zb5 (k::ks) (.v x::xs) (.v y::ys)=(eqV k x y).bind fun b=>if b then zb5 ks xs ys else some false:=rfl
@[simp] theorem qvf:lenOf st .e0=some 0:=rfl
@[simp] theorem qxp:lenOf st (.sl sz es)=some es.length:=rfl
@[simp] theorem qea (st:St) (o:Nat) (p:Option (Nat×Nat)) (ep lo len:Nat):lenOf st (.ref o p ep lo len)=if (ze9 st o p ep).isSome then some len else none:=rfl
@[simp] theorem q4v:iaddr st sz i (.sl s es)=if s=sz then (es[i]?).map fun cs => .fptr cs 0 else none:=rfl
@[simp] theorem q1c (ep lo len:Nat):iaddr st sz i (.ref o p ep lo len)=(ze9 st o p ep).bind fun r=>if r.1=sz/\i<len then some (.ptr o p ep (lo+i) 0) else none:=rfl
@[simp] theorem qx8:zio st (.ptr o p ep i j)=if zhw st.ep (st.S o) p ep i then some (.ptr o p ep i j) else none:=rfl
@[simp] theorem q4s:zio st (.fptr cs j)=some (.fptr cs j):=rfl
@[simp] theorem qqf:zio st (.fn f caps)=some (.fn f caps):=rfl
@[simp] theorem qva (off o:Nat):zic st off (.ptr o p ep i j)=if zhw st.ep (st.S o) p ep i then some (.ptr o p ep i (j+off)) else none:=rfl
@[simp] theorem qzc (off:Nat):zic st off (.fptr cs j)=some (.fptr cs (j+off)):=rfl
@[simp] theorem qbx (ce:Nat) (cs:List PV) (ep i:Nat):zhw ce (some (.box cs)) none ep i=(i == 0):=rfl
@[simp] theorem qez (ce sz:Nat) (es:List (List PV)) (p:Option (Nat×Nat)) (ep i:Nat):zhw ce (some (.row sz es)) p ep i=(zau ce (some (.row sz es)) p ep).isSome:=by cases p <;> rfl
@[simp] theorem qdj (ce sz:Nat) (es:List (List PV)) (p:Option (Nat×Nat)) (ep i:Nat):zhw ce (some (.rowF sz es)) p ep i=(zau ce (some (.rowF sz es)) p ep).isSome:=by cases p <;> rfl
@[simp] theorem qgq (ce sz:Nat) (es:List (List PV)) (e:Nat) (p:Option (Nat×Nat)) (ep i:Nat):zhw ce (some (.shadow sz es e)) p ep i=(zau ce (some (.shadow sz es e)) p ep).isSome:=by cases p <;> rfl
@[simp] theorem qta (vs:List PV):zmh i (.tup vs)=vs[i]?:=rfl
@[simp] theorem qst (a b:Int):mxP true (.v (.int k a)) (.v (.int k b))=some (.v (.int k (max a b))):=by
 simp only [mxP,if_true]
 congr 3
 omega
@[simp] theorem qqg (a b:Int):mxP false (.v (.int k a)) (.v (.int k b))=some (.v (.int k (min a b))):=by
 simp only [mxP,if_true]
 congr 3
 simp;omega
@[simp] theorem qxw:zbz st []=[]:=rfl
@[simp] theorem qvm (x:Opd) (r:List (Nat×Opd)):zbz st ((i,x)::r)=(i,x.get st)::zbz st r:=rfl
@[simp] theorem qxo:zbk st none=some none:=rfl
@[simp] theorem qg5 (st:St) (y:Opd):zbk st (some y)=(zbu (y.get st)).map some:=rfl
@[simp] theorem qti:zf5 st sz .e0=some ([],false,st):=rfl
@[simp] theorem q1h (ep lo len:Nat):zf5 st sz (.ref o p ep lo len)=zgk st sz o (st.S o) p ep lo len:=rfl
@[simp] theorem q0h (ep lo len:Nat):zgk st sz o (some (.row s es)) none ep lo len=if s=sz/\lo+len=es.length then some (es.drop lo,false,{ st with S:=upd st.S o none }) else none:=rfl
@[simp] theorem q4u (i j ep lo len:Nat):zgk st sz o (some (.row s es)) (some (i,j)) ep lo len=if ep=st.ep then (zbv es i j).bind fun r=>if r.1=sz/\lo+len=r.2.length then some (r.2.drop lo,false,{ st with S:=upd st.S o (some (.row s (zb2 es i j .undef))),ep:=st.ep+1 }) else none else none:=rfl
@[simp] theorem qrc (ep lo len:Nat):zgk st sz o (some (.rowF s es)) none ep lo len=if s=sz/\lo+len=es.length then some (es.drop lo,true,{ st with S:=upd st.S o none }) else none:=rfl
@[simp] theorem qte (s:PV) (t:ByteArray):appS st s t=(zf5 st 1 s).bind fun b=>if zah 1 (b.1.length+t.size) then zg2 b.2.2 1 (b.1++zhy t) b.2.1 none else none:=rfl
@[simp] theorem qz0 (x:Opd):zag m R st (.lenS x)=(zcv (x.get st)).map fun s=>(.v (.int .i64 (s.size:Int)),st):=rfl
@[simp] theorem quk (s x:Opd):zag m R st (.appS s x)=(zcv (x.get st)).bind fun t=>appS st (s.get st) t:=rfl
@[simp] theorem q06 (x:Opd) (lo hi:Option Opd):zag m R st (.sliceS x lo hi)=(zcv (x.get st)).bind fun s=>(zbk st lo).bind fun l=>(zbk st hi).bind fun h=>(sliceS s l h).map fun r=>(r,st):=rfl
@[simp] theorem qd2 (s:ByteArray) (lo hi:Option Nat):sliceS s lo hi=if lo.getD 0<=hi.getD s.size/\hi.getD s.size<=s.size then some (.v (.string (s.extract (lo.getD 0) (hi.getD s.size)))) else none:=rfl
@[simp] theorem qvb (sz l h:Nat):zuo st sz l h .e0=some .e0:=rfl
@[simp] theorem qgh (st:St) (sz l h s:Nat) (es:List (List PV)):zuo st sz l h (.sl s es)=if s=sz then some (.sl s ((es.drop l).take (h-l))) else none:=rfl
@[simp] theorem qev (st:St) (sz l h o:Nat) (p:Option (Nat×Nat)) (ep lo n:Nat):zuo st sz l h (.ref o p ep lo n)=(ze9 st o p ep).bind fun r=>if r.1=sz then some (.ref o p ep (lo+l) (h-l)) else none:=rfl
@[simp] theorem qjd (st:St) (sz:Nat) (x:PV) (lo hi:Option Nat):zki st sz x lo hi none=(lenOf st x).bind fun n=>if lo.getD 0<=hi.getD n/\hi.getD n<=n then zuo st sz (lo.getD 0) (hi.getD n) x else none:=rfl
@[simp] theorem qfj (st:St) (sz:Nat) (x:PV) (lo hi:Option Nat) (m:Nat):zki st sz x lo hi (some m)=(lenOf st x).bind fun n=>if m=0/\hi=some 0/\lo.getD 0=0/\0<=n then some .e0 else none:=rfl
@[simp] theorem qya:zf3 st sz .e0=some ([],none,st):=rfl
@[simp] theorem qx2:zf3 st sz (.sl s es)=if s=sz/\zch es then some (es,none,st) else none:=rfl
@[simp] theorem qqz (ep lo len:Nat):zf3 st sz (.ref o p ep lo len)=(ze9 st o p ep).bind fun r=>if r.1=sz then if zch (cut r.2 lo len) then some (cut r.2 lo len,none,st) else zg8 st o (st.S o) p lo len else none:=rfl
@[simp] theorem q64 (lo len:Nat):zg8 st o (some (.row s es)) none lo len=if lo=0/\len=es.length then some (es,some false,{ st with S:=upd st.S o none }) else none:=rfl
@[simp] theorem qwb (lo len:Nat):zg8 st o (some (.rowF s es)) none lo len=some (cut es lo len,some true,st):=rfl
@[simp] theorem qqk:zg2 st sz es false none=some (newRow st sz es):=rfl
@[simp] theorem qrr:zg2 st sz es false (some false)=some (newRow st sz es):=rfl
@[simp] theorem qz1:zg2 st sz es true none=some (zho st sz es):=rfl
@[simp] theorem qux:zg2 st sz es true (some true)=some (zho st sz es):=rfl
@[simp] theorem qr5 (b sz:Nat) (s x:PV):zku st b sz s x=(zf3 st sz x).bind fun m=>(zf5 m.2.2 sz s).bind fun q=>if zah b (q.1.length+m.1.length) then zg2 q.2.2 sz (q.1++m.1) q.2.1 m.2.1 else none:=rfl
@[simp] theorem qv1  : zch []=true:=rfl
@[simp] theorem qx7 (e:List PV):zch (e::es)=(e.all isV && zch es):=rfl
@[simp] theorem q0i:zb8 st sz (.v x)=some (.v x):=rfl
@[simp] theorem qsx:zb8 st sz .e0=some (.sl sz []):=rfl
@[simp] theorem q6y:zb8 st sz (.sl s es)=some (.sl s es):=rfl
@[simp] theorem qvv (ep lo len:Nat):zb8 st sz (.ref o p ep lo len)=(ze9 st o p ep).map fun r => .sl r.1 (cut r.2 lo len):=rfl
@[simp] theorem qtf:zb8 st sz (.fptr cs j)=some (.fptr cs j):=rfl
@[simp] theorem qwu:zb8 st sz (.ptr o p ep i j)=ziy (st.S o) p i j:=rfl
@[simp] theorem qzy:ziy (some (.box cs)) none i j=if i=0/\cs.all zdp then some (.fptr cs j) else none:=rfl
@[simp] theorem q2x (szs:List Nat) (c:PV):zez st (sz::szs) (c::cs)=(zb8 st sz c).bind fun x=>(zez st szs cs).bind fun xs=>some (x::xs):=rfl
@[simp] theorem qxn (c:PV):zez st [] (c::cs)=(zb8 st 0 c).bind fun x=>(zez st [] cs).bind fun xs=>some (x::xs):=rfl
@[simp] theorem q5h (szs:List Nat):zez st szs []=some []:=by cases szs <;> rfl
@[simp] theorem q5w (szs:List Nat):zcp st szs (.agg cs)=(zez st szs cs).map .agg:=rfl
@[simp] theorem q1d (szs:List Nat):zcp st szs (.fn f caps)=(zez st [] caps).map (.fn f):=rfl
@[simp] theorem q51 (szs:List Nat):zcp st szs (.v x)=zb8 st (szs.headD 0) (.v x):=rfl
@[simp] theorem qrl (szs:List Nat):zfp st szs (.v x)=zdi st (szs.headD 0) (.v x):=rfl
@[simp] theorem q42 (szs:List Nat)  : zcp st szs (.e0)=zb8 st (szs.headD 0) (.e0):=rfl
@[simp] theorem q1i (szs:List Nat)  : zfp st szs (.e0)=zdi st (szs.headD 0) (.e0):=rfl
@[simp] theorem q3y (szs:List Nat):zcp st szs (.sl sz es)=zb8 st (szs.headD 0) (.sl sz es):=rfl
@[simp] theorem qxe (szs:List Nat) (ep lo len:Nat):zcp st szs (.ref o p ep lo len)=zb8 st (szs.headD 0) (.ref o p ep lo len):=rfl
@[simp] theorem q49 (szs:List Nat) (ep lo len:Nat):zfp st szs (.ref o p ep lo len)=zdi st (szs.headD 0) (.ref o p ep lo len):=rfl
@[simp] theorem qu1 (szs:List Nat):zcp st szs (.fptr cs j)=zb8 st (szs.headD 0) (.fptr cs j):=rfl
@[simp] theorem qwj (szs:List Nat):zcp st szs (.ptr o p ep i j)=zb8 st (szs.headD 0) (.ptr o p ep i j):=rfl
@[simp] theorem qu6 (szs:List Nat):zfp st szs (.ptr o p ep i j)=zdi st (szs.headD 0) (.ptr o p ep i j):=rfl
@[simp] theorem q6x (szs:List Nat):zfp st szs (.agg cs)=(zgm st szs cs).map fun q=>(.agg q.1,q.2):=rfl
@[simp] theorem qy8:zdi st sz (.v x)=some (.v x,[]):=rfl
@[simp] theorem q5y:zdi st sz .e0=some (.own sz [],[.e0]):=rfl
@[simp] theorem qtv (ep lo len:Nat):zdi st sz (.ref o none ep lo len)=zmu o ep lo len (st.S o):=rfl
@[simp] theorem qzu:zdi st sz (.ptr o p ep i j)=zkh o ep (st.S o) p i j:=rfl
@[simp] theorem qtq (o ep lo len s:Nat):zmu o ep lo len (some (.row s es))=if lo=0/\len=es.length then some (.own s es,[.ref o none ep lo len]) else none:=rfl
@[simp] theorem q31:zkh o ep (some (.box cs)) none i j=if i=0/\j=0/\cs.all zdp then some (.bx cs,[.ptr o none ep 0 0]) else none:=rfl
@[simp] theorem qsj (szs:List Nat) (c:PV):zgm st (sz::szs) (c::cs)=(zdi st sz c).bind fun r=>(zgm st szs cs).bind fun q=>some (r.1::q.1,r.2++q.2):=rfl
@[simp] theorem q6g (szs:List Nat):zgm st szs []=some ([],[]):=by cases szs <;> rfl
@[simp] theorem q08:zcx st ms []=some ([],[]):=by cases ms <;> rfl
@[simp] theorem qx3 (szs:List Nat) (x:PV):zcx st [] ((szs,x)::xs)=(zcp st szs x).bind fun y=>(zcx st [] xs).bind fun q=>some (y::q.1,q.2):=rfl
@[simp] theorem qyv (szs:List Nat) (x:PV):zcx st (true::ms) ((szs,x)::xs)=(zfp st szs x).bind fun r=>(zcx st ms xs).bind fun q=>some (r.1::q.1,r.2++q.2):=rfl
@[simp] theorem q57 (szs:List Nat) (x:PV):zcx st (false::ms) ((szs,x)::xs)=(zcp st szs x).bind fun y=>(zcx st ms xs).bind fun q=>some (y::q.1,q.2):=by simp only [zcx,Bool.false_eq_true,if_false]; cases zcp st szs x <;> rfl
@[simp] theorem q2t:root (.v x)=[]:=rfl
@[simp] theorem qyu:zdw (.v x)=[]:=rfl
@[simp] theorem qw7  : root (.e0)=[]:=rfl
@[simp] theorem qvg  : zdw (.e0)=[]:=rfl
@[simp] theorem qwt:root (.sl sz es)=[]:=rfl
@[simp] theorem qu5:zdw (.sl sz es)=[]:=rfl
@[simp] theorem q4a (ep lo len:Nat):root (.ref o p ep lo len)=[o]:=rfl
@[simp] theorem qzf (ep lo len:Nat):zdw (.ref o p ep lo len)=[o]:=rfl
@[simp] theorem q22:root (.ptr o p ep i j)=[o]:=rfl
@[simp] theorem qsa:zdw (.ptr o p ep i j)=[o]:=rfl
@[simp] theorem q0u:root (.fptr cs j)=[]:=rfl
@[simp] theorem qy5:zdw (.fptr cs j)=[]:=rfl
@[simp] theorem q5c:zdw (.agg cs)=cs.flatMap root:=rfl
@[simp] theorem qvw:zdw (.fn f cs)=cs.flatMap root:=rfl
@[simp] theorem qqn  : zes []=true:=rfl
@[simp] theorem q05 (x:Nat) (xs:List Nat):zes (x::xs)=(!xs.any (fun y=>decide (y=x)) && zes xs):=rfl
@[simp] theorem qre:zex (.own sz es)=true:=rfl
@[simp] theorem q24:zex (.bx cs)=false:=rfl
@[simp] theorem qrg (o len s:Nat) (es':List (List PV)):putRow st o len s es' (some (.row sz es)) none=if es'.length=len/\s=sz/\es.length=len then some { st with S:=upd st.S o (some (.row sz es')) } else none:=rfl
@[simp] theorem q2c (cs' cs:List PV):zpn st o cs' (some (.box cs))=if cs'.length=cs.length then some { st with S:=upd st.S o (some (.box cs')) } else none:=rfl
@[simp] theorem q4d:zex .undef=true:=rfl
@[simp] theorem q56:zcr st .e0 .undef=some st:=rfl
@[simp] theorem qyw (ep lo len:Nat):zcr st (.ref o p ep lo len) .undef=zo8 st o (st.S o):=rfl
@[simp] theorem q2y:zo8 st o (some (.row sz es))=some { st with S:=upd st.S o none }:=rfl
@[simp] theorem q4b:zcr st .e0 (.own sz es)=if es.length=0 then some st else none:=rfl
@[simp] theorem q1g (ep lo len s:Nat) (es':List (List PV)):zcr st (.ref o p ep lo len) (.own s es')=putRow st o len s es' (st.S o) p:=rfl
@[simp] theorem qum (cs':List PV):zcr st (.ptr o p ep i j) (.bx cs')=zpn st o cs' (st.S o):=rfl
@[simp] theorem qul:zet st [] []=some st:=rfl
@[simp] theorem qxs (t:PV) (ts:List PV) (o:PV) (os:List PV):zet st (t::ts) (o::os)=(zcr st t o).bind fun st=>zet st ts os:=rfl
@[simp] theorem q6v (z:Bool):zdd st z (.v x)=some (.v x,st):=rfl
@[simp] theorem q1u (z:Bool):zdd st z (.sl sz es)=if z then none else some (.sl sz es,st):=rfl
@[simp] theorem qu4 (z:Bool):zdd st z (.own sz es)=some (newRow st sz es):=rfl
@[simp] theorem q6s (z:Bool):zdd st z (.bx cs)=if z && cs.any isF then none else some (zby st cs):=rfl
@[simp] theorem q3s (z:Bool):zgl st z []=some ([],st):=rfl
@[simp] theorem qwn (z:Bool) (c:PV):zgl st z (c::cs)=(zdd st z c).bind fun r=>(zgl r.2 z cs).bind fun q=>some (r.1::q.1,q.2):=rfl
@[simp] theorem qu9 (z:Bool):zfc st z (.agg cs)=(zgl st z cs).map fun q=>(.agg q.1,q.2):=rfl
@[simp] theorem quq (z:Bool):zfc st z (.v x)=zdd st z (.v x):=rfl
@[simp] theorem q2i (z:Bool):zfc st z (.sl sz es)=zdd st z (.sl sz es):=rfl
@[simp] theorem qqm (z:Bool):zfc st z (.own sz es)=zdd st z (.own sz es):=rfl
@[simp] theorem q3a (z:Bool):zfc st z (.bx cs)=zdd st z (.bx cs):=rfl
@[simp] theorem qz4 (z:Bool):zfo st z []=some ([],st):=rfl
@[simp] theorem qvi (z:Bool) (c:PV):zfo st z (c::cs)=(zfc st z c).bind fun r=>(zfo r.2 z cs).bind fun q=>some (r.1::q.1,q.2):=rfl
@[simp] theorem qxu (x:PV):zoz [x]=x:=rfl
@[simp] theorem qyy  : zoz [] = .tup []:=rfl
@[simp] theorem qrz (x y:PV) (r:List PV):zoz (x::y::r) = .tup (x::y::r):=rfl
@[simp] theorem qt2  : zeh []=[]:=rfl
@[simp] theorem q3r (szs:List Nat) (x:PV) (r:List (List Nat×PV)):zeh ((szs,x)::r)=zdw x++zeh r:=rfl
@[simp] theorem qvx (all:List Nat):zxo [] all=true:=rfl
@[simp] theorem qsy (r all:List Nat):zxo (o::r) all=(decide ((all.filter fun y=>decide (y=o)).length=1) && zxo r all):=rfl
@[simp] theorem qxk:zks (some (.row sz es))=false:=rfl
@[simp] theorem qzp:zks (some (.rowF sz es))=false:=rfl
@[simp] theorem qxv:zks (some (.box cs))=false:=rfl
@[simp] theorem q2v:zks (some (.shadow sz es e))=true:=rfl
@[simp] theorem qvy  : zks none=false:=rfl
@[simp] theorem qrd:zh3 st []=true:=rfl
@[simp] theorem qvk (os:List Nat):zh3 st (o::os)=(!zks (st.S o) && zh3 st os):=rfl
@[simp] theorem qwl  : zxp []=true:=rfl
@[simp] theorem qwq (x:PV) (xs:List PV):zxp (x::xs)=false:=rfl
@[simp] theorem quv (k:Kd) (x y:Value):eqP [k] (.v x) (.v y)=eqV k x y:=rfl
@[simp] theorem qzv (fl:Bool):zg3 fl false st=st:=rfl
@[simp] theorem q10:zg3 false true st = { st with ep:=st.ep+1 }:=rfl
@[simp] theorem q19:zg3 true true st = { st with S:=yem st.S }:=rfl
@[simp] theorem qzt:zyi (.own s es)=zch es:=rfl
@[simp] theorem q0x:zyi (.bx cs)=true:=rfl
@[simp] theorem qrh:z79 (.bx cs)=cs.any isF:=rfl
@[simp] theorem qxr:z79 (.own sz es)=false:=rfl
@[simp] theorem qq5 (hs:List PV):zhe args hs=((zeh args).length != (hs.flatMap root).length):=rfl
@[simp] theorem qql:ze6 m R st f args=(zcx st (m f) args).bind fun a=>if zxo (a.2.flatMap root) (zeh args) && (zxp a.2 || zh3 st (zeh args)) then (R f a.1).bind fun r=>if zhe args a.2 && r.2.any z79 || decide (args.length<(m f).length) && !r.2.all zyi then none else (zet st a.2 r.2).bind fun st1=>(zfo (zg3 (decide (args.length<(m f).length)) (r.2.any zex) st1) (zhe args a.2) r.1).map fun q=>(zoz q.1,q.2) else none:=rfl
@[simp] theorem q4p:zdl m R st f args=zgq (zef st (m f) args) (ze6 m R st f args) (zi6 m R st f args):=rfl
@[simp] theorem qw4 {α β:Type} (y:Option β) (k:α->Option β):zgq none y k=y:=rfl
@[simp] theorem q3o {α β:Type} (x:α) (y:Option β) (k:α->Option β):zgq (some x) y k=k x:=rfl
@[simp] theorem qtj (q:List Nat×PV):zef st (true::ms) (q::xs)=zgq (zgs st (cellsOf q.2)) (zef st ms xs) some:=rfl
@[simp] theorem qxx (q:List Nat×PV):zef st (false::ms) (q::xs)=zef st ms xs:=rfl
@[simp] theorem q32:zef st [] xs=none:=by cases xs <;> rfl
@[simp] theorem qx1:zef st ms []=none:=by cases ms with | nil=>rfl | cons b ms=>cases b <;> rfl
@[simp] theorem q3b:cellsOf (.ptr o p ep i j)=[.ptr o p ep i j]:=rfl
@[simp] theorem qq4:cellsOf (.fptr cs j)=[.fptr cs j]:=rfl
@[simp] theorem q1v:cellsOf (.fn f cs)=[.fn f cs]:=rfl
@[simp] theorem q6o:zgs st []=none:=rfl
@[simp] theorem qzx (c:PV):zgs st (c::cs)=zgq (zfn st c) (zgs st cs) some:=rfl
@[simp] theorem q6i:zfn st (.v x)=none:=rfl
@[simp] theorem q1a:zfn st .e0=none:=rfl
@[simp] theorem qx9:zfn st .undef=none:=rfl
@[simp] theorem q0n:zfn st (.sl sz es)=none:=rfl
@[simp] theorem q2b:zfn st (.fptr cs j)=none:=rfl
@[simp] theorem qvz:zfn st (.ptr o p ep i j)=none:=rfl
@[simp] theorem q2h:zfn st (.fn f cs)=none:=rfl
@[simp] theorem q2s (o ep lo len:Nat):zfn st (.ref o none ep lo len)=none:=rfl
@[simp] theorem qxy (o i j ep lo len:Nat):zfn st (.ref o (some (i,j)) ep lo len)=zhx st.ep o i j ep lo len (st.S o):=rfl
@[simp] theorem q2r (ce o i j ep lo len sz:Nat):zhx ce o i j ep lo len (some (.row sz es))=if ep=ce then (zbv es i j).bind fun r=>if lo=0/\len=r.2.length then some ⟨o,i,j,sz,es,r.1,r.2⟩ else none else none:=rfl
@[simp] theorem q4x (ce o i j ep lo len:Nat):zhx ce o i j ep lo len (some (.box cs))=none:=rfl
@[simp] theorem qtx (ce o i j ep lo len sz:Nat):zhx ce o i j ep lo len (some (.rowF sz es))=none:=rfl
@[simp] theorem q3k (ce o i j ep lo len:Nat):zhx ce o i j ep lo len none=none:=rfl
@[simp] theorem qtz (ep lo len:Nat):zgj d n e (.ref o p ep lo len)=if o=d.o/\p=some (d.i,d.j)/\ep=e then .ref n none (e+1) lo len else .ref o p ep lo len:=rfl
@[simp] theorem qyb:zgj d n e (.v x) = .v x:=rfl
@[simp] theorem qsb:zgj d n e .e0 = .e0:=rfl
@[simp] theorem q3v:zgj d n e (.sl sz es) = .sl sz es:=rfl
@[simp] theorem que:zgj d n e (.ptr o p ep i j) = .ptr o p ep i j:=rfl
@[simp] theorem q0d:zgj d n e (.fptr cs j) = .fptr cs j:=rfl
@[simp] theorem q5j:zhh d n e (.agg cs) = .agg (cs.map (zgj d n e)):=rfl
@[simp] theorem q2l:zhh d n e (.fn f cs) = .fn f cs:=rfl
@[simp] theorem q1t:zhh d n e (.v x) = .v x:=rfl
@[simp] theorem q33:zhh d n e .e0 = .e0:=rfl
@[simp] theorem q6n:zhh d n e (.sl sz es) = .sl sz es:=rfl
@[simp] theorem q1s:zhh d n e (.ptr o p ep i j) = .ptr o p ep i j:=rfl
@[simp] theorem qyl:zhh d n e (.fptr cs j) = .fptr cs j:=rfl
@[simp] theorem q48 (ep lo len:Nat):zhh d n e (.ref o p ep lo len)=zgj d n e (.ref o p ep lo len):=rfl
@[simp] theorem q27:zkf d n e args=args.map fun q=>(q.1,zhh d n e q.2):=rfl
@[simp] theorem qw6:zb3 st d = { st with S:=upd (upd st.S d.o (some (.row d.sz (zb2 d.es d.i d.j .undef)))) st.nx (some (.row d.s2 d.es2)),nx:=st.nx+1,ep:=st.ep+1 }:=rfl
@[simp] theorem qut:zpt st n d=zpq st n d.o d.i d.j (st.S n) (st.S d.o):=rfl
@[simp] theorem q0p (es es':List (List PV)):zpq st n o i j (some (.row s es')) (some (.row sz es))=some { st with S:=upd (upd st.S n none) o (some (.row sz (zb2 es i j (.own s es')))),ep:=st.ep+1 }:=rfl
@[simp] theorem qv2:zi6 m R st f args d=if (zeh (zkf d st.nx st.ep args)).any (fun o=>o=d.o) then none else (ze6 m R (zb3 st d) f (zkf d st.nx st.ep args)).bind fun r=>(zpt r.2 st.nx d).map fun s=>(r.1,s):=rfl
@[simp] theorem qub:zcu st (.v x)=some (.v x,st):=rfl
@[simp] theorem q1x:zcu st (.sl sz es)=some (.sl sz es,st):=rfl
@[simp] theorem q0g:zcu st (.fptr cs j)=some (.fptr cs j,st):=rfl
@[simp] theorem qxl:zcu st (.own sz es)=some (newRow st sz es):=rfl
@[simp] theorem q23:zcu st (.bx cs)=some (zby st cs):=rfl
@[simp] theorem qry:zcu st (.fn f caps)=some (.fn f caps,st):=rfl
@[simp] theorem q6p:zk2 st []=some ([],st):=rfl
@[simp] theorem q3p (c:PV):zk2 st (c::cs)=(zcu st c).bind fun r=>(zk2 r.2 cs).bind fun q=>some (r.1::q.1,q.2):=rfl
@[simp] theorem q5d:zg5 st (.agg cs)=(zk2 st cs).map fun q=>(.agg q.1,q.2):=rfl
@[simp] theorem qs9:zg5 st (.v x)=zcu st (.v x):=rfl
@[simp] theorem qr2:zg5 st (.sl sz es)=zcu st (.sl sz es):=rfl
@[simp] theorem qui:zg5 st (.own sz es)=zcu st (.own sz es):=rfl
@[simp] theorem q3w:zg5 st (.bx cs)=zcu st (.bx cs):=rfl
@[simp] theorem q4k:zg5 st (.fptr cs j)=zcu st (.fptr cs j):=rfl
@[simp] theorem qy0:zg5 st (.fn f caps)=zcu st (.fn f caps):=rfl
@[simp] theorem q6l:zk1 st []=some ([],st):=rfl
@[simp] theorem q4f (c:PV):zk1 st (c::cs)=(zg5 st c).bind fun r=>(zk1 r.2 cs).bind fun q=>some (r.1::q.1,q.2):=rfl
@[simp] theorem qwp  : st0 = { V:=fun _ => .undef,E:=fun _ => .undef,S:=fun _=>none,nx:=0,ep:=0 }:=rfl
@[simp] theorem qy9 (args:List PV):zky args=(zk1 st0 args).map fun q => { q.2 with V:=fun k=>q.1.getD k .undef }:=rfl
@[simp] theorem qrv:zdg st io sz (.v x)=some (.v x):=rfl
@[simp] theorem qy2:zdg st io sz .e0=some (.own sz []):=rfl
@[simp] theorem q6t:zdg st io sz (.sl s es)=some (.sl s es):=rfl
@[simp] theorem qtd (ep lo len:Nat):zdg st io sz (.ref o p ep lo len)=zkl io o (st.S o) p lo len:=rfl
@[simp] theorem q5b:zdg st io sz (.ptr o p ep i j)=zkw io o (st.S o) p i j:=rfl
@[simp] theorem q26 (lo len:Nat):zkl io o (some (.row s es)) none lo len=if io<=o then some (.own s (cut es lo len)) else none:=rfl
@[simp] theorem q2k:zkw io o (some (.box cs)) none i j=if io<=o/\i=0/\j=0/\cs.all zdp then some (.bx cs) else none:=rfl
@[simp] theorem qsr (szs:List Nat) (c:PV):zi7 st io (sz::szs) (c::cs)=(zdg st io sz c).bind fun x=>(zi7 st io szs cs).bind fun xs=>some (x::xs):=rfl
@[simp] theorem qyq (szs:List Nat):zi7 st io szs []=some []:=by cases szs <;> rfl
@[simp] theorem q1o (szs:List Nat):zhb st io szs (.agg cs)=(zi7 st io szs cs).map .agg:=rfl
@[simp] theorem qrx (szs:List Nat):zhb st io szs (.v x)=zdg st io (szs.headD 0) (.v x):=rfl
@[simp] theorem q5x (szs:List Nat)  : zhb st io szs (.e0)=zdg st io (szs.headD 0) (.e0):=rfl
@[simp] theorem q35 (szs:List Nat):zhb st io szs (.sl sz es)=zdg st io (szs.headD 0) (.sl sz es):=rfl
@[simp] theorem q0s (szs:List Nat) (ep lo len:Nat):zhb st io szs (.ref o p ep lo len)=zdg st io (szs.headD 0) (.ref o p ep lo len):=rfl
@[simp] theorem qv9 (szs:List Nat):zhb st io szs (.ptr o p ep i j)=zdg st io (szs.headD 0) (.ptr o p ep i j):=rfl
@[simp] theorem q5i (szs:List Nat) (k:Nat):zpl st (.tmp szs k)=some (st.V k):=rfl
@[simp] theorem q30 (szs:List Nat) (k:Nat):zpl st (.cell szs k ag)=(loadCells st szs.length (st.V k)).bind (zkq ag):=rfl
@[simp] theorem q0e (szs:List Nat) (k:Nat):RV.szs (.tmp szs k)=szs:=rfl
@[simp] theorem qtg (szs:List Nat) (k:Nat):RV.szs (.cell szs k ag)=szs:=rfl
@[simp] theorem qv5:zi1 st []=some []:=rfl
@[simp] theorem qvl (r:RV) (rs:List RV):zi1 st (r::rs)=(zpl st r).bind fun x=>(zi1 st rs).bind fun xs=>some ((r.szs,x)::xs):=rfl
@[simp] theorem qs4:zk0 st io []=some []:=rfl
@[simp] theorem q37 (szs:List Nat) (x:PV) (r:List (List Nat×PV)):zk0 st io ((szs,x)::r)=(zhb st io szs x).bind fun y=>(zk0 st io r).bind fun ys=>some (y::ys):=rfl
@[simp] theorem qt4:zgd (some (.row sz es))=some (.own sz es):=rfl
@[simp] theorem quc:zgd (some (.box cs))=if cs.all zdp then some (.bx cs) else none:=rfl
@[simp] theorem qwf:zje st 0=some []:=rfl
@[simp] theorem q6f:zje st 1=(zgd (st.S 0)).map fun x=>[x]:=rfl
@[simp] theorem qqi:zje st 2=((zgd (st.S 0)).map fun x=>[x]).bind fun l=>(zgd (st.S 1)).map fun x=>l++[x]:=rfl
@[simp] theorem qzd:zun []=false:=rfl
@[simp] theorem qzm (szs:List Nat) (k:Nat):zun (.tmp szs k::r)=false:=rfl
@[simp] theorem qwm (szs:List Nat) (k:Nat):zun (.cell szs k ag::r)=false:=rfl
@[simp] theorem qvq:zun (.pl::r)=true:=rfl
@[simp] theorem q3x:zmp []=[]:=rfl
@[simp] theorem qz9 (szs:List Nat) (k:Nat):zmp (.tmp szs k::r) = .tmp szs k::r:=rfl
@[simp] theorem qtp (szs:List Nat) (k:Nat):zmp (.cell szs k ag::r) = .cell szs k ag::r:=rfl
@[simp] theorem qzb:zmp (.pl::r)=r:=rfl
@[simp] theorem q63 (q:Nat×Nat) (ep lo len:Nat):zkj d n e (.ref o (some q) ep lo len)=if o=d.o/\ep=e then (if q=(d.i,d.j) then .ref n none (e+1) lo len else .ref o (some q) (e+1) lo len) else .ref o (some q) ep lo len:=rfl
@[simp] theorem qq9 (n e o ep lo len:Nat):zkj d n e (.ref o none ep lo len) = .ref o none ep lo len:=rfl
@[simp] theorem qxd:zkj d n e (.v x) = .v x:=rfl
@[simp] theorem q2a:zkj d n e .e0 = .e0:=rfl
@[simp] theorem qt5:zuu d n e (.agg cs) = .agg (cs.map (zkj d n e)):=rfl
@[simp] theorem q3i:zuu d n e (.v x) = .v x:=rfl
@[simp] theorem qr7:zix (n+1) st xs=match zgs st (xs.flatMap fun x=>cellsOf x.2) with
  | some d=>zix n (zb3 st d) (xs.map fun q=>(q.1,zuu d st.nx st.ep q.2))
  | none=>(st,xs):=rfl
@[simp] theorem qzk:zix 0 st xs=(st,xs):=rfl
@[simp] theorem qtb:zyh io (st,xs)=if zes (xs.flatMap fun x=>zdw x.2) then (zk0 st io xs).bind fun ys=>(zje st io).map fun os=>(ys,os) else none:=rfl
@[simp] theorem qsc (rv:List RV) (ic:IC):zfr ⟨ms,rv,ic⟩ io st=(zi1 st (zmp rv)).bind fun xs=>zyh io (if zun rv then zix 2 st xs else (st,xs)):=rfl
@[simp] theorem quw (rv:List RV) (ic:IC) (args:List PV):zxy m R ⟨ms,rv,ic⟩ args=(zky args).bind fun st=>(evL m R ic st).bind (Ex.fin (zfr ⟨ms,rv,ic⟩ st.nx)):=rfl
def zu8:List Value->Option (List Value)
 | [.int .u64 x,.int .u64 y,.int .u64 c]=>if 0<=x/\0<=y/\0<=c/\c<=1 then some [.int .u64 ((x+y+c) % 18446744073709551616),.int .u64 ((x+y+c) / 18446744073709551616)] else none
 | _=>none
def zva:List Value->Option (List Value)
 | [.int .u64 x,.int .u64 y,.int .u64 b]=>if 0<=x/\0<=y/\x<18446744073709551616/\y<18446744073709551616/\0<=b/\b<=1 then some [.int .u64 ((x-y-b) % 18446744073709551616),.int .u64 (if x<y+b then 1 else 0)] else none
 | _=>none
theorem yd2 {T:zcd} {f:Nat} (hT:T f=some (.ext zu8)) {x y c:Int} (hx:0<=x) (hy:0<=y) (hc:0<=c) (hc1:c<=1) :
  RUN T f [.v (.int .u64 x),.v (.int .u64 y),.v (.int .u64 c)]=some ([.v (.int .u64 ((x+y+c) % 18446744073709551616)),.v (.int .u64 ((x+y+c) / 18446744073709551616))],[]) :=
 ynz hT (xs:=[.int .u64 x,.int .u64 y,.int .u64 c]) (if_pos ⟨hx,hy,hc,hc1⟩)
theorem yse {T:zcd} {f:Nat} (hT:T f=some (.ext zva)) {x y c:Int} (hx:0<=x) (hy:0<=y) (hx1:x<18446744073709551616) (hy1:y<18446744073709551616) (hc:0<=c) (hc1:c<=1) :
  RUN T f [.v (.int .u64 x),.v (.int .u64 y),.v (.int .u64 c)]=some ([.v (.int .u64 ((x-y-c) % 18446744073709551616)),.v (.int .u64 (if x<y+c then 1 else 0))],[]) :=
 ynz hT (xs:=[.int .u64 x,.int .u64 y,.int .u64 c]) (if_pos ⟨hx,hy,hx1,hy1,hc,hc1⟩)
theorem zaf {T:zcd} {ic:IC} {rv:List RV} (h:T f=some (zaa ic rv ms)):zac T f=ms:=by simp [zac,h,Fun.modes]
theorem zxw {T:zcd} {g:List PV->Option (List PV×List PV)} (h:T f=some (.known ms g)):zac T f=ms:=by simp [zac,h,Fun.modes]
end Go.Pe
namespace Go.Pe
open Go
variable {X:Prop} {s:St} {i x y g:Opd} {id b n sz f bk fw:Nat} {r todo:List (zad×PV×Nat)} {d:Option Dst} {op:IOp} {os:List (zad×Nat×Nat)} {w:PV} {past:List St} {o:zad} {ps:List (Nat×Nat×Opd)} {ag:Bool} {ks:List Kd} {k:IntKind} {caps:List Opd} {lo hi mx:Option Opd} {args:List (List Nat×Opd)} {Q:Ex->St->Prop}
universe u
structure Dm {α:Sort u} (a:α):Type where mk ::
def W (m:Nat->List Bool) (R:zak) (c:IC) (st:St) (Q:Ex->St->Prop) (_:Dm Q:=⟨⟩):Prop := ∃ e s,evL m R c st=some (e,s)/\Q e s
def WO (m:Nat->List Bool) (R:zak) (ops:List zad) (st:St) (K:St->Prop) (_:Dm K:=⟨⟩):Prop := ∃ s,zdj m R ops st=some s/\K s
def WD (m:Nat->List Bool) (R:zak) (ops:List (zad×Nat×Nat)) (todo:List (zad×PV×Nat)) (past:List St) (st:St) (K:St->Prop) (_:Dm K:=⟨⟩) (_:Dm past:=⟨⟩):Prop := ∃ s,evD m R ops todo past st=some s/\K s
def WI (m:Nat->List Bool) (R:zak) (op:IOp) (st:St) (K:PV->St->Prop) (_:Dm K:=⟨⟩):Prop := ∃ x s,zag m R st op=some (x,s)/\K x s
def Ob' {α:Type} (o:Option α) (K:α->Prop) (_:Dm K:=⟨⟩):Prop := ∃ a,o=some a/\K a
def Br (t:Bool) (X Y:Prop) (_:Dm X:=⟨⟩) (_:Dm Y:=⟨⟩):Prop:=(t=true->X)/\(t=false->Y)
def Cd (p X:Prop) (_:Dm X:=⟨⟩):Prop:=p/\X
def Nx (K:St->Prop) (Q:Ex->St->Prop) (_:Dm K) (_:Dm Q):Ex->St->Prop
 | .normal,s=>K s
 | e,s=>Q e s
def Bl (id:Nat) (Q:Ex->St->Prop) (_:Dm Q):Ex->St->Prop
 | .exit i,s=>if i=id then Q .normal s else Q (.exit i) s
 | e,s=>Q e s
def Fin (rv:List RV) (io:Nat) (r:List PV×List PV) (_:Dm rv) (_:Dm r) (e:Ex) (s:St):Prop:=(e = .normal\/e = .ret)/\zfr ⟨[],rv,.skip⟩ io s=some r
section
variable {m:Nat->List Bool} {R:zak}
@[simp] theorem ys9 {α:Type} {a:α} {K:α->Prop}:Ob' (some a) K=K a:=by simp [Ob']
@[simp] theorem qyp {α:Type} {K:α->Prop}:Ob' none K=False:=by simp [Ob']
@[simp] theorem qze {α:Type} {p:Prop} [Decidable p] {a b:α} {K:α->Prop}:Ob' (if p then some a else some b) K=K (if p then a else b):=by split <;> simp
@[simp] theorem ys2 {α:Type} {p:Prop} [Decidable p] {a:Option α} {K:α->Prop}:Ob' (if p then a else none) K=Cd p (Ob' a K):=by
 unfold Cd; split <;> simp_all
@[simp] theorem qix {α β:Type} {o:Option α} {f:α->Option β} {K:β->Prop}:Ob' (o.bind f) K=Ob' o (fun a=>Ob' (f a) K):=by cases o <;> simp
@[simp] theorem qec {α β:Type} {o:Option α} {f:α->β} {K:β->Prop}:Ob' (o.map f) K=Ob' o (fun a=>K (f a)):=by cases o <;> simp
@[simp] theorem qt7 {X Y:Prop}:Br true X Y=X:=by simp [Br]
@[simp] theorem qrm {X Y:Prop}:Br false X Y=Y:=by simp [Br]
@[simp] theorem qv8:Cd True X=X:=by simp [Cd]
@[simp] theorem qve:Cd False X=False:=by simp [Cd]
theorem zaw {t:Bool} {X Y:Prop} (h1:t=true->X) (h2:t=false->Y):Br t X Y:=⟨h1,h2⟩
end
section
variable {m:Nat->List Bool} {R:zak} {st:St} {Q:Ex->St->Prop} {K:St->Prop}
@[simp] theorem qsn:Nx K Q ⟨⟩ ⟨⟩ .normal s=K s:=rfl
@[simp] theorem q4w:Nx K Q ⟨⟩ ⟨⟩ .ret s=Q .ret s:=rfl
@[simp] theorem qsu {i:Nat}:Nx K Q ⟨⟩ ⟨⟩ (.exit i) s=Q (.exit i) s:=rfl
@[simp] theorem qro:Bl id Q ⟨⟩ .normal s=Q .normal s:=rfl
@[simp] theorem q1r:Bl id Q ⟨⟩ .ret s=Q .ret s:=rfl
@[simp] theorem qw9:Bl id Q ⟨⟩ (.exit id) s=Q .normal s:=by simp [Bl]
@[simp] theorem qzn:Bl 0 Q ⟨⟩ (.exit 1) s=Q (.exit 1) s:=by simp [Bl]
@[simp] theorem qzz:Bl 1 Q ⟨⟩ (.exit 0) s=Q (.exit 0) s:=by simp [Bl]
@[simp] theorem q5o {rv:List RV} {io:Nat} {r:List PV×List PV}:Fin rv io r ⟨⟩ ⟨⟩ .normal s=(zfr ⟨[],rv,.skip⟩ io s=some r):=by simp [Fin]
@[simp] theorem q0w {rv:List RV} {io:Nat} {r:List PV×List PV}:Fin rv io r ⟨⟩ ⟨⟩ .ret s=(zfr ⟨[],rv,.skip⟩ io s=some r):=by simp [Fin]
theorem yeq {c:IC} {e:Ex} (h:evL m R c st=some (e,s)):W m R c st Q=Q e s:=by
 simp only [W,h,bC,Prod.mk.injEq,eq_iff_iff];constructor
 ·rintro ⟨e,s,⟨rfl,rfl⟩,h⟩; exact h
 ·intro h; exact ⟨_,_,⟨rfl,rfl⟩,h⟩
@[simp] theorem quu:W m R .skip st Q=Q .normal st:=yeq rfl
@[simp] theorem qwe:W m R .ret st Q=Q .ret st:=yeq rfl
@[simp] theorem qs0:W m R (.exit id) st Q=Q (.exit id) st:=yeq rfl
@[simp] theorem q2d {ops:List zad}:W m R (.reg ops) st Q=WO m R ops { st with E:=fun _ => .undef } (Q .normal):=by
 simp only [W,WO,qin,bB,eq_iff_iff];constructor
 ·rintro ⟨e,s,⟨s',h1,h2⟩,h3⟩; cases h2; exact ⟨_,h1,h3⟩
 ·rintro ⟨s,h1,h2⟩; exact ⟨_,s,⟨s,h1,rfl⟩,h2⟩
@[simp] theorem q3d {ops:List (zad×Nat×Nat)}:W m R (.regD ops) st Q=WD m R ops [] [] { st with E:=fun _ => .undef } (Q .normal):=by
 simp only [W,WD,evL,bB,eq_iff_iff];constructor
 ·rintro ⟨e,s,⟨s',h1,h2⟩,h3⟩; cases h2; exact ⟨_,h1,h3⟩
 ·rintro ⟨s,h1,h2⟩; exact ⟨_,s,⟨s,h1,rfl⟩,h2⟩
@[simp] theorem qe3 {a b:IC}:W m R (.seq a b) st Q=W m R a st (Nx (fun s=>W m R b s Q) Q ⟨⟩ ⟨⟩):=by
 simp only [W,ysa,Option.bind_eq_some_iff,eq_iff_iff];constructor
 ·rintro ⟨e,s,⟨⟨e1,s1⟩,h1,h2⟩,h3⟩;refine ⟨e1,s1,h1,?_⟩;cases e1 with
  | normal=>exact ⟨e,s,h2,h3⟩
  | exit i=>cases h2; exact h3
  | ret=>cases h2; exact h3
 ·rintro ⟨e1,s1,h1,h2⟩;cases e1 with
  | normal=>obtain ⟨e,s,h3,h4⟩:=h2; exact ⟨e,s,⟨_,h1,h3⟩,h4⟩
  | exit i=>exact ⟨_,_,⟨_,h1,rfl⟩,h2⟩
  | ret=>exact ⟨_,_,⟨_,h1,rfl⟩,h2⟩
@[simp] theorem qz2 {c:Opd} {x y:IC}:W m R (.cond c x y) st Q=Ob' (zgu (c.get st)) fun t=>Br t (W m R x st Q) (W m R y st Q):=by
 simp only [W,qhh,Option.bind_eq_some_iff,Ob',Br,eq_iff_iff];constructor
 ·rintro ⟨e,s,⟨t,h1,h2⟩,h3⟩;refine ⟨t,h1,fun ht => ?_,fun ht => ?_⟩ <;> subst ht
  ·exact ⟨e,s,by simpa using h2,h3⟩
  ·exact ⟨e,s,by simpa using h2,h3⟩
 ·rintro ⟨t,h1,h2,h3⟩;cases t with
  | true=>obtain ⟨e,s,h4,h5⟩:=h2 rfl; exact ⟨e,s,⟨true,h1,by simpa using h4⟩,h5⟩
  | false=>obtain ⟨e,s,h4,h5⟩:=h3 rfl; exact ⟨e,s,⟨false,h1,by simpa using h4⟩,h5⟩
@[simp] theorem q1b {c:IC}:W m R (.block id c) st Q=W m R c st (Bl id Q ⟨⟩):=by
 simp only [W,qjr,bB,eq_iff_iff];constructor
 ·rintro ⟨e,s,⟨⟨e1,s1⟩,h1,h2⟩,h3⟩;refine ⟨e1,s1,h1,?_⟩;cases e1 with
  | normal=>cases h2; exact h3
  | exit i=>simp only [Ex.out] at h2; simp only [Bl]; cases h2; split at h3 <;> simp_all
  | ret=>cases h2; exact h3
 ·rintro ⟨e1,s1,h1,h2⟩;refine ⟨_,_,⟨_,h1,rfl⟩,?_⟩;cases e1 with
  | normal=>exact h2
  | exit i=>simp only [Ex.out]; simp only [Bl] at h2; split <;> simp_all
  | ret=>exact h2
@[simp] theorem q4q:WO m R [] st K=K st:=by simp [WO]
@[simp] theorem qu2 {os:List zad}:WO m R (⟨d,op,none⟩::os) st K=WI m R op st (fun x s=>WO m R os (s.put d x) K):=by
 simp only [WO,WI,qdn,Option.bind_eq_some_iff,eq_iff_iff];constructor
 ·rintro ⟨s,⟨⟨x,s1⟩,h1,h2⟩,h3⟩; exact ⟨x,s1,h1,s,h2,h3⟩
 ·rintro ⟨x,s1,h1,s,h2,h3⟩; exact ⟨s,⟨(x,s1),h1,h2⟩,h3⟩
@[simp] theorem qt3 {w:Bool} {os:List zad}:WO m R (⟨d,op,some (g,w)⟩::os) st K=Ob' (zih w (g.get st)) fun t=>Br t (WI m R op st (fun x s=>WO m R os (s.put d x) K)) (WO m R os (st.put d (.v Go.undef)) K):=by
 simp only [WO,WI,qcj,Option.bind_eq_some_iff,Ob',Br,eq_iff_iff];constructor
 ·rintro ⟨s,⟨t,h1,h2⟩,h3⟩;refine ⟨t,h1,fun ht => ?_,fun ht => ?_⟩ <;> subst ht
  ·simp only [if_true,Option.bind_eq_some_iff] at h2;obtain ⟨⟨x,s1⟩,h4,h5⟩:=h2;exact ⟨x,s1,h4,s,h5,h3⟩
  ·exact ⟨s,by simpa using h2,h3⟩
 ·rintro ⟨t,h1,h2,h3⟩;cases t with
  | true=>obtain ⟨x,s1,h4,s,h5,h6⟩:=h2 rfl; exact ⟨s,⟨true,h1,by simp [h4,h5]⟩,h6⟩
  | false=>obtain ⟨s,h4,h5⟩:=h3 rfl; exact ⟨s,⟨false,h1,by simpa using h4⟩,h5⟩
@[simp] theorem q04:WD m R [] todo past st K=K st:=by simp [WD,evD]
theorem yev:evG m R st ⟨d,op,none⟩=zag m R st op:=rfl
theorem yqc {w:Bool}:evG m R st ⟨d,op,some (g,w)⟩=(zih w (g.get st)).bind fun t=>if t then zag m R st op else some (.v Go.undef,st):=rfl
def WQ (m:Nat->List Bool) (R:zak) (os:List (zad×Nat×Nat)) (todo:List (zad×PV×Nat)) (past:List St) (st:St) (K:St->Prop) (o:zad) (b w:Nat) (x:PV) (s:St) (_:Dm K:=⟨⟩) (_:Dm past:=⟨⟩):Prop :=
 if quiet o.op then Cd (za2 st.V st.E o x b past) (WD m R os (if w=0 then todo else (o,x,w)::todo) past (st.put o.dst x) K) else Cd (zca s todo) (WD m R os (zc5 todo) (st::past) (s.put o.dst x) K)
theorem ypx {b w:Nat}:WD m R ((o,b,w)::os) todo past st K↔∃ x s,evG m R st o=some (x,s)/\WQ m R os todo past st K o b w x s:=by
 simp only [WD,evD,Option.bind_eq_some_iff,WQ,Cd];constructor
 ·rintro ⟨s,⟨⟨x,s1⟩,h1,h2⟩,h3⟩;refine ⟨x,s1,h1,?_⟩;split at h2
  ·rename_i hq; rw [if_pos hq];split at h2
   ·rename_i hc; exact ⟨hc,s,h2,h3⟩
   ·cases h2
  ·rename_i hq; rw [if_neg hq];split at h2
   ·rename_i hc; exact ⟨hc,s,h2,h3⟩
   ·cases h2
 ·rintro ⟨x,s1,h1,h2⟩;split at h2
  ·rename_i hq;obtain ⟨hc,s,h2,h3⟩:=h2;exact ⟨s,⟨(x,s1),h1,by rw [if_pos hq,if_pos hc]; exact h2⟩,h3⟩
  ·rename_i hq;obtain ⟨hc,s,h2,h3⟩:=h2;exact ⟨s,⟨(x,s1),h1,by rw [if_neg hq,if_pos hc]; exact h2⟩,h3⟩
@[simp] theorem qvt {b w:Nat}:WD m R ((⟨d,op,none⟩,b,w)::os) todo past st K=WI m R op st (fun x s=>WQ m R os todo past st K ⟨d,op,none⟩ b w x s):=by
 rw [eq_iff_iff,ypx]; simp only [WI,yev]
@[simp] theorem q3j {v:Bool} {b w:Nat}:WD m R ((⟨d,op,some (g,v)⟩,b,w)::os) todo past st K =
  Ob' (zih v (g.get st)) fun t=>Br t (WI m R op st (fun x s=>WQ m R os todo past st K ⟨d,op,some (g,v)⟩ b w x s)) (WQ m R os todo past st K ⟨d,op,some (g,v)⟩ b w (.v Go.undef) st):=by
 rw [eq_iff_iff,ypx];simp only [WI,yqc,Option.bind_eq_some_iff,Ob',Br];constructor
 ·rintro ⟨x,s,⟨t,h1,h2⟩,h3⟩;refine ⟨t,h1,fun ht => ?_,fun ht => ?_⟩ <;> subst ht
  ·exact ⟨x,s,by simpa using h2,h3⟩
  ·simp at h2; obtain ⟨rfl,rfl⟩:=h2; exact h3
 ·rintro ⟨t,h1,h2,h3⟩;cases t with
  | true=>obtain ⟨x,s,h4,h5⟩:=h2 rfl; exact ⟨x,s,⟨true,h1,by simpa using h4⟩,h5⟩
  | false=>exact ⟨_,_,⟨false,h1,rfl⟩,h3 rfl⟩
theorem zdt {g:Option (Opd×Bool)} {b w:Nat} {x:PV} (h:quiet op=true):WQ m R os todo past st K ⟨d,op,g⟩ b w x s=Cd (za2 st.V st.E ⟨d,op,g⟩ x b past) (WD m R os (if w=0 then todo else (⟨d,op,g⟩,x,w)::todo) past (st.put d x) K):=by
 simp only [WQ,h,if_true]
theorem zhn {g:Option (Opd×Bool)} {b w:Nat} {x:PV} (h:quiet op=false):WQ m R os todo past st K ⟨d,op,g⟩ b w x s=Cd (zca s todo) (WD m R os (zc5 todo) (st::past) (s.put d x) K):=by
 simp only [WQ,h,Bool.false_eq_true,if_false]
theorem zd5 {g:Option (Opd×Bool)} {x:PV} (h:quiet op=true):WQ m R os todo past st K ⟨d,op,g⟩ 0 0 x s=WD m R os todo past (st.put d x) K:=by
 rw [zdt h]; simp [Cd,za2]
theorem zee {g:Option (Opd×Bool)} {b w:Nat} {x:PV} (h:quiet op=true):WQ m R os todo past st K ⟨d,op,g⟩ b (w+1) x s=Cd (za2 st.V st.E ⟨d,op,g⟩ x b past) (WD m R os ((⟨d,op,g⟩,x,w+1)::todo) past (st.put d x) K):=by
 rw [zdt h]; simp
@[simp] theorem q09 {V E:Nat->PV} {x:PV} {ms:List St}:za2 V E o x 0 ms=True:=by simp [za2]
@[simp] theorem qvc {V E:Nat->PV} {x:PV}:za2 V E o x n []=True:=by cases n <;> simp [za2]
@[simp] theorem qtw {V E:Nat->PV} {x:PV} {ms:List St}:za2 V E ⟨d,op,none⟩ x (n+1) (s::ms)=(WI (fun _=>[]) (fun _ _=>none) op { s with V:=V,E:=E } (fun y _=>y=x)/\za2 V E ⟨d,op,none⟩ x n ms):=by
 simp only [za2,yv,yev,WI,bB,eq_iff_iff];constructor
 ·rintro ⟨⟨⟨y,s'⟩,h1,h2⟩,h3⟩; exact ⟨⟨y,s',h1,h2⟩,h3⟩
 ·rintro ⟨⟨y,s',h1,h2⟩,h3⟩; exact ⟨⟨(y,s'),h1,h2⟩,h3⟩
@[simp] theorem q6d:zca s []=True:=by simp [zca]
@[simp] theorem qyh {x:PV}:zca s ((o,x,0)::r)=zca s r:=by simp [zca]
@[simp] theorem qq1 {x:PV}:zca s ((⟨d,op,none⟩,x,n+1)::r)=(WI (fun _=>[]) (fun _ _=>none) op s (fun y _=>y=x)/\zca s r):=by
 simp only [zca,yv,yev,WI,bB,eq_iff_iff];constructor
 ·rintro ⟨⟨⟨y,s'⟩,h1,h2⟩,h3⟩; exact ⟨⟨y,s',h1,h2⟩,h3⟩
 ·rintro ⟨⟨y,s',h1,h2⟩,h3⟩; exact ⟨⟨(y,s'),h1,h2⟩,h3⟩
@[simp] theorem qxj:zc5 []=[]:=rfl
@[simp] theorem q52 {x:PV}:zc5 ((o,x,0)::r)=zc5 r:=rfl
@[simp] theorem q11 {x:PV}:zc5 ((o,x,n+1)::r)=(o,x,n)::zc5 r:=rfl
theorem z8q {K:PV->St->Prop} {x:PV} (h:zag m R st op=some (x,s)):WI m R op st K=K x s:=by
 simp only [WI,h,bC,Prod.mk.injEq,eq_iff_iff];constructor
 ·rintro ⟨a,b,⟨rfl,rfl⟩,h⟩; exact h
 ·intro h; exact ⟨_,_,⟨rfl,rfl⟩,h⟩
theorem zhm {op:IOp} {K:PV->St->Prop} {α:Type} {o:Option α} {f:α->PV} (h:zag m R st op=o.map fun a=>(f a,st)):WI m R op st K=Ob' o fun a=>K (f a) st:=by
 simp only [WI,h,bB,Prod.mk.injEq,Ob',eq_iff_iff];constructor
 ·rintro ⟨x,s,⟨a,h1,rfl,rfl⟩,h3⟩; exact ⟨a,h1,h3⟩
 ·rintro ⟨a,h1,h2⟩; exact ⟨_,_,⟨a,h1,rfl,rfl⟩,h2⟩
theorem zft {op:IOp} {K:PV->St->Prop} {o:Option (PV×St)} (h:zag m R st op=o):WI m R op st K=Ob' o fun r=>K r.1 r.2:=by
 simp only [WI,h,Ob',eq_iff_iff];constructor
 ·rintro ⟨x,s,h1,h2⟩; exact ⟨(x,s),h1,h2⟩
 ·rintro ⟨⟨x,s⟩,h1,h2⟩; exact ⟨x,s,h1,h2⟩
end
section
variable {m:Nat->List Bool} {R:zak} {st:St} {K:PV->St->Prop}
@[simp] theorem q2u:WI m R (.mv x) st K=K (x.get st) st:=z8q rfl
@[simp] theorem qqx {c a b:Opd}:WI m R (.pick c a b) st K=Ob' (zgu (c.get st)) fun t=>K (if t then a.get st else b.get st) st:=zhm rfl
@[simp] theorem qxi {z:List PV}:WI m R (.alloc z) st K=K (zby st z).1 (zby st z).2:=z8q rfl
@[simp] theorem q4h:WI m R (.box x) st K=Cd ((cellsOf (x.get st)).all zcw=true) (K (zby st (cellsOf (x.get st))).1 (zby st (cellsOf (x.get st))).2):=by
 rw [zft (qhm m R st x),ys2,ys9]
@[simp] theorem qvj {z:List PV}:WI m R (.build z ps) st K=Ob' (zg6 z (ps.map fun q=>(q.1,q.2.1,q.2.2.get st))) fun cs=>K (.agg cs) st:=zhm rfl
@[simp] theorem q0k {z:List PV} {ps:List (Nat×Opd)}:WI m R (.bslice n sz z ps) st K=Ob' (if (zc1 st (zbz st ps)).any fun q=>(cellsOf q.2).any isF then
   (zib z (List.replicate n (z.map fz)) (zc1 st (zbz st ps))).map fun es=>zho (zda st (zbz st ps)) sz es
  else (zc9 (zda st (zbz st ps)) z (List.replicate n z) (zc1 st (zbz st ps))).map fun q=>newRow q.2 sz q.1) fun r=>K r.1 r.2:=zft (qe0 m R st n sz z ps)
@[simp] theorem qsg:WI m R (.mvL x) st K=K (x.get st) st:=z8q rfl
@[simp] theorem qwz {z:List PV}:WI m R (.allocL z) st K=K (zby st z).1 (zby st z).2:=z8q rfl
@[simp] theorem qvu {z:List PV} {ps:List (Nat×Opd)}:WI m R (.bsliceL n sz z ps) st K=Ob' (zc9 st z (List.replicate n z) (zbz st ps)) fun q=>K (newRow q.2 sz q.1).1 (newRow q.2 sz q.1).2:=by
 rw [zft (qcb m R st n sz z ps),eq_iff_iff];simp only [Ob',bB];constructor
 ·rintro ⟨r,⟨q,h1,rfl⟩,h3⟩; exact ⟨q,h1,h3⟩
 ·rintro ⟨q,h1,h3⟩; exact ⟨_,⟨q,h1,rfl⟩,h3⟩
@[simp] theorem qr8 {a:Opd}:WI m R (.load ag sz a) st K=Ob' (loadCells st sz (a.get st)) fun cs=>Ob' (zkq ag cs) fun x=>K x st:=by
 rw [zft (qgn m R st ag sz a),eq_iff_iff];simp only [Ob',Option.bind_eq_some_iff,bB];constructor
 ·rintro ⟨r,⟨cs,h1,x,h2,rfl⟩,h3⟩; exact ⟨cs,h1,x,h2,h3⟩
 ·rintro ⟨cs,h1,x,h2,h3⟩; exact ⟨_,⟨cs,h1,x,h2,rfl⟩,h3⟩
@[simp] theorem q59 {szs:List Nat} {a x:Opd}:WI m R (.store szs a x) st K=Ob' (storeAt st szs (a.get st) (x.get st)) fun s=>K .undef s:=by
 rw [zft (qfc m R st szs a x),qec]
@[simp] theorem qqt:WI m R (.nilc x) st K=Ob' (zio st (x.get st)) fun r=>K r st:=zhm (f:=id) rfl
@[simp] theorem q3g {op:BinOp}:WI m R (.bin op x y) st K=Ob' (zmf op (x.get st) (y.get st)) fun r=>K r st:=zhm (f:=id) rfl
@[simp] theorem q44 {n:Bool}:WI m R (.eqb n ks x y) st K=Ob' (eqP ks (x.get st) (y.get st)) fun b=>K (.v (.bool (b != n))) st:=zhm rfl
@[simp] theorem qt9 {op:UnOp}:WI m R (.un op x) st K=Ob' (unP op (x.get st)) fun r=>K r st:=zhm (f:=id) rfl
@[simp] theorem q4y:WI m R (.convI k x) st K=Ob' (zhl (x.get st)) fun n=>K (.v (.int k (k.wrap n))) st:=zhm rfl
@[simp] theorem qw5:WI m R (.toS x) st K=Ob' (zfb st (x.get st)) fun r=>Ob' (zi4 r.2) fun l=>K (.v (.string ⟨l.toArray⟩)) st:=by
 rw [zft (qf3 m R st x),eq_iff_iff];simp only [Ob',Option.bind_eq_some_iff,bB];constructor
 ·rintro ⟨r,⟨cs,h1,x,h2,rfl⟩,h3⟩; exact ⟨cs,h1,x,h2,h3⟩
 ·rintro ⟨cs,h1,x,h2,h3⟩; exact ⟨_,⟨cs,h1,x,h2,rfl⟩,h3⟩
@[simp] theorem q3u:WI m R (.mkfn f caps) st K=Cd ((caps.map (Opd.get st)).all zpm=true) (K (.fn f (caps.map (Opd.get st))) st):=by
 rw [zft (qiv m R st f caps),ys2,ys9]
@[simp] theorem qug {z:List PV} {l c:Opd}:WI m R (.mksl b sz z l c) st K=Ob' (zbu (l.get st)) fun n=>Ob' (zbu (c.get st)) fun k=>Cd (n<=k/\zah b k=true) (K (newRow st sz (List.replicate n z)).1 (newRow st sz (List.replicate n z)).2):=by
 rw [zft (qbt m R st b sz z l c),eq_iff_iff];simp only [Ob',Cd,Option.bind_eq_some_iff];constructor
 ·rintro ⟨r,⟨n,h1,k,h2,h3⟩,h4⟩;split at h3
  ·rename_i hc; cases h3; exact ⟨n,h1,k,h2,hc,h4⟩
  ·cases h3
 ·rintro ⟨n,h1,k,h2,hc,h4⟩; exact ⟨_,⟨n,h1,k,h2,if_pos hc⟩,h4⟩
@[simp] theorem qrs:WI m R (.slice sz x lo hi mx) st K=Ob' (zbk st lo) fun l=>Ob' (zbk st hi) fun h=>Ob' (zbk st mx) fun k=>Ob' (zki st sz (x.get st) l h k) fun r=>K r st:=by
 rw [zft (qfa m R st sz x lo hi mx),eq_iff_iff];simp only [Ob',Option.bind_eq_some_iff,bB];constructor
 ·rintro ⟨r,⟨l,h1,h,h2,k,h3,q,h4,rfl⟩,h5⟩; exact ⟨l,h1,h,h2,k,h3,q,h4,h5⟩
 ·rintro ⟨l,h1,h,h2,k,h3,q,h4,h5⟩; exact ⟨_,⟨l,h1,h,h2,k,h3,q,h4,rfl⟩,h5⟩
@[simp] theorem qwi:WI m R (.sliceS x lo hi) st K=Ob' (zcv (x.get st)) fun s=>Ob' (zbk st lo) fun l=>Ob' (zbk st hi) fun h=>Ob' (sliceS s l h) fun r=>K r st:=by
 rw [zft (o:=(zcv (x.get st)).bind fun s=>(zbk st lo).bind fun l=>(zbk st hi).bind fun h=>(sliceS s l h).map fun r=>(r,st)) rfl,eq_iff_iff];simp only [Ob',Option.bind_eq_some_iff,bB];constructor
 ·rintro ⟨r,⟨l,h1,h,h2,k,h3,q,h4,rfl⟩,h5⟩; exact ⟨l,h1,h,h2,k,h3,q,h4,h5⟩
 ·rintro ⟨l,h1,h,h2,k,h3,q,h4,h5⟩; exact ⟨_,⟨l,h1,h,h2,k,h3,q,h4,rfl⟩,h5⟩
@[simp] theorem q3h {off:Nat}:WI m R (.faddr off x) st K=Ob' (zic st off (x.get st)) fun r=>K r st:=zhm (f:=id) rfl
@[simp] theorem q4e:WI m R (.iaddr sz x i) st K=Ob' (zbu (i.get st)) fun k=>Ob' (iaddr st sz k (x.get st)) fun r=>K r st:=by
 rw [zft (qif m R st sz x i),eq_iff_iff];simp only [Ob',Option.bind_eq_some_iff,bB];constructor
 ·rintro ⟨r,⟨cs,h1,x,h2,rfl⟩,h3⟩; exact ⟨cs,h1,x,h2,h3⟩
 ·rintro ⟨cs,h1,x,h2,h3⟩; exact ⟨_,⟨cs,h1,x,h2,rfl⟩,h3⟩
@[simp] theorem q3t:WI m R (.idx x i) st K=Ob' (zcv (x.get st)) fun s=>Ob' (zbu (i.get st)) fun k=>Ob' (s[k]?) fun b=>K (.v (.int .u8 (b.toNat:Int))) st:=by
 rw [zft (qdh m R st x i),eq_iff_iff];simp only [Ob',Option.bind_eq_some_iff,bB];constructor
 ·rintro ⟨r,⟨l,h1,h,h2,k,h3,rfl⟩,h5⟩; exact ⟨l,h1,h,h2,k,h3,h5⟩
 ·rintro ⟨l,h1,h,h2,k,h3,h5⟩; exact ⟨_,⟨l,h1,h,h2,k,h3,rfl⟩,h5⟩
@[simp] theorem qus {i:Nat}:WI m R (.ext i x) st K=Ob' (zmh i (x.get st)) fun r=>K r st:=zhm (f:=id) rfl
@[simp] theorem qr6:WI m R (.call f args) st K=Ob' (zdl m R st f (args.map fun q=>(q.1,q.2.get st))) fun r=>K r.1 r.2:=zft rfl
@[simp] theorem qq3:WI m R (.callv g args) st K=Ob' (zpk m R st (args.map fun q=>(q.1,q.2.get st)) (g.get st)) fun r=>K r.1 r.2:=zft rfl
@[simp] theorem qrn:WI m R (.len x) st K=Ob' (lenOf st (x.get st)) fun n=>K (.v (.int .i64 ((n:Nat):Int))) st:=zhm rfl
@[simp] theorem q2m:WI m R (.lenS x) st K=Ob' (zcv (x.get st)) fun s=>K (.v (.int .i64 (s.size:Int))) st:=zhm rfl
@[simp] theorem qv7 {s x:Opd}:WI m R (.app b sz s x) st K=Ob' (zku st b sz (s.get st) (x.get st)) fun r=>K r.1 r.2:=zft rfl
@[simp] theorem q45 {s x:Opd}:WI m R (.appS s x) st K=Ob' (zcv (x.get st)) fun t=>Ob' (appS st (s.get st) t) fun r=>K r.1 r.2:=by
 rw [zft (o:=(zcv (x.get st)).bind fun t=>appS st (s.get st) t) rfl,qix]
@[simp] theorem q6w {b:Bool}:WI m R (.mx b x y) st K=Ob' (mxP b (x.get st) (y.get st)) fun r=>K r st:=zhm (f:=id) rfl
end
section
variable {m:Nat->List Bool} {R:zak} {st:St} {K:St->Prop} {os:List (zad×Nat×Nat)} {todo:List (zad×PV×Nat)} {past:List St} {d:Option Dst} {g:Option (Opd×Bool)}
@[simp] theorem qxh:WQ m R os todo past st K ⟨d,.mv x,g⟩ 0 0 w s=WD m R os todo past (st.put d w) K:=zd5 rfl
@[simp] theorem qv0:WQ m R os todo past st K ⟨d,.mv x,g⟩ bk (fw+1) w s=Cd (za2 st.V st.E ⟨d,.mv x,g⟩ w bk past) (WD m R os ((⟨d,.mv x,g⟩,w,fw+1)::todo) past (st.put d w) K):=zee rfl
@[simp] theorem q6q:WQ m R os todo past st K ⟨d,.mv x,g⟩ (bk+1) 0 w s=Cd (za2 st.V st.E ⟨d,.mv x,g⟩ w (bk+1) past) (WD m R os todo past (st.put d w) K):=by rw [zdt rfl]; rfl
@[simp] theorem q0v (c a b:Opd):WQ m R os todo past st K ⟨d,.pick c a b,g⟩ 0 0 w s=WD m R os todo past (st.put d w) K:=zd5 rfl
@[simp] theorem qq0 (c a b:Opd):WQ m R os todo past st K ⟨d,.pick c a b,g⟩ bk (fw+1) w s=Cd (za2 st.V st.E ⟨d,.pick c a b,g⟩ w bk past) (WD m R os ((⟨d,.pick c a b,g⟩,w,fw+1)::todo) past (st.put d w) K):=zee rfl
@[simp] theorem qqq (c a b:Opd):WQ m R os todo past st K ⟨d,.pick c a b,g⟩ (bk+1) 0 w s=Cd (za2 st.V st.E ⟨d,.pick c a b,g⟩ w (bk+1) past) (WD m R os todo past (st.put d w) K):=by rw [zdt rfl]; rfl
@[simp] theorem qvr (z:List PV):WQ m R os todo past st K ⟨d,.build z ps,g⟩ 0 0 w s=WD m R os todo past (st.put d w) K:=zd5 rfl
@[simp] theorem qrk (z:List PV):WQ m R os todo past st K ⟨d,.build z ps,g⟩ bk (fw+1) w s=Cd (za2 st.V st.E ⟨d,.build z ps,g⟩ w bk past) (WD m R os ((⟨d,.build z ps,g⟩,w,fw+1)::todo) past (st.put d w) K):=zee rfl
@[simp] theorem q5a (z:List PV):WQ m R os todo past st K ⟨d,.build z ps,g⟩ (bk+1) 0 w s=Cd (za2 st.V st.E ⟨d,.build z ps,g⟩ w (bk+1) past) (WD m R os todo past (st.put d w) K):=by rw [zdt rfl]; rfl
@[simp] theorem q6e (a:Opd):WQ m R os todo past st K ⟨d,.load ag sz a,g⟩ 0 0 w s=WD m R os todo past (st.put d w) K:=zd5 rfl
@[simp] theorem q0y (a:Opd):WQ m R os todo past st K ⟨d,.load ag sz a,g⟩ bk (fw+1) w s=Cd (za2 st.V st.E ⟨d,.load ag sz a,g⟩ w bk past) (WD m R os ((⟨d,.load ag sz a,g⟩,w,fw+1)::todo) past (st.put d w) K):=zee rfl
@[simp] theorem q2o (a:Opd):WQ m R os todo past st K ⟨d,.load ag sz a,g⟩ (bk+1) 0 w s=Cd (za2 st.V st.E ⟨d,.load ag sz a,g⟩ w (bk+1) past) (WD m R os todo past (st.put d w) K):=by rw [zdt rfl]; rfl
@[simp] theorem qy7:WQ m R os todo past st K ⟨d,.nilc x,g⟩ 0 0 w s=WD m R os todo past (st.put d w) K:=zd5 rfl
@[simp] theorem qyz:WQ m R os todo past st K ⟨d,.nilc x,g⟩ bk (fw+1) w s=Cd (za2 st.V st.E ⟨d,.nilc x,g⟩ w bk past) (WD m R os ((⟨d,.nilc x,g⟩,w,fw+1)::todo) past (st.put d w) K):=zee rfl
@[simp] theorem q0m:WQ m R os todo past st K ⟨d,.nilc x,g⟩ (bk+1) 0 w s=Cd (za2 st.V st.E ⟨d,.nilc x,g⟩ w (bk+1) past) (WD m R os todo past (st.put d w) K):=by rw [zdt rfl]; rfl
@[simp] theorem qu0 (op:BinOp):WQ m R os todo past st K ⟨d,.bin op x y,g⟩ 0 0 w s=WD m R os todo past (st.put d w) K:=zd5 rfl
@[simp] theorem qz8 (op:BinOp):WQ m R os todo past st K ⟨d,.bin op x y,g⟩ bk (fw+1) w s=Cd (za2 st.V st.E ⟨d,.bin op x y,g⟩ w bk past) (WD m R os ((⟨d,.bin op x y,g⟩,w,fw+1)::todo) past (st.put d w) K):=zee rfl
@[simp] theorem qqs (op:BinOp):WQ m R os todo past st K ⟨d,.bin op x y,g⟩ (bk+1) 0 w s=Cd (za2 st.V st.E ⟨d,.bin op x y,g⟩ w (bk+1) past) (WD m R os todo past (st.put d w) K):=by rw [zdt rfl]; rfl
@[simp] theorem qru (n:Bool):WQ m R os todo past st K ⟨d,.eqb n ks x y,g⟩ 0 0 w s=WD m R os todo past (st.put d w) K:=zd5 rfl
@[simp] theorem q4m (n:Bool):WQ m R os todo past st K ⟨d,.eqb n ks x y,g⟩ bk (fw+1) w s=Cd (za2 st.V st.E ⟨d,.eqb n ks x y,g⟩ w bk past) (WD m R os ((⟨d,.eqb n ks x y,g⟩,w,fw+1)::todo) past (st.put d w) K):=zee rfl
@[simp] theorem qym (n:Bool):WQ m R os todo past st K ⟨d,.eqb n ks x y,g⟩ (bk+1) 0 w s=Cd (za2 st.V st.E ⟨d,.eqb n ks x y,g⟩ w (bk+1) past) (WD m R os todo past (st.put d w) K):=by rw [zdt rfl]; rfl
@[simp] theorem q2q (op:UnOp):WQ m R os todo past st K ⟨d,.un op x,g⟩ 0 0 w s=WD m R os todo past (st.put d w) K:=zd5 rfl
@[simp] theorem qwo (op:UnOp):WQ m R os todo past st K ⟨d,.un op x,g⟩ bk (fw+1) w s=Cd (za2 st.V st.E ⟨d,.un op x,g⟩ w bk past) (WD m R os ((⟨d,.un op x,g⟩,w,fw+1)::todo) past (st.put d w) K):=zee rfl
@[simp] theorem qwh (op:UnOp):WQ m R os todo past st K ⟨d,.un op x,g⟩ (bk+1) 0 w s=Cd (za2 st.V st.E ⟨d,.un op x,g⟩ w (bk+1) past) (WD m R os todo past (st.put d w) K):=by rw [zdt rfl]; rfl
@[simp] theorem q5u:WQ m R os todo past st K ⟨d,.convI k x,g⟩ 0 0 w s=WD m R os todo past (st.put d w) K:=zd5 rfl
@[simp] theorem qx6:WQ m R os todo past st K ⟨d,.convI k x,g⟩ bk (fw+1) w s=Cd (za2 st.V st.E ⟨d,.convI k x,g⟩ w bk past) (WD m R os ((⟨d,.convI k x,g⟩,w,fw+1)::todo) past (st.put d w) K):=zee rfl
@[simp] theorem qr0:WQ m R os todo past st K ⟨d,.convI k x,g⟩ (bk+1) 0 w s=Cd (za2 st.V st.E ⟨d,.convI k x,g⟩ w (bk+1) past) (WD m R os todo past (st.put d w) K):=by rw [zdt rfl]; rfl
@[simp] theorem quy:WQ m R os todo past st K ⟨d,.toS x,g⟩ 0 0 w s=WD m R os todo past (st.put d w) K:=zd5 rfl
@[simp] theorem qs8:WQ m R os todo past st K ⟨d,.toS x,g⟩ bk (fw+1) w s=Cd (za2 st.V st.E ⟨d,.toS x,g⟩ w bk past) (WD m R os ((⟨d,.toS x,g⟩,w,fw+1)::todo) past (st.put d w) K):=zee rfl
@[simp] theorem q3f:WQ m R os todo past st K ⟨d,.toS x,g⟩ (bk+1) 0 w s=Cd (za2 st.V st.E ⟨d,.toS x,g⟩ w (bk+1) past) (WD m R os todo past (st.put d w) K):=by rw [zdt rfl]; rfl
@[simp] theorem qwv:WQ m R os todo past st K ⟨d,.mkfn f caps,g⟩ 0 0 w s=WD m R os todo past (st.put d w) K:=zd5 rfl
@[simp] theorem q20:WQ m R os todo past st K ⟨d,.mkfn f caps,g⟩ bk (fw+1) w s=Cd (za2 st.V st.E ⟨d,.mkfn f caps,g⟩ w bk past) (WD m R os ((⟨d,.mkfn f caps,g⟩,w,fw+1)::todo) past (st.put d w) K):=zee rfl
@[simp] theorem qqj:WQ m R os todo past st K ⟨d,.mkfn f caps,g⟩ (bk+1) 0 w s=Cd (za2 st.V st.E ⟨d,.mkfn f caps,g⟩ w (bk+1) past) (WD m R os todo past (st.put d w) K):=by rw [zdt rfl]; rfl
@[simp] theorem qsw:WQ m R os todo past st K ⟨d,.slice sz x lo hi mx,g⟩ 0 0 w s=WD m R os todo past (st.put d w) K:=zd5 rfl
@[simp] theorem qss:WQ m R os todo past st K ⟨d,.slice sz x lo hi mx,g⟩ bk (fw+1) w s=Cd (za2 st.V st.E ⟨d,.slice sz x lo hi mx,g⟩ w bk past) (WD m R os ((⟨d,.slice sz x lo hi mx,g⟩,w,fw+1)::todo) past (st.put d w) K):=zee rfl
@[simp] theorem qun:WQ m R os todo past st K ⟨d,.slice sz x lo hi mx,g⟩ (bk+1) 0 w s=Cd (za2 st.V st.E ⟨d,.slice sz x lo hi mx,g⟩ w (bk+1) past) (WD m R os todo past (st.put d w) K):=by rw [zdt rfl]; rfl
@[simp] theorem qyn:WQ m R os todo past st K ⟨d,.sliceS x lo hi,g⟩ 0 0 w s=WD m R os todo past (st.put d w) K:=zd5 rfl
@[simp] theorem q36:WQ m R os todo past st K ⟨d,.sliceS x lo hi,g⟩ bk (fw+1) w s=Cd (za2 st.V st.E ⟨d,.sliceS x lo hi,g⟩ w bk past) (WD m R os ((⟨d,.sliceS x lo hi,g⟩,w,fw+1)::todo) past (st.put d w) K):=zee rfl
@[simp] theorem q0r:WQ m R os todo past st K ⟨d,.sliceS x lo hi,g⟩ (bk+1) 0 w s=Cd (za2 st.V st.E ⟨d,.sliceS x lo hi,g⟩ w (bk+1) past) (WD m R os todo past (st.put d w) K):=by rw [zdt rfl]; rfl
@[simp] theorem q3q (off:Nat):WQ m R os todo past st K ⟨d,.faddr off x,g⟩ 0 0 w s=WD m R os todo past (st.put d w) K:=zd5 rfl
@[simp] theorem qqu (off:Nat):WQ m R os todo past st K ⟨d,.faddr off x,g⟩ bk (fw+1) w s=Cd (za2 st.V st.E ⟨d,.faddr off x,g⟩ w bk past) (WD m R os ((⟨d,.faddr off x,g⟩,w,fw+1)::todo) past (st.put d w) K):=zee rfl
@[simp] theorem q00 (off:Nat):WQ m R os todo past st K ⟨d,.faddr off x,g⟩ (bk+1) 0 w s=Cd (za2 st.V st.E ⟨d,.faddr off x,g⟩ w (bk+1) past) (WD m R os todo past (st.put d w) K):=by rw [zdt rfl]; rfl
@[simp] theorem qwr:WQ m R os todo past st K ⟨d,.iaddr sz x i,g⟩ 0 0 w s=WD m R os todo past (st.put d w) K:=zd5 rfl
@[simp] theorem qto:WQ m R os todo past st K ⟨d,.iaddr sz x i,g⟩ bk (fw+1) w s=Cd (za2 st.V st.E ⟨d,.iaddr sz x i,g⟩ w bk past) (WD m R os ((⟨d,.iaddr sz x i,g⟩,w,fw+1)::todo) past (st.put d w) K):=zee rfl
@[simp] theorem q3m:WQ m R os todo past st K ⟨d,.iaddr sz x i,g⟩ (bk+1) 0 w s=Cd (za2 st.V st.E ⟨d,.iaddr sz x i,g⟩ w (bk+1) past) (WD m R os todo past (st.put d w) K):=by rw [zdt rfl]; rfl
@[simp] theorem q4z:WQ m R os todo past st K ⟨d,.idx x i,g⟩ 0 0 w s=WD m R os todo past (st.put d w) K:=zd5 rfl
@[simp] theorem q5v:WQ m R os todo past st K ⟨d,.idx x i,g⟩ bk (fw+1) w s=Cd (za2 st.V st.E ⟨d,.idx x i,g⟩ w bk past) (WD m R os ((⟨d,.idx x i,g⟩,w,fw+1)::todo) past (st.put d w) K):=zee rfl
@[simp] theorem qv4:WQ m R os todo past st K ⟨d,.idx x i,g⟩ (bk+1) 0 w s=Cd (za2 st.V st.E ⟨d,.idx x i,g⟩ w (bk+1) past) (WD m R os todo past (st.put d w) K):=by rw [zdt rfl]; rfl
@[simp] theorem q1z (i:Nat):WQ m R os todo past st K ⟨d,.ext i x,g⟩ 0 0 w s=WD m R os todo past (st.put d w) K:=zd5 rfl
@[simp] theorem q17 (i:Nat):WQ m R os todo past st K ⟨d,.ext i x,g⟩ bk (fw+1) w s=Cd (za2 st.V st.E ⟨d,.ext i x,g⟩ w bk past) (WD m R os ((⟨d,.ext i x,g⟩,w,fw+1)::todo) past (st.put d w) K):=zee rfl
@[simp] theorem q2w (i:Nat):WQ m R os todo past st K ⟨d,.ext i x,g⟩ (bk+1) 0 w s=Cd (za2 st.V st.E ⟨d,.ext i x,g⟩ w (bk+1) past) (WD m R os todo past (st.put d w) K):=by rw [zdt rfl]; rfl
@[simp] theorem qzh:WQ m R os todo past st K ⟨d,.len x,g⟩ 0 0 w s=WD m R os todo past (st.put d w) K:=zd5 rfl
@[simp] theorem q4j:WQ m R os todo past st K ⟨d,.len x,g⟩ bk (fw+1) w s=Cd (za2 st.V st.E ⟨d,.len x,g⟩ w bk past) (WD m R os ((⟨d,.len x,g⟩,w,fw+1)::todo) past (st.put d w) K):=zee rfl
@[simp] theorem q5z:WQ m R os todo past st K ⟨d,.len x,g⟩ (bk+1) 0 w s=Cd (za2 st.V st.E ⟨d,.len x,g⟩ w (bk+1) past) (WD m R os todo past (st.put d w) K):=by rw [zdt rfl]; rfl
@[simp] theorem qsd:WQ m R os todo past st K ⟨d,.lenS x,g⟩ 0 0 w s=WD m R os todo past (st.put d w) K:=zd5 rfl
@[simp] theorem qu7:WQ m R os todo past st K ⟨d,.lenS x,g⟩ bk (fw+1) w s=Cd (za2 st.V st.E ⟨d,.lenS x,g⟩ w bk past) (WD m R os ((⟨d,.lenS x,g⟩,w,fw+1)::todo) past (st.put d w) K):=zee rfl
@[simp] theorem qua:WQ m R os todo past st K ⟨d,.lenS x,g⟩ (bk+1) 0 w s=Cd (za2 st.V st.E ⟨d,.lenS x,g⟩ w (bk+1) past) (WD m R os todo past (st.put d w) K):=by rw [zdt rfl]; rfl
@[simp] theorem q0o (b:Bool):WQ m R os todo past st K ⟨d,.mx b x y,g⟩ 0 0 w s=WD m R os todo past (st.put d w) K:=zd5 rfl
@[simp] theorem qr1 (b:Bool):WQ m R os todo past st K ⟨d,.mx b x y,g⟩ bk (fw+1) w s=Cd (za2 st.V st.E ⟨d,.mx b x y,g⟩ w bk past) (WD m R os ((⟨d,.mx b x y,g⟩,w,fw+1)::todo) past (st.put d w) K):=zee rfl
@[simp] theorem qq6 (b:Bool):WQ m R os todo past st K ⟨d,.mx b x y,g⟩ (bk+1) 0 w s=Cd (za2 st.V st.E ⟨d,.mx b x y,g⟩ w (bk+1) past) (WD m R os todo past (st.put d w) K):=by rw [zdt rfl]; rfl
@[simp] theorem q55 (z:List PV):WQ m R os todo past st K ⟨d,.alloc z,g⟩ bk fw w s=Cd (zca s todo) (WD m R os (zc5 todo) (st::past) (s.put d w) K):=zhn rfl
@[simp] theorem qr9:WQ m R os todo past st K ⟨d,.box x,g⟩ bk fw w s=Cd (zca s todo) (WD m R os (zc5 todo) (st::past) (s.put d w) K):=zhn rfl
@[simp] theorem qxq (z:List PV) (ps:List (Nat×Opd)):WQ m R os todo past st K ⟨d,.bslice n sz z ps,g⟩ bk fw w s=Cd (zca s todo) (WD m R os (zc5 todo) (st::past) (s.put d w) K):=zhn rfl
@[simp] theorem q4t (z:List PV):WQ m R os todo past st K ⟨d,.allocL z,g⟩ bk fw w s=Cd (zca s todo) (WD m R os (zc5 todo) (st::past) (s.put d w) K):=zhn rfl
@[simp] theorem quf:WQ m R os todo past st K ⟨d,.mvL x,g⟩ bk fw w s=Cd (zca s todo) (WD m R os (zc5 todo) (st::past) (s.put d w) K):=zhn rfl
@[simp] theorem q4i (z:List PV) (ps:List (Nat×Opd)):WQ m R os todo past st K ⟨d,.bsliceL n sz z ps,g⟩ bk fw w s=Cd (zca s todo) (WD m R os (zc5 todo) (st::past) (s.put d w) K):=zhn rfl
@[simp] theorem q4r (szs:List Nat) (a x:Opd):WQ m R os todo past st K ⟨d,.store szs a x,g⟩ bk fw w s=Cd (zca s todo) (WD m R os (zc5 todo) (st::past) (s.put d w) K):=zhn rfl
@[simp] theorem qt0 (z:List PV) (l c:Opd):WQ m R os todo past st K ⟨d,.mksl b sz z l c,g⟩ bk fw w s=Cd (zca s todo) (WD m R os (zc5 todo) (st::past) (s.put d w) K):=zhn rfl
@[simp] theorem q1k:WQ m R os todo past st K ⟨d,.call f args,g⟩ bk fw w s=Cd (zca s todo) (WD m R os (zc5 todo) (st::past) (s.put d w) K):=zhn rfl
@[simp] theorem quj (g0:Opd):WQ m R os todo past st K ⟨d,.callv g0 args,g⟩ bk fw w s=Cd (zca s todo) (WD m R os (zc5 todo) (st::past) (s.put d w) K):=zhn rfl
@[simp] theorem qth:WQ m R os todo past st K ⟨d,.app b sz y x,g⟩ bk fw w s=Cd (zca s todo) (WD m R os (zc5 todo) (st::past) (s.put d w) K):=zhn rfl
@[simp] theorem q6m:WQ m R os todo past st K ⟨d,.appS y x,g⟩ bk fw w s=Cd (zca s todo) (WD m R os (zc5 todo) (st::past) (s.put d w) K):=zhn rfl
end
section
variable {α:Type}
@[simp] theorem ge0 (a:α) (l:List α):(a::l)[0]?=some a:=rfl
@[simp] theorem ge1 (a0 a1:α) (l:List α):(a0::a1::l)[1]?=some a1:=rfl
@[simp] theorem ge2 (a0 a1 a2:α) (l:List α):(a0::a1::a2::l)[2]?=some a2:=rfl
@[simp] theorem ge3 (a0 a1 a2 a3:α) (l:List α):(a0::a1::a2::a3::l)[3]?=some a3:=rfl
@[simp] theorem ge4 (a0 a1 a2 a3 a4:α) (l:List α):(a0::a1::a2::a3::a4::l)[4]?=some a4:=rfl
@[simp] theorem ge5 (a0 a1 a2 a3 a4 a5:α) (l:List α):(a0::a1::a2::a3::a4::a5::l)[5]?=some a5:=rfl
@[simp] theorem ge6 (a0 a1 a2 a3 a4 a5 a6:α) (l:List α):(a0::a1::a2::a3::a4::a5::a6::l)[6]?=some a6:=rfl
@[simp] theorem ge7 (a0 a1 a2 a3 a4 a5 a6 a7:α) (l:List α):(a0::a1::a2::a3::a4::a5::a6::a7::l)[7]?=some a7:=rfl
@[simp] theorem ge8 (a0 a1 a2 a3 a4 a5 a6 a7 a8:α) (l:List α):(a0::a1::a2::a3::a4::a5::a6::a7::a8::l)[8]?=some a8:=rfl
@[simp] theorem ge9 (a0 a1 a2 a3 a4 a5 a6 a7 a8 a9:α) (l:List α):(a0::a1::a2::a3::a4::a5::a6::a7::a8::a9::l)[9]?=some a9:=rfl
@[simp] theorem qsm (a0 a1 a2 a3 a4 a5 a6 a7 a8 a9 a10:α) (l:List α):(a0::a1::a2::a3::a4::a5::a6::a7::a8::a9::a10::l)[10]?=some a10:=rfl
@[simp] theorem qwa (a0 a1 a2 a3 a4 a5 a6 a7 a8 a9 a10 a11:α) (l:List α):(a0::a1::a2::a3::a4::a5::a6::a7::a8::a9::a10::a11::l)[11]?=some a11:=rfl
end
@[simp] theorem q6h:zbu (.v (.int k ((n:Int)+1)))=some (n+1):=qbw k (n+1)
@[simp] theorem qw8:zbu (.v (.int k 1))=some 1:=rfl
@[simp] theorem qys:zbu (.v (.int k 2))=some 2:=rfl
@[simp] theorem qsq:zbu (.v (.int k 3))=some 3:=rfl
@[simp] theorem qso:zbu (.v (.int k 4))=some 4:=rfl
@[simp] theorem qy4:zbu (.v (.int k 5))=some 5:=rfl
theorem fr {o n:Nat} (h:o<n):(o=n)=False/\(n=o)=False/\(∀ j:Nat,(o=n+j)=False)/\∀ j:Nat,(n+j=o)=False:=by
 refine ⟨?_,?_,fun j => ?_,fun j => ?_⟩ <;> simp <;> omega
@[simp] theorem as1:n+1+1=n+2:=rfl
@[simp] theorem as2:n+2+1=n+3:=rfl
@[simp] theorem as3:n+3+1=n+4:=rfl
@[simp] theorem as4:n+4+1=n+5:=rfl
@[simp] theorem as5:n+5+1=n+6:=rfl
@[simp] theorem as6:n+6+1=n+7:=rfl
@[simp] theorem as7:n+7+1=n+8:=rfl
@[simp] theorem as8:n+8+1=n+9:=rfl
@[simp] theorem as9:n+9+1=n+10:=rfl
@[simp] theorem qsv:n+10+1=n+11:=rfl
@[simp] theorem q3z:n+11+1=n+12:=rfl
@[simp] theorem qsp:n+12+1=n+13:=rfl
@[simp] theorem qxa:n+13+1=n+14:=rfl
@[simp] theorem qyo:n+14+1=n+15:=rfl
@[simp] theorem qyt:n+15+1=n+16:=rfl
@[simp] theorem q47:n+16+1=n+17:=rfl
@[simp] theorem q01:n+17+1=n+18:=rfl
@[simp] theorem qq7:n+18+1=n+19:=rfl
@[simp] theorem q4c:n+19+1=n+20:=rfl
@[simp] theorem qza:n+20+1=n+21:=rfl
@[simp] theorem q58:n+21+1=n+22:=rfl
@[simp] theorem qz3:n+22+1=n+23:=rfl
@[simp] theorem qu8:n+23+1=n+24:=rfl
theorem zae {T:zcd} {ms:List Bool} {rv:List RV} {ic:IC} (hT:T f=some (.code ⟨ms,rv,ic⟩)) {args:List PV} {r:List PV×List PV} {st:St} (hi:zky args=some st) (h:W (zac T) (RUN T) ic st (Fin rv st.nx r ⟨⟩ ⟨⟩)):RUN T f args=some r:=by
 refine yow hT ?_;obtain ⟨e,s,h1,h2,h3⟩:=h;unfold zxy;rw [hi];simp only [Option.bind_some,h1];rcases h2 with rfl | rfl <;> exact h3
def Rnd (Inv:Nat->St->Prop) (n:Nat) (Q:Ex->St->Prop) (_:Dm Inv) (_:Dm Q):Ex->St->Prop
 | .normal,s => ∃ k,k<n/\Inv k s
 | e,s=>Q e s
@[simp] theorem q41 {Inv:Nat->St->Prop}:Rnd Inv n Q ⟨⟩ ⟨⟩ .ret s=Q .ret s:=rfl
@[simp] theorem qsk {Inv:Nat->St->Prop} {i:Nat}:Rnd Inv n Q ⟨⟩ ⟨⟩ (.exit i) s=Q (.exit i) s:=rfl
theorem zao {m:Nat->List Bool} {R:zak} {c:IC} (Inv:Nat->St->Prop) (step : ∀ n st,Inv n st->W m R c st (Rnd Inv n Q ⟨⟩ ⟨⟩)) : ∀ n st,Inv n st->W m R (.loop c) st Q:=by
 intro n
 induction n using Nat.strongRecOn with
 | ind n ih =>
  intro st hI;obtain ⟨e,s,h1,h2⟩:=step n st hI;cases e with
  | normal =>
   obtain ⟨k,hk,hI'⟩:=h2;obtain ⟨e',s',h3,h4⟩:=ih k hk s hI';exact ⟨e',s',by rw [z93,h1]; exact h3,h4⟩
  | exit i=>exact ⟨_,_,by rw [z93,h1]; rfl,h2⟩
  | ret=>exact ⟨_,_,by rw [z93,h1]; rfl,h2⟩
theorem qe1 {m:Nat->List Bool} {R:zak} {c:IC} {st:St}:W m R (.loop c) st Q=W m R c st (Nx (fun s=>W m R (.loop c) s Q) Q ⟨⟩ ⟨⟩):=by
 rw [<- qe3];simp only [W,ysa];rw [z93]
theorem zai {Inv:Nat->St->Prop} (k:Nat) (h:k<n) (hI:Inv k s):Rnd Inv n Q ⟨⟩ ⟨⟩ .normal s:=⟨k,h,hI⟩
theorem W.mono {m:Nat->List Bool} {R:zak} {c:IC} {st:St} {Q Q':Ex->St->Prop} (h:W m R c st Q) (hq : ∀ e s,Q e s->Q' e s):W m R c st Q':=by
 obtain ⟨e,s,h1,h2⟩:=h;exact ⟨e,s,h1,hq e s h2⟩
attribute [irreducible] W WO WD WI WQ Ob' Br Cd Nx Bl Fin
end Go.Pe
namespace Go.Pe
open Go
def zhf (sz by_:Nat):List PV->Option (List PV×List PV)
 | [.sl s es]=>if s=sz/\zch es=true/\zah by_ es.length=true then some ([.own sz es],[]) else none
 | _=>none
theorem yd7 {T:zcd} {f sz by_:Nat} (hT:T f=some (.known [] (zhf sz by_))) {es:List (List PV)} (hv:zch es=true) (hr:zah by_ es.length=true):RUN T f [.sl sz es]=some ([.own sz es],[]) :=
 yb3 hT (if_pos ⟨rfl,hv,hr⟩)
def zcj (l:List Int):List (List PV):=l.map fun n=>[.v (.int .i64 n)]
def ycx:List PV->Option Int
 | [.v (.int .i64 n)]=>some n
 | _=>none
def zpo:List (List PV)->Option (List Int)
 | []=>some []
 | c::cs=>(ycx c).bind fun n=>(zpo cs).map (n :: ·)
theorem yd3 : ∀ l:List Int,zpo (zcj l)=some l
 | []=>rfl
 | n::l=>by
  have:=yd3 l;unfold zcj at this;simp [zcj,zpo,ycx,this]
theorem yej : ∀ {es:List (List PV)} {l:List Int},zpo es=some l->es=zcj l
 | [],l,h=>by cases h; rfl
 | c::cs,l,h=>by
  simp only [zpo] at h;obtain ⟨n,h1,h⟩:=bA h;simp only [bB] at h;obtain ⟨l',h2,rfl⟩:=h;rw [yej h2];unfold ycx at h1;split at h1
  ·cases h1; rfl
  ·cases h1
def zh8 (l:List Int):List Int:=l.mergeSort fun x y=>decide (x<=y)
def zo6:List PV->Option (List PV×List PV)
 | [.own 1 es]=>(zpo es).bind fun l=>if l.length<4611686018427387904 then some ([],[.own 1 (zcj (zh8 l))]) else none
 | _=>none
def zov:List PV->Option (List PV×List PV)
 | [.own 1 es]=>(zpo es).bind fun l=>if l.length<4611686018427387904 then some ([.own 1 (zcj (Lib.compact l))],[.undef]) else none
 | _=>none
theorem qh5 {T:zcd} {f:Nat} (hT:T f=some (.known [true] zo6)) {l:List Int} (hl:l.length<4611686018427387904):RUN T f [.own 1 (zcj l)]=some ([],[.own 1 (zcj (zh8 l))]) :=
 yb3 hT (by simp [zo6,yd3,hl])
theorem qew {T:zcd} {f:Nat} (hT:T f=some (.known [true] zov)) {l:List Int} (hl:l.length<4611686018427387904):RUN T f [.own 1 (zcj l)]=some ([.own 1 (zcj (Lib.compact l))],[.undef]) :=
 yb3 hT (by simp [zov,yd3,hl])
end Go.Pe
