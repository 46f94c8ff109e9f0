/- An evaluator over compact texts of Go functions is defined,and how it goes on is told,operation by operation; no condition. -/
import Derived.Calls
import Derived.Laws.AppendOwn
import Derived.Lib.SlicesCompact
set_option linter.all false
namespace Go.Pe
open Go
theorem bA {α β:Type} {x:Option α} {f:α->Option β} {b:β} (h:x.bind f=some b) : ∃ a,x=some a/\f a=some b:=Option.bind_eq_some_iff.mp h
theorem bB {α β:Type} {x:Option α} {f:α->β} {b:β}:Option.map f x=some b ↔ ∃ a,x=some a/\f a=b:=Option.map_eq_some_iff
theorem bC {α:Type} {a b:α}:(some a=some b)=(a=b):=Option.some.injEq a b
theorem bD {α:Type} {l:List α} {i:Nat} {a:α} (h:l[i]?=some a) : ∃ w:i<l.length,l[i]=a:=List.getElem?_eq_some_iff.mp h
theorem bF {α:Type} {l:List α} {i:Nat} {a:α} (h:l[i]?=some a):a∈l:=List.mem_of_getElem? h
theorem bG {α:Type} {l:List α} {i:Nat} (h:i<l.length):l[i]?=some l[i]:=List.getElem?_eq_getElem h
theorem bH {α:Type} {l:List α} {a:α} (h:a∈l) : ∃ i:Nat,l[i]?=some a:=List.getElem?_of_mem h
theorem bI {a b:Prop} (x:a) (y:b):a/\b:=⟨x,y⟩
inductive PV where
 | undef
 | v (x:Value)
 | e0
 | sl (sz:Nat) (es:List (List PV))
 | own (sz:Nat) (es:List (List PV))
 | bx (cs:List PV)
 | ref (o:Nat) (p:Option (Nat×Nat)) (ep lo len:Nat)
 | ptr (o:Nat) (p:Option (Nat×Nat)) (ep i j:Nat)
 | fptr (cs:List PV) (j:Nat)
 | fn (f:Nat) (caps:List PV)
 | agg (cs:List PV)
 | tup (vs:List PV)
inductive Ob where
 | row (sz:Nat) (es:List (List PV))
 | rowF (sz:Nat) (es:List (List PV))
 | box (cs:List PV)
 | shadow (sz:Nat) (es:List (List PV)) (ep:Nat)
structure St where
 V:Nat->PV
 E:Nat->PV
 S:Nat->Option Ob
 nx:Nat
 ep:Nat
inductive Opd where
 | V (k:Nat)
 | E (k:Nat)
 | C (x:PV)
inductive Dst where
 | V (k:Nat)
 | E (k:Nat)
inductive Kd where
 | b
 | i (k:IntKind)
 | s
inductive IOp where
 | mv (x:Opd)
 | pick (c a b:Opd)
 | alloc (z:List PV)
 | box (x:Opd)
 | build (z:List PV) (parts:List (Nat×Nat×Opd))
 | bslice (n sz:Nat) (z:List PV) (parts:List (Nat×Opd))
 | allocL (z:List PV)
 | mvL (x:Opd)
 | bsliceL (n sz:Nat) (z:List PV) (parts:List (Nat×Opd))
 | load (ag:Bool) (sz:Nat) (a:Opd)
 | store (szs:List Nat) (a x:Opd)
 | nilc (x:Opd)
 | bin (op:BinOp) (x y:Opd)
 | eqb (neg:Bool) (ks:List Kd) (x y:Opd)
 | un (op:UnOp) (x:Opd)
 | convI (k:IntKind) (x:Opd)
 | toS (x:Opd)
 | mkfn (f:Nat) (caps:List Opd)
 | mksl (bytes sz:Nat) (z:List PV) (l c:Opd)
 | slice (sz:Nat) (x:Opd) (lo hi mx:Option Opd)
 | sliceS (x:Opd) (lo hi:Option Opd)
 | faddr (off:Nat) (x:Opd)
 | iaddr (sz:Nat) (x i:Opd)
 | idx (x i:Opd)
 | ext (i:Nat) (x:Opd)
 | call (f:Nat) (args:List (List Nat×Opd))
 | callv (g:Opd) (args:List (List Nat×Opd))
 | len (x:Opd)
 | lenS (x:Opd)
 | app (bytes sz:Nat) (s x:Opd)
 | appS (s x:Opd)
 | mx (big:Bool) (x y:Opd)
structure zac where
 dst:Option Dst
 op:IOp
 guard:Option (Opd×Bool)
inductive IC where
 | skip
 | reg (ops:List zac)
 | regD (ops:List (zac×Nat×Nat))
 | seq (a b:IC)
 | cond (c:Opd) (x y:IC)
 | block (id:Nat) (c:IC)
 | loop (c:IC)
 | exit (id:Nat)
 | ret
inductive Ex where
 | normal
 | exit (id:Nat)
 | ret
inductive RV where
 | tmp (szs:List Nat) (k:Nat)
 | cell (szs:List Nat) (k:Nat) (ag:Bool)
 | pl
structure IFn where
 modes:List Bool
 results:List RV
 body:IC
def Opd.get (st:St):Opd->PV
 | .V k=>st.V k
 | .E k=>st.E k
 | .C x=>x
def upd {α:Type} (f:Nat->α) (k:Nat) (x:α):Nat->α:=fun i=>if i=k then x else f i
def St.put (st:St):Option Dst->PV->St
 | none,_=>st
 | some (.V k),x => { st with V:=upd st.V k x }
 | some (.E k),x => { st with E:=upd st.E k x }
def isV:PV->Bool
 | .v _=>true
 | _=>false
def okV:Value->Bool
 | .bool _=>true
 | .int _ _=>true
 | .string _=>true
 | .pointer none=>true
 | .nilFunc=>true
 | .nilIface=>true
 | _=>false
def zcl (es:List (List PV)):Bool:=es.all fun e=>e.all isV
def zbe (es:List (List PV)) (i j:Nat):Option (Nat×List (List PV)) :=
 match es[i]? with
 | some cs =>
  match cs[j]? with
  | some (.own sz es')=>some (sz,es')
  | _=>none
 | none=>none
def zb8 (es:List (List PV)) (i j:Nat) (c:PV):List (List PV) :=
 match es[i]? with
 | some cs=>es.set i (cs.set j c)
 | none=>es
def zau (ce:Nat):Option Ob->Option (Nat×Nat)->Nat->Option (Nat×List (List PV))
 | some (.row sz es),none,_=>some (sz,es)
 | some (.row _ es),some (i,j),ep=>if ep=ce then zbe es i j else none
 | some (.rowF sz es),none,_=>some (sz,es)
 | some (.shadow sz es e),none,_=>if e=ce then some (sz,es) else none
 | _,_,_=>none
def zfk (st:St) (o:Nat) (p:Option (Nat×Nat)) (ep:Nat):Option (Nat×List (List PV)):=zau st.ep (st.S o) p ep
def cut (es:List (List PV)) (lo len:Nat):List (List PV):=if lo=0/\len=es.length then es else (es.drop lo).take len
def zfj (st:St):PV->Option (Nat×List (List PV))
 | .sl sz es=>some (sz,es)
 | .ref o p ep lo len=>(zfk st o p ep).map fun r=>(r.1,cut r.2 lo len)
 | _=>none
def fz:PV->PV
 | .own sz es => .sl sz es
 | c=>c
def rd (o ep i j:Nat):PV->PV
 | .own _ es => .ref o (some (i,j)) ep 0 es.length
 | c=>c
def zhq (o ep i:Nat):Nat->List PV->List PV
 | _,[]=>[]
 | j,c::cs=>rd o ep i j c::zhq o ep i (j+1) cs
def rdV:PV->PV
 | .v x => .v x
 | _ => .undef
def seg (cs:List PV) (j sz:Nat):Option (List PV):=if j+sz<=cs.length then some ((cs.drop j).take sz) else none
def zkp (ag:Bool) (cs:List PV):Option PV :=
 if ag then some (.agg cs) else match cs with
 | [c]=>some c
 | _=>none
def zio (ce:Nat) (o sz:Nat):Option Ob->Option (Nat×Nat)->Nat->Nat->Nat->Option (List PV)
 | some (.box cs),none,_,i,j=>if i=0 then seg cs j sz else none
 | some (.row _ es),none,_,i,j=>(es[i]?).bind fun cs=>(seg cs j sz).map (zhq o ce i j)
 | some (.row _ es),some (a,b),ep,i,j=>if ep=ce then (zbe es a b).bind fun r=>(r.2[i]?).bind fun cs=>(seg cs j sz).map (·.map rdV) else none
 | some (.rowF _ es),none,_,i,j=>(es[i]?).bind fun cs=>(seg cs j sz).map (·.map fz)
 | some (.shadow _ es e),none,_,i,j=>if e=ce then (es[i]?).bind fun cs=>(seg cs j sz).map (·.map rdV) else none
 | _,_,_,_,_=>none
def loadCells (st:St) (sz:Nat):PV->Option (List PV)
 | .fptr cs j=>(seg cs j sz).map (·.map fz)
 | .ptr o p ep i j=>zio st.ep o sz (st.S o) p ep i j
 | _=>none
def cellsOf:PV->List PV
 | .agg cs=>cs
 | x=>[x]
def zgd (st:St) (o:Nat):Option Ob->Option (Nat×Nat)->Nat->Nat->Option (PV×St)
 | some (.row s es),none,lo,len=>if lo=0/\len=es.length then some (.own s es,{ st with S:=upd st.S o (some (.shadow s es st.ep)) }) else none
 | _,_,_,_=>none
def zfl (st:St) (sz:Nat):PV->Option (PV×St)
 | .v x=>if okV x then some (.v x,st) else none
 | .e0=>some (.own sz [],st)
 | .ref o p _ lo len=>zgd st o (st.S o) p lo len
 | _=>none
def zdj (st:St):List Nat->List PV->Option (List PV×St)
 | sz::szs,c::cs=>(zfl st sz c).bind fun r=>(zdj r.2 szs cs).bind fun q=>some (r.1::q.1,q.2)
 | [],[]=>some ([],st)
 | _,_=>none
def toF (sz:Nat):PV->Option PV
 | .v x=>if okV x then some (.v x) else none
 | .e0=>some (.sl sz [])
 | .sl s es=>some (.sl s es)
 | _=>none
def zfb:List Nat->List PV->Option (List PV)
 | sz::szs,c::cs=>(toF sz c).bind fun x=>(zfb szs cs).bind fun xs=>some (x::xs)
 | [],[]=>some []
 | _,_=>none
def isF:PV->Bool
 | .sl _ _=>true
 | _=>false
def zc1:PV->Bool
 | .v x=>okV x
 | .e0=>true
 | .sl _ _=>true
 | .ref .. => true
 | _=>false
def over (cs:List PV) (j:Nat) (xs:List PV):List PV:=cs.take j++xs++cs.drop (j+xs.length)
def zep:PV->Bool
 | .v x=>okV x
 | _=>false
def zib (st:St) (o i j:Nat) (ys:List PV):Option Ob->Option St
 | some (.row sz es)=>(es[i]?).bind fun cs =>
  if j+ys.length<=cs.length then
   some { st with S:=upd st.S o (some (.row sz (es.set i (over cs j ys)))),ep:=if ys.all isV && ((cs.drop j).take ys.length).all isV then st.ep else st.ep+1 }
  else none
 | _=>none
def zi5:List PV->Option (Nat×(Nat×Nat)×Nat×Nat×Nat)
 | [.ref o (some q) ep lo len]=>some (o,q,ep,lo,len)
 | _=>none
def zxy (st:St) (o i j:Nat) (d:Nat×(Nat×Nat)×Nat×Nat×Nat) (s:Nat) (es:List (List PV)):Option St :=
 if d.1=o/\d.2.1=(i,j)/\d.2.2.1=st.ep then
  (zbe es i j).bind fun r=>if d.2.2.2.1+d.2.2.2.2<=r.2.length then some { st with S:=upd st.S o (some (.row s (zb8 es i j (.own r.1 (cut r.2 d.2.2.2.1 d.2.2.2.2))))),ep:=st.ep+1 } else none
 else none
def zfp (st:St) (szs:List Nat) (xs:List PV) (o:Nat):Option Ob->Option (Nat×Nat)->Nat->Nat->Nat->Option St
 | some (.box cs),none,_,i,j=>if i=0/\j+xs.length<=cs.length/\xs.all zc1 then some { st with S:=upd st.S o (some (.box (over cs j xs))) } else none
 | some (.row s es),none,_,i,j=>match zi5 xs with
  | some d=>zxy st o i j d s es
  | none=>(zdj st szs xs).bind fun r=>zib r.2 o i j r.1 (r.2.S o)
 | some (.row sz es),some (a,b),ep,i,j =>
  if ep=st.ep/\xs.all zep then
   (zbe es a b).bind fun q=>(q.2[i]?).bind fun cs =>
    if j+xs.length<=cs.length then
     some { st with S:=upd st.S o (some (.row sz (zb8 es a b (.own q.1 (q.2.set i (over cs j xs)))))),ep:=st.ep+1 }
    else none
  else none
 | some (.rowF sz es),none,_,i,j=>(zfb szs xs).bind fun ys=>(es[i]?).bind fun cs =>
  if j+ys.length<=cs.length then some { st with S:=upd st.S o (some (.rowF sz (es.set i (over cs j ys)))) } else none
 | _,_,_,_,_=>none
def zum (st:St) (szs:List Nat) (xs:List PV):PV->Option St
 | .ptr o p ep i j=>if xs.length=szs.length then zfp st szs xs o (st.S o) p ep i j else none
 | _=>none
def storeAt (st:St) (szs:List Nat) (a x:PV):Option St:=zum st szs (cellsOf x) a
def newRow (st:St) (sz:Nat) (es:List (List PV)):PV×St :=
 (.ref st.nx none st.ep 0 es.length,{ st with S:=upd st.S st.nx (some (.row sz es)),nx:=st.nx+1 })
def zhk (st:St) (sz:Nat) (es:List (List PV)):PV×St :=
 (.ref st.nx none st.ep 0 es.length,{ st with S:=upd st.S st.nx (some (.rowF sz es)),nx:=st.nx+1 })
def zb5 (st:St) (cs:List PV):PV×St :=
 (.ptr st.nx none st.ep 0 0,{ st with S:=upd st.S st.nx (some (.box cs)),nx:=st.nx+1 })
def zo9:PV->Nat
 | .own sz _=>sz
 | _=>0
def zda (st:St) (z:List PV) (es:List (List PV)):List (Nat×PV)->Option (List (List PV)×St)
 | []=>some (es,st)
 | (i,x)::r=>(zdj st (z.map zo9) (cellsOf x)).bind fun q=>if i<es.length then zda q.2 z (es.set i q.1) r else none
def ziy (z:List PV) (es:List (List PV)):List (Nat×PV)->Option (List (List PV))
 | []=>some es
 | (i,x)::r=>(zfb (z.map zo9) (cellsOf x)).bind fun ys=>if i<es.length then ziy z (es.set i ys) r else none
def zku (ce a b ep lo len:Nat):Option Ob->Option ((Nat×List (List PV))×Ob)
 | some (.row s es)=>if ep=ce then (zbe es a b).map fun r=>((r.1,cut r.2 lo len),.rowF s (es.map fun e=>e.map fz)) else none
 | _=>none
def zc6 (st:St):List (Nat×PV)->List (Nat×PV)
 | [(i,.ref o (some (a,b)) ep lo len)]=>(zku st.ep a b ep lo len (st.S o)).elim [(i,.ref o (some (a,b)) ep lo len)] fun r=>[(i,.sl r.1.1 r.1.2)]
 | l=>l
def zdc (st:St):List (Nat×PV)->St
 | [(_,.ref o (some (a,b)) ep lo len)]=>(zku st.ep a b ep lo len (st.S o)).elim st fun r => { st with S:=upd st.S o (some r.2),ep:=st.ep+1 }
 | _=>st
def zhd (cs:List PV):List (Nat×Nat×PV)->Option (List PV)
 | []=>some cs
 | (off,sz,x)::r =>
  if (cellsOf x).length=sz/\off+sz<=cs.length/\(cellsOf x).all zc1 then zhd (over cs off (cellsOf x)) r else none
def zhj:PV->Option Int
 | .v (.int _ n)=>some n
 | _=>none
def zg2:PV->Option Bool
 | .v (.bool b)=>some b
 | _=>none
def zcz:PV->Option ByteArray
 | .v (.string s)=>some s
 | _=>none
def zbb:BinOp->Value->Value->Option Value
 | .add,.int k a,.int k' b=>if k=k' then some (.int k (k.wrap (a+b))) else none
 | .sub,.int k a,.int k' b=>if k=k' then some (.int k (k.wrap (a-b))) else none
 | .mul,.int k a,.int k' b=>if k=k' then some (.int k (k.wrap (a*b))) else none
 | .quo,.int k a,.int k' b=>if k=k'/\b≠0 then some (.int k (k.wrap (a.tdiv b))) else none
 | .rem,.int k a,.int k' b=>if k=k'/\b≠0 then some (.int k (a.tmod b)) else none
 | .and,.int k a,.int k' b=>if k=k' then some (.int k (k.wrap (BitVec.ofInt k.bits a &&& BitVec.ofInt k.bits b).toNat)) else none
 | .or,.int k a,.int k' b=>if k=k' then some (.int k (k.wrap (BitVec.ofInt k.bits a ||| BitVec.ofInt k.bits b).toNat)) else none
 | .xor,.int k a,.int k' b=>if k=k' then some (.int k (k.wrap (BitVec.ofInt k.bits a ^^^ BitVec.ofInt k.bits b).toNat)) else none
 | .shl,.int k a,.int _ b=>if 0<=b then some (.int k (k.wrap (a*2 ^ min b.toNat k.bits))) else none
 | .shr,.int k a,.int _ b=>if 0<=b then some (.int k (a.fdiv (2 ^ min b.toNat k.bits))) else none
 | .eql,.int k a,.int k' b=>if k=k' then some (.bool (a == b)) else none
 | .neq,.int k a,.int k' b=>if k=k' then some (.bool (a != b)) else none
 | .lss,.int k a,.int k' b=>if k=k' then some (.bool (a<b)) else none
 | .leq,.int k a,.int k' b=>if k=k' then some (.bool (a<=b)) else none
 | .gtr,.int k a,.int k' b=>if k=k' then some (.bool (a > b)) else none
 | .geq,.int k a,.int k' b=>if k=k' then some (.bool (a ≥ b)) else none
 | .add,.string a,.string b=>if ((a.size+b.size:Nat):Int)<=IntKind.i64.max then some (.string (a++b)) else none
 | .eql,.string a,.string b=>some (.bool (a.toList == b.toList))
 | .neq,.string a,.string b=>some (.bool !(a.toList == b.toList))
 | .lss,.string a,.string b=>some (.bool (Op.bytesLess a.toList b.toList))
 | _,_,_=>none
def unV:UnOp->Value->Option Value
 | .neg,.int k a=>some (.int k (k.wrap (0-a)))
 | .not,.bool b=>some (.bool !b)
 | _,_=>none
def zml (op:BinOp):PV->PV->Option PV
 | .v a,.v b=>(zbb op a b).map .v
 | _,_=>none
def unP (op:UnOp):PV->Option PV
 | .v a=>(unV op a).map .v
 | _=>none
def eqV:Kd->Value->Value->Option Bool
 | .i k,.int k1 a,.int k2 b=>if k1=k/\k2=k then some (a == b) else none
 | .b,.bool a,.bool b=>some (a == b)
 | .s,.string a,.string b=>some (a == b)
 | _,_,_=>none
def zcd:List Kd->List PV->List PV->Option Bool
 | [],[],[]=>some true
 | k::ks,.v x::xs,.v y::ys=>(eqV k x y).bind fun b=>if b then zcd ks xs ys else some false
 | _,_,_=>none
def eqP:List Kd->PV->PV->Option Bool
 | [k],.v x,.v y=>eqV k x y
 | k::l::ks,.agg xs,.agg ys=>zcd (k::l::ks) xs ys
 | _,_,_=>none
def zb2 (x:PV):Option Nat:=(zhj x).bind fun n=>if 0<=n then some n.toNat else none
def lenOf (st:St):PV->Option Nat
 | .e0=>some 0
 | .sl _ es=>some es.length
 | .ref o p ep _ len=>if (zfk st o p ep).isSome then some len else none
 | _=>none
def iaddr (st:St) (sz i:Nat):PV->Option PV
 | .sl s es=>if s=sz then (es[i]?).map fun cs => .fptr cs 0 else none
 | .ref o p ep lo len=>(zfk st o p ep).bind fun r=>if r.1=sz/\i<len then some (.ptr o p ep (lo+i) 0) else none
 | _=>none
def zil (s:ByteArray):List (List PV):=s.data.toList.map fun b=>[.v (.int .u8 (b.toNat:Int))]
def zkj:List (List PV)->Option (List UInt8)
 | []=>some []
 | [.v (.int .u8 n)]::r=>(zkj r).map fun l=>n.toNat.toUInt8::l
 | _=>none
def sliceS (s:ByteArray) (lo hi:Option Nat):Option PV :=
 if lo.getD 0<=hi.getD s.size/\hi.getD s.size<=s.size then some (.v (.string (s.extract (lo.getD 0) (hi.getD s.size)))) else none
def zt9 (st:St) (sz l h:Nat):PV->Option PV
 | .e0=>some .e0
 | .sl s es=>if s=sz then some (.sl s ((es.drop l).take (h-l))) else none
 | .ref o p ep lo _=>(zfk st o p ep).bind fun r=>if r.1=sz then some (.ref o p ep (lo+l) (h-l)) else none
 | _=>none
def zk1 (st:St) (sz:Nat) (x:PV) (lo hi:Option Nat):Option Nat->Option PV
 | some m=>(lenOf st x).bind fun n=>if m=0/\hi=some 0/\lo.getD 0=0/\0<=n then some .e0 else none
 | none=>(lenOf st x).bind fun n=>if lo.getD 0<=hi.getD n/\hi.getD n<=n then zt9 st sz (lo.getD 0) (hi.getD n) x else none
def zag (bytes n:Nat):Bool:=n*bytes<=140737488355328 && n<=140737488355328
def zgl (st:St) (sz o:Nat):Option Ob->Option (Nat×Nat)->Nat->Nat->Nat->Option (List (List PV)×Bool×St)
 | some (.row s es),none,_,lo,len=>if s=sz/\lo+len=es.length then some (es.drop lo,false,{ st with S:=upd st.S o none }) else none
 | some (.row s es),some (i,j),ep,lo,len=>if ep=st.ep then
   (zbe es i j).bind fun r=>if r.1=sz/\lo+len=r.2.length then
    some (r.2.drop lo,false,{ st with S:=upd st.S o (some (.row s (zb8 es i j .undef))),ep:=st.ep+1 }) else none
  else none
 | some (.rowF s es),none,_,lo,len=>if s=sz/\lo+len=es.length then some (es.drop lo,true,{ st with S:=upd st.S o none }) else none
 | _,_,_,_,_=>none
def zf4 (st:St) (sz:Nat):PV->Option (List (List PV)×Bool×St)
 | .e0=>some ([],false,st)
 | .ref o p ep lo len=>zgl st sz o (st.S o) p ep lo len
 | _=>none
def zgy (st:St) (o:Nat):Option Ob->Option (Nat×Nat)->Nat->Nat->Option (List (List PV)×Option Bool×St)
 | some (.row _ es),none,lo,len=>if lo=0/\len=es.length then some (es,some false,{ st with S:=upd st.S o none }) else none
 | some (.rowF _ es),none,lo,len=>some (cut es lo len,some true,st)
 | _,_,_,_=>none
def zf7 (st:St) (sz:Nat):PV->Option (List (List PV)×Option Bool×St)
 | .e0=>some ([],none,st)
 | .sl s es=>if s=sz/\zcl es then some (es,none,st) else none
 | .ref o p ep lo len =>
  (zfk st o p ep).bind fun r =>
   if r.1=sz then
    if zcl (cut r.2 lo len) then some (cut r.2 lo len,none,st) else zgy st o (st.S o) p lo len
   else none
 | _=>none
def zg7 (st:St) (sz:Nat) (es:List (List PV)):Bool->Option Bool->Option (PV×St)
 | false,none=>some (newRow st sz es)
 | false,some false=>some (newRow st sz es)
 | true,none=>some (zhk st sz es)
 | true,some true=>some (zhk st sz es)
 | _,_=>none
def zkm (st:St) (bytes sz:Nat) (s x:PV):Option (PV×St) :=
 (zf7 st sz x).bind fun m=>(zf4 m.2.2 sz s).bind fun b =>
  if zag bytes (b.1.length+m.1.length) then zg7 b.2.2 sz (b.1++m.1) b.2.1 m.2.1 else none
def appS (st:St) (s:PV) (t:ByteArray):Option (PV×St) :=
 (zf4 st 1 s).bind fun b=>if zag 1 (b.1.length+t.size) then zg7 b.2.2 1 (b.1++zil t) b.2.1 none else none
def zdr (c:PV):Bool:=zep c || isF c
def zjn:Option Ob->Option (Nat×Nat)->Nat->Nat->Option PV
 | some (.box cs),none,i,j=>if i=0/\cs.all zdr then some (.fptr cs j) else none
 | _,_,_,_=>none
def zce (st:St) (sz:Nat):PV->Option PV
 | .v x=>some (.v x)
 | .e0=>some (.sl sz [])
 | .sl s es=>some (.sl s es)
 | .ref o p ep lo len=>(zfk st o p ep).map fun r => .sl r.1 (cut r.2 lo len)
 | .fptr cs j=>some (.fptr cs j)
 | .ptr o p _ i j=>zjn (st.S o) p i j
 | _=>none
def zfc (st:St):List Nat->List PV->Option (List PV)
 | sz::szs,c::cs=>(zce st sz c).bind fun x=>(zfc st szs cs).bind fun xs=>some (x::xs)
 | [],c::cs=>(zce st 0 c).bind fun x=>(zfc st [] cs).bind fun xs=>some (x::xs)
 | _,[]=>some []
def zcs (st:St) (szs:List Nat):PV->Option PV
 | .agg cs=>(zfc st szs cs).map .agg
 | .fn f caps=>(zfc st [] caps).map (.fn f)
 | x=>zce st (szs.headD 0) x
def zmo (o ep lo len:Nat):Option Ob->Option (PV×List PV)
 | some (.row s es)=>if lo=0/\len=es.length then some (.own s es,[.ref o none ep lo len]) else none
 | _=>none
def zkv (o ep:Nat):Option Ob->Option (Nat×Nat)->Nat->Nat->Option (PV×List PV)
 | some (.box cs),none,i,j=>if i=0/\j=0/\cs.all zdr then some (.bx cs,[.ptr o none ep 0 0]) else none
 | _,_,_,_=>none
def zdf (st:St) (sz:Nat):PV->Option (PV×List PV)
 | .v x=>some (.v x,[])
 | .e0=>some (.own sz [],[.e0])
 | .ref o none ep lo len=>zmo o ep lo len (st.S o)
 | .ptr o p ep i j=>zkv o ep (st.S o) p i j
 | _=>none
def zgs (st:St):List Nat->List PV->Option (List PV×List PV)
 | sz::szs,c::cs=>(zdf st sz c).bind fun r=>(zgs st szs cs).bind fun q=>some (r.1::q.1,r.2++q.2)
 | [],c::cs=>(zdf st 0 c).bind fun r=>(zgs st [] cs).bind fun q=>some (r.1::q.1,r.2++q.2)
 | _,[]=>some ([],[])
def zfu (st:St) (szs:List Nat):PV->Option (PV×List PV)
 | .agg cs=>(zgs st szs cs).map fun q=>(.agg q.1,q.2)
 | x=>zdf st (szs.headD 0) x
def zcy (st:St):List Bool->List (List Nat×PV)->Option (List PV×List PV)
 | _,[]=>some ([],[])
 | m::ms,(szs,x)::xs =>
  (if m then zfu st szs x else (zcs st szs x).map fun y=>(y,[])).bind fun r =>
   (zcy st ms xs).bind fun q=>some (r.1::q.1,r.2++q.2)
 | [],(szs,x)::xs=>(zcs st szs x).bind fun y=>(zcy st [] xs).bind fun q=>some (y::q.1,q.2)
def root:PV->List Nat
 | .ref o _ _ _ _=>[o]
 | .ptr o _ _ _ _=>[o]
 | _=>[]
def zd1:PV->List Nat
 | .agg cs=>cs.flatMap root
 | .fn _ cs=>cs.flatMap root
 | x=>root x
def zew:List Nat->Bool
 | []=>true
 | x::xs => !xs.any (fun y=>y=x) && zew xs
def ze1:PV->Bool
 | .own _ _=>true
 | .undef=>true
 | _=>false
def putRow (st:St) (o len s:Nat) (es':List (List PV)):Option Ob->Option (Nat×Nat)->Option St
 | some (.row sz es),none=>if es'.length=len/\s=sz/\es.length=len then some { st with S:=upd st.S o (some (.row sz es')) } else none
 | _,_=>none
def zpu (st:St) (o:Nat) (cs':List PV):Option Ob->Option St
 | some (.box cs)=>if cs'.length=cs.length then some { st with S:=upd st.S o (some (.box cs')) } else none
 | _=>none
def zpg (st:St) (o:Nat):Option Ob->Option St
 | some (.row _ _)=>some { st with S:=upd st.S o none }
 | _=>none
def zcx (st:St):PV->PV->Option St
 | .e0,.own _ es=>if es.length=0 then some st else none
 | .e0,.undef=>some st
 | .ref o _ _ _ _,.undef=>zpg st o (st.S o)
 | .ref o p _ _ len,.own s es'=>putRow st o len s es' (st.S o) p
 | .ptr o _ _ _ _,.bx cs'=>zpu st o cs' (st.S o)
 | _,_=>none
def zeq (st:St):List PV->List PV->Option St
 | [],[]=>some st
 | t::ts,o::os=>(zcx st t o).bind fun st=>zeq st ts os
 | _,_=>none
def zdo (st:St) (nofz:Bool):PV->Option (PV×St)
 | .v x=>some (.v x,st)
 | .sl sz es=>if nofz then none else some (.sl sz es,st)
 | .own sz es=>some (newRow st sz es)
 | .bx cs=>if nofz && cs.any isF then none else some (zb5 st cs)
 | _=>none
def zgi (st:St) (nofz:Bool):List PV->Option (List PV×St)
 | []=>some ([],st)
 | c::cs=>(zdo st nofz c).bind fun r=>(zgi r.2 nofz cs).bind fun q=>some (r.1::q.1,q.2)
def zfe (st:St) (nofz:Bool):PV->Option (PV×St)
 | .agg cs=>(zgi st nofz cs).map fun q=>(.agg q.1,q.2)
 | x=>zdo st nofz x
def zfv (st:St) (nofz:Bool):List PV->Option (List PV×St)
 | []=>some ([],st)
 | c::cs=>(zfe st nofz c).bind fun r=>(zfv r.2 nofz cs).bind fun q=>some (r.1::q.1,q.2)
abbrev zak:=Nat->List PV->Option (List PV×List PV)
def zpc:List PV->PV
 | [x]=>x
 | vs => .tup vs
def zej (args:List (List Nat×PV)):List Nat:=args.flatMap fun x=>zd1 x.2
def zyh (rs all:List Nat):Bool:=rs.all fun o=>(all.filter (fun y=>y=o)).length=1
def zyf:PV->Bool
 | .own _ es=>zcl es
 | _=>true
def zf9:Option Ob->Option Ob
 | some (.shadow _ _ _)=>none
 | x=>x
def ybf (S:Nat->Option Ob):Nat->Option Ob:=fun o=>zf9 (S o)
def zhb (fl b:Bool) (st:St):St:=if b then (if fl then { st with S:=ybf st.S } else { st with ep:=st.ep+1 }) else st
def zk8:Option Ob->Bool
 | some (.shadow _ _ _)=>true
 | _=>false
def zix (st:St):List Nat->Bool
 | []=>true
 | o::os => !zk8 (st.S o) && zix st os
def zxr:List PV->Bool
 | []=>true
 | _=>false
def z7u:PV->Bool
 | .bx cs=>cs.any isF
 | _=>false
def zhp (args:List (List Nat×PV)) (hs:List PV):Bool:=(zej args).length != (hs.flatMap root).length
def zgx (fl:Bool) (R:zak) (st:St) (f:Nat) (args:List (List Nat×PV)) (a:List PV×List PV):Option (PV×St) :=
  if zyh (a.2.flatMap root) (zej args) && (zxr a.2 || zix st (zej args)) then
   (R f a.1).bind fun r =>
    if zhp args a.2 && r.2.any z7u || fl && !r.2.all zyf then none else
    (zeq st a.2 r.2).bind fun st1 =>
     (zfv (zhb fl (r.2.any ze1) st1) (zhp args a.2) r.1).map fun q=>(zpc q.1,q.2)
  else none
def ze2 (modes:Nat->List Bool) (R:zak) (st:St) (f:Nat) (args:List (List Nat×PV)):Option (PV×St) :=
 (zcy st (modes f) args).bind (zgx (decide (args.length<(modes f).length)) R st f args)
structure Sub where
 o:Nat
 i:Nat
 j:Nat
 sz:Nat
 es:List (List PV)
 s2:Nat
 es2:List (List PV)
def zih (ce o i j ep lo len:Nat):Option Ob->Option Sub
 | some (.row sz es)=>if ep=ce then (zbe es i j).bind fun r=>if lo=0/\len=r.2.length then some ⟨o,i,j,sz,es,r.1,r.2⟩ else none else none
 | _=>none
def zfw (st:St):PV->Option Sub
 | .ref o (some (i,j)) ep lo len=>zih st.ep o i j ep lo len (st.S o)
 | _=>none
def zgk {α β:Type} (x:Option α) (y:Option β) (k:α->Option β):Option β:=match x with
 | some a=>k a
 | none=>y
def zhc (st:St):List PV->Option Sub
 | []=>none
 | c::cs=>zgk (zfw st c) (zhc st cs) some
def zeg (st:St):List Bool->List (List Nat×PV)->Option Sub
 | true::ms,q::xs=>zgk (zhc st (cellsOf q.2)) (zeg st ms xs) some
 | false::ms,_::xs=>zeg st ms xs
 | _,_=>none
def zgr (d:Sub) (n e:Nat):PV->PV
 | .ref o p ep lo len=>if o=d.o/\p=some (d.i,d.j)/\ep=e then .ref n none (e+1) lo len else .ref o p ep lo len
 | c=>c
def zho (d:Sub) (n e:Nat):PV->PV
 | .agg cs => .agg (cs.map (zgr d n e))
 | .fn f cs => .fn f cs
 | x=>zgr d n e x
def zkt (d:Sub) (n e:Nat) (args:List (List Nat×PV)):List (List Nat×PV):=args.map fun q=>(q.1,zho d n e q.2)
def zcc (st:St) (d:Sub):St :=
 { st with S:=upd (upd st.S d.o (some (.row d.sz (zb8 d.es d.i d.j .undef)))) st.nx (some (.row d.s2 d.es2)),nx:=st.nx+1,ep:=st.ep+1 }
def zo3 (st:St) (n o i j:Nat):Option Ob->Option Ob->Option St
 | some (.row s es'),some (.row sz es)=>some { st with S:=upd (upd st.S n none) o (some (.row sz (zb8 es i j (.own s es')))),ep:=st.ep+1 }
 | _,_=>none
def zox (st:St) (n:Nat) (d:Sub):Option St:=zo3 st n d.o d.i d.j (st.S n) (st.S d.o)
def zji (modes:Nat->List Bool) (R:zak) (st:St) (f:Nat) (args:List (List Nat×PV)) (d:Sub):Option (PV×St) :=
 if (zej (zkt d st.nx st.ep args)).any (fun o=>o=d.o) then none else
  (ze2 modes R (zcc st d) f (zkt d st.nx st.ep args)).bind fun r=>(zox r.2 st.nx d).map fun s=>(r.1,s)
def zdt (modes:Nat->List Bool) (R:zak) (st:St) (f:Nat) (args:List (List Nat×PV)):Option (PV×St) :=
 zgk (zeg st (modes f) args) (ze2 modes R st f args) (zji modes R st f args)
def zbp (st:St):Option Opd->Option (Option Nat)
 | none=>some none
 | some y=>(zb2 (y.get st)).map some
def ziq (ce:Nat):Option Ob->Option (Nat×Nat)->Nat->Nat->Bool
 | some (.box _),none,_,i=>i == 0
 | some (.row sz es),p,ep,_=>(zau ce (some (.row sz es)) p ep).isSome
 | some (.rowF sz es),p,ep,_=>(zau ce (some (.rowF sz es)) p ep).isSome
 | some (.shadow sz es e),p,ep,_=>(zau ce (some (.shadow sz es e)) p ep).isSome
 | _,_,_,_=>false
def zip (st:St):PV->Option PV
 | .ptr o p ep i j=>if ziq st.ep (st.S o) p ep i then some (.ptr o p ep i j) else none
 | .fptr cs j=>some (.fptr cs j)
 | .fn f caps=>some (.fn f caps)
 | _=>none
def zic (st:St) (off:Nat):PV->Option PV
 | .ptr o p ep i j=>if ziq st.ep (st.S o) p ep i then some (.ptr o p ep i (j+off)) else none
 | .fptr cs j=>some (.fptr cs (j+off))
 | _=>none
def zmj (i:Nat):PV->Option PV
 | .tup vs=>vs[i]?
 | _=>none
def zpj (modes:Nat->List Bool) (R:zak) (st:St) (args:List (List Nat×PV)):PV->Option (PV×St)
 | .fn f caps=>zdt modes R st f (args++caps.map fun c=>([],c))
 | _=>none
def mxP (big:Bool):PV->PV->Option PV
 | .v (.int k a),.v (.int k' b)=>if k=k' then some (.v (.int k (if big then (if a<b then b else a) else (if b<a then b else a)))) else none
 | _,_=>none
def zpm:PV->Bool
 | .agg _=>false
 | .fn _ _=>false
 | .tup _=>false
 | _=>true
def zb6 (st:St) (ps:List (Nat×Opd)):List (Nat×PV):=ps.map fun q=>(q.1,q.2.get st)
def zah (modes:Nat->List Bool) (R:zak) (st:St):IOp->Option (PV×St)
 | .mv x=>some (x.get st,st)
 | .pick c a b=>(zg2 (c.get st)).map fun t=>(if t then a.get st else b.get st,st)
 | .alloc z=>some (zb5 st z)
 | .box x=>if (cellsOf (x.get st)).all zc1 then some (zb5 st (cellsOf (x.get st))) else none
 | .build z ps=>(zhd z (ps.map fun q=>(q.1,q.2.1,q.2.2.get st))).map fun cs=>(.agg cs,st)
 | .bslice n sz z ps =>
  if (zc6 st (zb6 st ps)).any fun q=>(cellsOf q.2).any isF then
   (ziy z (List.replicate n (z.map fz)) (zc6 st (zb6 st ps))).map fun es=>zhk (zdc st (zb6 st ps)) sz es
  else (zda (zdc st (zb6 st ps)) z (List.replicate n z) (zc6 st (zb6 st ps))).map fun q=>newRow q.2 sz q.1
 | .allocL z=>some (zb5 st z)
 | .mvL x=>some (x.get st,st)
 | .bsliceL n sz z ps=>(zda st z (List.replicate n z) (zb6 st ps)).map fun q=>newRow q.2 sz q.1
 | .load ag sz a=>(loadCells st sz (a.get st)).bind fun cs=>(zkp ag cs).map fun x=>(x,st)
 | .store szs a x=>(storeAt st szs (a.get st) (x.get st)).map fun st=>(.undef,st)
 | .nilc x=>(zip st (x.get st)).map fun r=>(r,st)
 | .bin op x y=>(zml op (x.get st) (y.get st)).map fun r=>(r,st)
 | .eqb neg ks x y=>(eqP ks (x.get st) (y.get st)).map fun b=>(.v (.bool (b != neg)),st)
 | .un op x=>(unP op (x.get st)).map fun r=>(r,st)
 | .convI k x=>(zhj (x.get st)).map fun n=>(.v (.int k (k.wrap n)),st)
 | .toS x=>(zfj st (x.get st)).bind fun r=>(zkj r.2).map fun l=>(.v (.string ⟨l.toArray⟩),st)
 | .mkfn f caps=>if (caps.map (Opd.get st)).all zpm then some (.fn f (caps.map (Opd.get st)),st) else none
 | .mksl bytes sz z l c=>(zb2 (l.get st)).bind fun n=>(zb2 (c.get st)).bind fun m =>
  if n<=m/\zag bytes m then some (newRow st sz (List.replicate n z)) else none
 | .slice sz x lo hi mx =>
  (zbp st lo).bind fun l=>(zbp st hi).bind fun h=>(zbp st mx).bind fun m=>(zk1 st sz (x.get st) l h m).map fun r=>(r,st)
 | .sliceS x lo hi =>
  (zcz (x.get st)).bind fun s=>(zbp st lo).bind fun l=>(zbp st hi).bind fun h=>(sliceS s l h).map fun r=>(r,st)
 | .faddr off x=>(zic st off (x.get st)).map fun r=>(r,st)
 | .iaddr sz x i=>(zb2 (i.get st)).bind fun k=>(iaddr st sz k (x.get st)).map fun r=>(r,st)
 | .idx x i=>(zcz (x.get st)).bind fun s=>(zb2 (i.get st)).bind fun k=>(s[k]?).map fun b=>(.v (.int .u8 (b.toNat:Int)),st)
 | .ext i x=>(zmj i (x.get st)).map fun r=>(r,st)
 | .call f args=>zdt modes R st f (args.map fun q=>(q.1,q.2.get st))
 | .callv g args=>zpj modes R st (args.map fun q=>(q.1,q.2.get st)) (g.get st)
 | .len x=>(lenOf st (x.get st)).map fun (n:Nat)=>(.v (.int .i64 (n:Int)),st)
 | .lenS x=>(zcz (x.get st)).map fun s=>(.v (.int .i64 (s.size:Int)),st)
 | .appS s x=>(zcz (x.get st)).bind fun t=>appS st (s.get st) t
 | .app bytes sz s x=>zkm st bytes sz (s.get st) (x.get st)
 | .mx big x y=>(mxP big (x.get st) (y.get st)).map fun r=>(r,st)
def zh6 (want:Bool):PV->Option Bool
 | .v (.bool b)=>some (b == want)
 | .v _=>some false
 | _=>none
def zc0 (st:St):Option (Opd×Bool)->Option Bool
 | none=>some true
 | some (g,want)=>zh6 want (g.get st)
def zdh (modes:Nat->List Bool) (R:zak):List zac->St->Option St
 | [],st=>some st
 | o::os,st=>(zc0 st o.guard).bind fun t =>
  if t then (zah modes R st o.op).bind fun r=>zdh modes R os (r.2.put o.dst r.1)
  else zdh modes R os (st.put o.dst (.v Go.undef))
def quiet:IOp->Bool
 | .alloc _=>false
 | .box _=>false
 | .bslice .. => false
 | .allocL _=>false
 | .mvL _=>false
 | .bsliceL .. => false
 | .store .. => false
 | .mksl .. => false
 | .call .. => false
 | .callv .. => false
 | .app .. => false
 | .appS .. => false
 | _=>true
def evG (modes:Nat->List Bool) (R:zak) (st:St) (o:zac):Option (PV×St) :=
 (zc0 st o.guard).bind fun t=>if t then zah modes R st o.op else some (.v Go.undef,st)
def yv (st:St) (o:zac):Option PV:=(evG (fun _=>[]) (fun _ _=>none) st o).map Prod.fst
def za2 (V E:Nat->PV) (o:zac) (x:PV):Nat->List St->Prop
 | 0,_=>True
 | _+1,[]=>True
 | n+1,m::ms=>yv { m with V:=V,E:=E } o=some x/\za2 V E o x n ms
def zck (st:St):List (zac×PV×Nat)->Prop
 | []=>True
 | (_,_,0)::r=>zck st r
 | (o,x,_+1)::r=>yv st o=some x/\zck st r
def zc9:List (zac×PV×Nat)->List (zac×PV×Nat)
 | []=>[]
 | (_,_,0)::r=>zc9 r
 | (o,x,n+1)::r=>(o,x,n)::zc9 r
open Classical in
noncomputable def evD (modes:Nat->List Bool) (R:zak):List (zac×Nat×Nat)->List (zac×PV×Nat)->List St->St->Option St
 | [],_,_,st=>some st
 | (o,b,w)::os,todo,past,st =>
  (evG modes R st o).bind fun r =>
   if quiet o.op then
    if za2 st.V st.E o r.1 b past then evD modes R os (if w=0 then todo else (o,r.1,w)::todo) past (st.put o.dst r.1) else none
   else if zck r.2 todo then evD modes R os (zc9 todo) (st::past) (r.2.put o.dst r.1) else none
def Ex.go (k:St->Option (Ex×St)):Ex×St->Option (Ex×St)
 | (.normal,st)=>k st
 | r=>some r
def Ex.out (id:Nat):Ex×St->Ex×St
 | (.exit i,st)=>(if i=id then .normal else .exit i,st)
 | r=>r
def zd7 (F:St->Option (Ex×St)):Nat->St->Option (Ex×St)
 | 0,_=>none
 | n+1,st=>(F st).bind (Ex.go (zd7 F n))
noncomputable def evC (modes:Nat->List Bool) (R:zak) (n:Nat):IC->St->Option (Ex×St)
 | .skip,st=>some (.normal,st)
 | .reg ops,st=>(zdh modes R ops { st with E:=fun _ => .undef }).map fun st=>(.normal,st)
 | .regD ops,st=>(evD modes R ops [] [] { st with E:=fun _ => .undef }).map fun st=>(.normal,st)
 | .seq a b,st=>(evC modes R n a st).bind (Ex.go (evC modes R n b))
 | .cond c x y,st=>(zg2 (c.get st)).bind fun t=>if t then evC modes R n x st else evC modes R n y st
 | .block id c,st=>(evC modes R n c st).map (Ex.out id)
 | .loop c,st=>zd7 (evC modes R n c) n st
 | .exit id,st=>some (.exit id,st)
 | .ret,st=>some (.ret,st)
def zcw (st:St):PV->Option (PV×St)
 | .v x=>some (.v x,st)
 | .sl sz es=>some (.sl sz es,st)
 | .fptr cs j=>some (.fptr cs j,st)
 | .own sz es=>some (newRow st sz es)
 | .bx cs=>some (zb5 st cs)
 | .fn f caps=>some (.fn f caps,st)
 | _=>none
def zk7 (st:St):List PV->Option (List PV×St)
 | []=>some ([],st)
 | c::cs=>(zcw st c).bind fun r=>(zk7 r.2 cs).bind fun q=>some (r.1::q.1,q.2)
def zgw (st:St):PV->Option (PV×St)
 | .agg cs=>(zk7 st cs).map fun q=>(.agg q.1,q.2)
 | x=>zcw st x
def zk2 (st:St):List PV->Option (List PV×St)
 | []=>some ([],st)
 | c::cs=>(zgw st c).bind fun r=>(zk2 r.2 cs).bind fun q=>some (r.1::q.1,q.2)
def st0:St := { V:=fun _ => .undef,E:=fun _ => .undef,S:=fun _=>none,nx:=0,ep:=0 }
def zky (args:List PV):Option St :=
 (zk2 st0 args).map fun q => { q.2 with V:=fun k=>q.1.getD k .undef }
def zks (io o:Nat):Option Ob->Option (Nat×Nat)->Nat->Nat->Option PV
 | some (.row s es),none,lo,len=>if io<=o then some (.own s (cut es lo len)) else none
 | _,_,_,_=>none
def zk6 (io o:Nat):Option Ob->Option (Nat×Nat)->Nat->Nat->Option PV
 | some (.box cs),none,i,j=>if io<=o/\i=0/\j=0/\cs.all zdr then some (.bx cs) else none
 | _,_,_,_=>none
def zde (st:St) (io sz:Nat):PV->Option PV
 | .v x=>some (.v x)
 | .e0=>some (.own sz [])
 | .sl s es=>some (.sl s es)
 | .ref o p _ lo len=>zks io o (st.S o) p lo len
 | .ptr o p _ i j=>zk6 io o (st.S o) p i j
 | _=>none
def zi3 (st:St) (io:Nat):List Nat->List PV->Option (List PV)
 | sz::szs,c::cs=>(zde st io sz c).bind fun x=>(zi3 st io szs cs).bind fun xs=>some (x::xs)
 | [],c::cs=>(zde st io 0 c).bind fun x=>(zi3 st io [] cs).bind fun xs=>some (x::xs)
 | _,[]=>some []
def zg6 (st:St) (io:Nat) (szs:List Nat):PV->Option PV
 | .agg cs=>(zi3 st io szs cs).map .agg
 | x=>zde st io (szs.headD 0) x
def zpb (st:St):RV->Option PV
 | .tmp _ k=>some (st.V k)
 | .cell szs k ag=>(loadCells st szs.length (st.V k)).bind (zkp ag)
 | .pl=>none
def RV.szs:RV->List Nat
 | .tmp s _=>s
 | .cell s _ _=>s
 | .pl=>[]
def zk9 (st:St) (io:Nat):List (List Nat×PV)->Option (List PV)
 | []=>some []
 | (szs,x)::r=>(zg6 st io szs x).bind fun y=>(zk9 st io r).bind fun ys=>some (y::ys)
def zjf (st:St):List RV->Option (List (List Nat×PV))
 | []=>some []
 | r::rs=>(zpb st r).bind fun x=>(zjf st rs).bind fun xs=>some ((r.szs,x)::xs)
def zig:Option Ob->Option PV
 | some (.row sz es)=>some (.own sz es)
 | some (.box cs)=>if cs.all zdr then some (.bx cs) else none
 | _=>none
def zkw (st:St):Nat->Option (List PV)
 | 0=>some []
 | n+1=>(zkw st n).bind fun l=>(zig (st.S n)).map fun x=>l++[x]
def zuw:List RV->Bool
 | .pl::_=>true
 | _=>false
def zmk:List RV->List RV
 | .pl::r=>r
 | r=>r
def zk5 (d:Sub) (n e:Nat):PV->PV
 | .ref o (some q) ep lo len=>if o=d.o/\ep=e then (if q=(d.i,d.j) then .ref n none (e+1) lo len else .ref o (some q) (e+1) lo len) else .ref o (some q) ep lo len
 | c=>c
def zux (d:Sub) (n e:Nat):PV->PV
 | .agg cs => .agg (cs.map (zk5 d n e))
 | .fn f cs => .fn f cs
 | x=>zk5 d n e x
def zjb:Nat->St->List (List Nat×PV)->St×List (List Nat×PV)
 | 0,st,xs=>(st,xs)
 | n+1,st,xs=>match zhc st (xs.flatMap fun x=>cellsOf x.2) with
  | some d=>zjb n (zcc st d) (xs.map fun q=>(q.1,zux d st.nx st.ep q.2))
  | none=>(st,xs)
def zx1 (io:Nat) (r:St×List (List Nat×PV)):Option (List PV×List PV) :=
 if zew (r.2.flatMap fun x=>zd1 x.2) then
  (zk9 r.1 io r.2).bind fun ys=>(zkw r.1 io).map fun os=>(ys,os)
 else none
def zfs (fn:IFn) (io:Nat) (st:St):Option (List PV×List PV) :=
 (zjf st (zmk fn.results)).bind fun xs=>zx1 io (if zuw fn.results then zjb 2 st xs else (st,xs))
def Ex.fin (k:St->Option (List PV×List PV)):Ex×St->Option (List PV×List PV)
 | (.normal,st)=>k st
 | (.ret,st)=>k st
 | _=>none
noncomputable def zo7 (modes:Nat->List Bool) (R:zak) (n:Nat) (fn:IFn) (args:List PV):Option (List PV×List PV) :=
 (zky args).bind fun st=>(evC modes R n fn.body st).bind (Ex.fin (zfs fn st.nx))
inductive Fun where
 | code (fn:IFn)
 | known (modes:List Bool) (g:List PV->Option (List PV×List PV))
 | ext (g:List Value->Option (List Value))
def Fun.modes:Fun->List Bool
 | .code fn=>fn.modes
 | .known m _=>m
 | .ext _=>[]
def zmb:List PV->Option (List Value)
 | []=>some []
 | .v x::r=>(zmb r).map (x :: ·)
 | _=>none
def ycy (g:List Value->Option (List Value)) (args:List PV):Option (List PV×List PV):=(zmb args).bind fun xs=>(g xs).map fun ys=>(ys.map .v,[])
abbrev zcm:=Nat->Option Fun
def zad (T:zcm) (f:Nat):List Bool:=((T f).map Fun.modes).getD []
noncomputable def run (T:zcm):Nat->zak
 | 0,_,_=>none
 | n+1,f,args=>(T f).bind fun
  | .code fn=>zo7 (zad T) (run T n) n fn args
  | .known _ g=>g args
  | .ext g=>ycy g args
end Go.Pe
namespace Go.Pe
open Go
variable {R R':zak} {st:St} {f:Nat} {args:List (List Nat×PV)} {r:PV×St} {T:zcm}
theorem zgq {α β:Type} {a a':Option α} {f f':α->Option β} {r:β} (h:a.bind f=some r) (ha : ∀ x,a=some x->a'=some x) (hf : ∀ x,a=some x->f x=some r->f' x=some r):a'.bind f'=some r:=by
 obtain ⟨x,hx,hr⟩:=bA h;rw [ha x hx]; exact hf x hx hr
def OLe (R R':zak):Prop := ∀ f a r,R f a=some r->R' f a=some r
theorem y92 (hR:OLe R R') {a:List PV×List PV} {fl:Bool} (h:zgx fl R st f args a=some r):zgx fl R' st f args a=some r:=by
 unfold zgx at h ⊢;split at h
 ·rename_i c; rw [if_pos c]; exact zgq h (fun x hx=>hR _ _ _ hx) (fun _ _ h=>h)
 ·cases h
theorem yrh {modes:Nat->List Bool} (hR:OLe R R') (h:ze2 modes R st f args=some r):ze2 modes R' st f args=some r :=
 zgq h (fun _ h=>h) (fun _ _ ha=>y92 hR ha)
theorem ypo {modes:Nat->List Bool} (hR:OLe R R') (h:zdt modes R st f args=some r):zdt modes R' st f args=some r:=by
 unfold zdt zgk at h ⊢;cases hd:zeg st (modes f) args with
 | none=>rw [hd] at h; exact yrh hR h
 | some d =>
  rw [hd] at h;simp only [zji] at h ⊢;split at h
  ·cases h
  ·rename_i c; rw [if_neg c]; exact zgq h (fun _ hx=>yrh hR hx) (fun _ _ h=>h)
theorem yca {modes:Nat->List Bool} (hR:OLe R R') {o:IOp} (h:zah modes R st o=some r):zah modes R' st o=some r:=by
 cases o
 case call f args=>exact ypo hR h
 case callv g args =>
  simp only [zah] at h ⊢;cases hg:g.get st <;> rw [hg] at h <;> first | exact ypo hR h | cases h
 all_goals exact h
theorem z7k {modes:Nat->List Bool} {R R':zak} (hR:OLe R R') : ∀ (os:List zac) (st st':St),zdh modes R os st=some st'->zdh modes R' os st=some st'
 | [],_,_,h=>h
 | o::os,st,st',h=>by
  unfold zdh at h ⊢;refine zgq h (fun _ h=>h) (fun t _ ht => ?_);cases t with
  | true=>exact zgq ht (fun _ hx=>yca hR hx) (fun _ _ h=>z7k hR os _ _ h)
  | false=>exact z7k hR os _ _ ht
theorem ybu {F F':St->Option (Ex×St)} {q r:Ex×St} (hF : ∀ st r,F st=some r->F' st=some r) (h:Ex.go F q=some r):Ex.go F' q=some r:=by
 obtain ⟨e,st⟩:=q;cases e
 ·exact hF _ _ h
 ·exact h
 ·exact h
theorem ycn {modes:Nat->List Bool} (hR:OLe R R') {o:zac} (h:evG modes R st o=some r):evG modes R' st o=some r:=by
 unfold evG at h ⊢;refine zgq h (fun _ h=>h) (fun t _ ht => ?_);cases t with
 | true=>exact yca hR ht
 | false=>exact ht
theorem zyd {modes:Nat->List Bool} {R R':zak} (hR:OLe R R') : ∀ (os:List (zac×Nat×Nat)) (todo:List (zac×PV×Nat)) (past:List St) (st r:St),evD modes R os todo past st=some r->evD modes R' os todo past st=some r
 | [],_,_,_,_,h=>h
 | (o,b,w)::os,todo,past,st,r,h=>by
  simp only [evD] at h ⊢;refine zgq h (fun x hx=>ycn hR hx) (fun q _ hq => ?_);split at hq
  ·rename_i c; rw [if_pos c];split at hq
   ·rename_i c2; rw [if_pos c2]; exact zyd hR os _ _ _ _ hq
   ·cases hq
  ·rename_i c; rw [if_neg c];split at hq
   ·rename_i c2; rw [if_pos c2]; exact zyd hR os _ _ _ _ hq
   ·cases hq
theorem zx0 {F F':St->Option (Ex×St)} (hF : ∀ st r,F st=some r->F' st=some r) : ∀ (n n':Nat) (st:St) (r:Ex×St),n<=n'->zd7 F n st=some r->zd7 F' n' st=some r
 | 0,_,_,_,_,h=>by cases h
 | n+1,n',st,r,hn,h=>by
  obtain ⟨m,rfl⟩ : ∃ m,n'=m+1:=⟨n'-1,by omega⟩;simp only [zd7] at h ⊢;exact zgq h (fun x hx=>hF _ _ hx) (fun q _ hq=>ybu (fun st r h=>zx0 hF n m st r (by omega) h) hq)
theorem zhn {modes:Nat->List Bool} (hR:OLe R R') {n n':Nat} (hn:n<=n') : ∀ (c:IC) (st:St) (r:Ex×St),evC modes R n c st=some r->evC modes R' n' c st=some r
 | .skip,_,_,h=>h
 | .reg ops,st,r,h=>by
  simp only [evC,bB] at h ⊢;obtain ⟨s,hs,hr⟩:=h;exact ⟨s,z7k hR ops _ _ hs,hr⟩
 | .regD ops,st,r,h=>by
  simp only [evC,bB] at h ⊢;obtain ⟨s,hs,hr⟩:=h;exact ⟨s,zyd hR ops _ _ _ _ hs,hr⟩
 | .seq a b,st,r,h=>by
  simp only [evC] at h ⊢;exact zgq h (fun x hx=>zhn hR hn a st x hx) (fun q _ hq=>ybu (fun st r h=>zhn hR hn b st r h) hq)
 | .cond c x y,st,r,h=>by
  simp only [evC] at h ⊢;refine zgq h (fun _ h=>h) (fun t _ ht => ?_);cases t
  ·exact zhn hR hn y st r ht
  ·exact zhn hR hn x st r ht
 | .block id c,st,r,h=>by
  simp only [evC,bB] at h ⊢;obtain ⟨s,hs,hr⟩:=h;exact ⟨s,zhn hR hn c st s hs,hr⟩
 | .loop c,st,r,h=>zx0 (fun st r h=>zhn hR hn c st r h) n n' st r hn h
 | .exit _,_,_,h=>h
 | .ret,_,_,h=>h
theorem y93 {modes:Nat->List Bool} (hR:OLe R R') {n n':Nat} (hn:n<=n') {fn:IFn} {args:List PV} {r:List PV×List PV} (h:zo7 modes R n fn args=some r):zo7 modes R' n' fn args=some r:=by
 unfold zo7 at h ⊢;exact zgq h (fun _ h=>h) (fun st _ hst=>zgq hst (fun q hq=>zhn hR hn fn.body st q hq) (fun _ _ h=>h))
theorem ymd (T:zcm) : ∀ n,OLe (run T n) (run T (n+1))
 | 0=>fun f a r h=>by cases h
 | n+1=>fun f a r h=>by
  have ih:=ymd T n;rw [run] at h ⊢;refine zgq h (fun _ h=>h) (fun fu _ hfu => ?_);cases fu with
  | code fn=>exact y93 ih (Nat.le_succ n) hfu
  | known m g=>exact hfu
  | ext g=>exact hfu
theorem zhu (T:zcm) {n n':Nat} (h:n<=n'):OLe (run T n) (run T n'):=by
 induction h with
 | refl=>exact fun _ _ _ h=>h
 | step _ ih=>exact fun f a r hr=>ymd T _ f a r (ih f a r hr)
open Classical in
noncomputable def lim {α:Type} (g:Nat->Option α):Option α:=if h : ∃ n r,g n=some r then some h.choose_spec.choose else none
theorem yrw {α:Type} {g:Nat->Option α} (hg : ∀ n n' r,n<=n'->g n=some r->g n'=some r) {r:α}:lim g=some r↔∃ n,g n=some r:=by
 unfold lim;constructor
 ·intro h;split at h
  ·rename_i hx;have:=hx.choose_spec.choose_spec;cases h;exact ⟨_,this⟩
  ·cases h
 ·rintro ⟨n,hn⟩;have hx : ∃ n r,g n=some r:=⟨n,r,hn⟩;rw [dif_pos hx];have h1:=hx.choose_spec.choose_spec;have a:=hg _ (max n hx.choose) _ (Nat.le_max_left _ _) hn;have b:=hg _ (max n hx.choose) _ (Nat.le_max_right _ _) h1;rw [a] at b;exact b.symm
noncomputable def RUN (T:zcm):zak:=fun f a=>lim fun n=>run T n f a
theorem zyl {a:List PV} {r:List PV×List PV}:RUN T f a=some r↔∃ n,run T n f a=some r :=
 yrw (g:=fun n=>run T n f a) fun _ _ _ h hr=>zhu T h _ _ _ hr
noncomputable def zus (F:St->Option (Ex×St)) (st:St):Option (Ex×St):=lim fun n=>zd7 F n st
theorem z6u {F:St->Option (Ex×St)} {r:Ex×St}:zus F st=some r↔∃ n,zd7 F n st=some r :=
 yrw (g:=fun n=>zd7 F n st) fun n n' r h hr=>zx0 (fun _ _ h=>h) n n' st r h hr
theorem y99 (F:St->Option (Ex×St)) (st:St):zus F st=(F st).bind (Ex.go (zus F)):=by
 refine Option.ext fun r => ?_;rw [z6u];constructor
 ·rintro ⟨n,hn⟩;cases n with
  | zero=>cases hn
  | succ n =>
   simp only [zd7] at hn;exact zgq hn (fun _ h=>h) (fun q _ hq=>ybu (fun st r h=>z6u.mpr ⟨n,h⟩) hq)
 ·intro h;obtain ⟨⟨e,st'⟩,hq,hr⟩:=bA h;cases e with
  | normal =>
   obtain ⟨n,hn⟩:=z6u.mp (show zus F st'=some r from hr);exact ⟨n+1,by simp only [zd7]; rw [hq]; exact hn⟩
  | exit i=>exact ⟨1,by simp only [zd7]; rw [hq]; exact hr⟩
  | ret=>exact ⟨1,by simp only [zd7]; rw [hq]; exact hr⟩
noncomputable def evL (modes:Nat->List Bool) (R:zak):IC->St->Option (Ex×St)
 | .skip,st=>some (.normal,st)
 | .reg ops,st=>(zdh modes R ops { st with E:=fun _ => .undef }).map fun st=>(.normal,st)
 | .regD ops,st=>(evD modes R ops [] [] { st with E:=fun _ => .undef }).map fun st=>(.normal,st)
 | .seq a b,st=>(evL modes R a st).bind (Ex.go (evL modes R b))
 | .cond c x y,st=>(zg2 (c.get st)).bind fun t=>if t then evL modes R x st else evL modes R y st
 | .block id c,st=>(evL modes R c st).map (Ex.out id)
 | .loop c,st=>zus (evL modes R c) st
 | .exit id,st=>some (.exit id,st)
 | .ret,st=>some (.ret,st)
theorem y84 {a:List PV×List PV} {fl:Bool} (h:zgx fl (RUN T) st f args a=some r) : ∃ n,zgx fl (run T n) st f args a=some r:=by
 unfold zgx at h ⊢;split at h
 ·rename_i c;obtain ⟨x,hx,h⟩:=bA h;obtain ⟨n,hn⟩:=zyl.mp hx;exact ⟨n,by rw [if_pos c,hn]; exact h⟩
 ·cases h
theorem ymp {modes:Nat->List Bool} (h:ze2 modes (RUN T) st f args=some r) : ∃ n,ze2 modes (run T n) st f args=some r:=by
 obtain ⟨a,ha,h⟩:=bA h;obtain ⟨n,hn⟩:=y84 h;exact ⟨n,Option.bind_eq_some_iff.mpr ⟨a,ha,hn⟩⟩
theorem yno {modes:Nat->List Bool} (h:zdt modes (RUN T) st f args=some r) : ∃ n,zdt modes (run T n) st f args=some r:=by
 unfold zdt zgk at h ⊢;cases hd:zeg st (modes f) args with
 | none=>rw [hd] at h; exact ymp h
 | some d =>
  rw [hd] at h;simp only [zji] at h ⊢;split at h
  ·cases h
  ·rename_i c;obtain ⟨q,hq,h⟩:=bA h;obtain ⟨n,hn⟩:=ymp hq;exact ⟨n,by rw [if_neg c,hn]; exact h⟩
theorem ylu {modes:Nat->List Bool} {o:IOp} (h:zah modes (RUN T) st o=some r) : ∃ n,zah modes (run T n) st o=some r:=by
 cases o
 case call f args=>exact yno h
 case callv g args =>
  simp only [zah] at h ⊢;cases hg:g.get st <;> rw [hg] at h <;> first | exact yno h | cases h
 all_goals exact ⟨0,h⟩
theorem ybk {modes:Nat->List Bool} : ∀ (os:List zac) (st st':St),zdh modes (RUN T) os st=some st'->∃ n,zdh modes (run T n) os st=some st'
 | [],_,_,h=>⟨0,h⟩
 | o::os,st,st',h=>by
  unfold zdh at h ⊢;obtain ⟨t,ht,h⟩:=bA h;cases t with
  | true =>
   obtain ⟨x,hx,h⟩:=bA h;obtain ⟨n,hn⟩:=ylu hx;obtain ⟨m,hm⟩:=ybk os _ _ h;refine ⟨max n m,?_⟩;rw [ht];simp only [Option.bind_some,if_true];rw [yca (zhu T (Nat.le_max_left n m)) hn];exact z7k (zhu T (Nat.le_max_right n m)) os _ _ hm
  | false =>
   obtain ⟨m,hm⟩:=ybk os _ _ h;exact ⟨m,by rw [ht]; exact hm⟩
theorem qeg {modes:Nat->List Bool} {o:zac} (h:evG modes (RUN T) st o=some r) : ∃ n,evG modes (run T n) st o=some r:=by
 unfold evG at h ⊢;obtain ⟨t,ht,h⟩:=bA h;cases t with
 | true=>obtain ⟨n,hn⟩:=ylu h; exact ⟨n,by rw [ht]; exact hn⟩
 | false=>exact ⟨0,by rw [ht]; exact h⟩
theorem ycc {modes:Nat->List Bool} : ∀ (os:List (zac×Nat×Nat)) (todo:List (zac×PV×Nat)) (past:List St) (st r:St),evD modes (RUN T) os todo past st=some r->∃ n,evD modes (run T n) os todo past st=some r
 | [],_,_,_,_,h=>⟨0,h⟩
 | (o,b,w)::os,todo,past,st,r,h=>by
  simp only [evD] at h;obtain ⟨q,hq,h⟩:=bA h;obtain ⟨n,hn⟩:=qeg hq;split at h
  ·rename_i c;split at h
   ·rename_i c2;obtain ⟨m,hm⟩:=ycc os _ _ _ _ h;refine ⟨max n m,?_⟩;simp only [evD];rw [ycn (zhu T (Nat.le_max_left n m)) hn];simp only [Option.bind_some];rw [if_pos c,if_pos c2];exact zyd (zhu T (Nat.le_max_right n m)) os _ _ _ _ hm
   ·cases h
  ·rename_i c;split at h
   ·rename_i c2;obtain ⟨m,hm⟩:=ycc os _ _ _ _ h;refine ⟨max n m,?_⟩;simp only [evD];rw [ycn (zhu T (Nat.le_max_left n m)) hn];simp only [Option.bind_some];rw [if_neg c,if_pos c2];exact zyd (zhu T (Nat.le_max_right n m)) os _ _ _ _ hm
   ·cases h
theorem zpp {modes:Nat->List Bool} : ∀ (c:IC) (st:St) (r:Ex×St),evL modes (RUN T) c st=some r->∃ n,evC modes (run T n) n c st=some r
 | .skip,_,_,h=>⟨0,h⟩
 | .reg ops,st,r,h=>by
  simp only [evL,bB] at h;obtain ⟨s,hs,hr⟩:=h;obtain ⟨n,hn⟩:=ybk ops _ _ hs;exact ⟨n,by simp only [evC,hn,Option.map_some,hr]⟩
 | .regD ops,st,r,h=>by
  simp only [evL,bB] at h;obtain ⟨s,hs,hr⟩:=h;obtain ⟨n,hn⟩:=ycc ops _ _ _ _ hs;exact ⟨n,by simp only [evC,hn,Option.map_some,hr]⟩
 | .seq a b,st,r,h=>by
  simp only [evL] at h;obtain ⟨⟨e,s⟩,hs,h⟩:=bA h;obtain ⟨n,hn⟩:=zpp a _ _ hs;cases e with
  | normal =>
   obtain ⟨m,hm⟩:=zpp b _ _ (show evL modes (RUN T) b s=some r from h);refine ⟨max n m,?_⟩;simp only [evC];rw [zhn (zhu T (Nat.le_max_left n m)) (Nat.le_max_left n m) a _ _ hn];exact zhn (zhu T (Nat.le_max_right n m)) (Nat.le_max_right n m) b _ _ hm
  | exit i=>exact ⟨n,by simp only [evC]; rw [hn]; exact h⟩
  | ret=>exact ⟨n,by simp only [evC]; rw [hn]; exact h⟩
 | .cond c x y,st,r,h=>by
  simp only [evL] at h;obtain ⟨t,ht,h⟩:=bA h;cases t with
  | true=>obtain ⟨n,hn⟩:=zpp x _ _ (show evL modes (RUN T) x st=some r from h); exact ⟨n,by simp only [evC,ht,Option.bind_some,if_true]; exact hn⟩
  | false=>obtain ⟨n,hn⟩:=zpp y _ _ (show evL modes (RUN T) y st=some r from h); exact ⟨n,by simp only [evC,ht,Option.bind_some,Bool.false_eq_true,if_false]; exact hn⟩
 | .block id c,st,r,h=>by
  simp only [evL,bB] at h;obtain ⟨s,hs,hr⟩:=h;obtain ⟨n,hn⟩:=zpp c _ _ hs;exact ⟨n,by simp only [evC,hn,Option.map_some,hr]⟩
 | .loop c,st,r,h=>by
  obtain ⟨k,hk⟩:=z6u.mp (show zus (evL modes (RUN T) c) st=some r from h);have go : ∀ (k:Nat) (st:St),zd7 (evL modes (RUN T) c) k st=some r->∃ n,zd7 (evC modes (run T n) n c) k st=some r:=by
   intro k
   induction k with
   | zero=>intro st h; cases h
   | succ k ih =>
    intro st h;simp only [zd7] at h;obtain ⟨⟨e,s⟩,hs,h⟩:=bA h;obtain ⟨n,hn⟩:=zpp c _ _ hs;cases e with
    | normal =>
     obtain ⟨m,hm⟩:=ih s h;refine ⟨max n m,?_⟩;simp only [zd7];rw [zhn (zhu T (Nat.le_max_left n m)) (Nat.le_max_left n m) c _ _ hn];exact zx0 (fun st r h=>zhn (zhu T (Nat.le_max_right n m)) (Nat.le_max_right n m) c st r h) k k _ _ (Nat.le_refl _) hm
    | exit i=>exact ⟨n,by simp only [zd7]; rw [hn]; exact h⟩
    | ret=>exact ⟨n,by simp only [zd7]; rw [hn]; exact h⟩
  obtain ⟨n,hn⟩:=go k st hk;exact ⟨max n k,zx0 (fun st r h=>zhn (zhu T (Nat.le_max_left n k)) (Nat.le_max_left n k) c st r h) k (max n k) st r (Nat.le_max_right _ _) hn⟩
 | .exit _,_,_,h=>⟨0,h⟩
 | .ret,_,_,h=>⟨0,h⟩
noncomputable def zxv (modes:Nat->List Bool) (R:zak) (fn:IFn) (args:List PV):Option (List PV×List PV) :=
 (zky args).bind fun st=>(evL modes R fn.body st).bind (Ex.fin (zfs fn st.nx))
theorem yks {fn:IFn} (hT:T f=some (.code fn)) {args:List PV} {r:List PV×List PV} (h:zxv (zad T) (RUN T) fn args=some r):RUN T f args=some r:=by
 unfold zxv at h;obtain ⟨st,hst,h⟩:=bA h;obtain ⟨q,hq,h⟩:=bA h;obtain ⟨n,hn⟩:=zpp _ _ _ hq;refine zyl.mpr ⟨n+1,?_⟩;rw [run,hT];simp only [Option.bind_some,zo7,hst,hn];exact h
theorem yb7 {m:List Bool} {g:List PV->Option (List PV×List PV)} (hT:T f=some (.known m g)) {args:List PV} {r:List PV×List PV} (h:g args=some r):RUN T f args=some r :=
 zyl.mpr ⟨1,by rw [run,hT]; exact h⟩
theorem ypc {T:zcm} {f:Nat} {g:List Value->Option (List Value)} (hT:T f=some (.ext g)) {xs ys:List Value} (h:g xs=some ys):RUN T f (xs.map .v)=some (ys.map .v,[]):=by
 have e : ∀ l:List Value,zmb (l.map .v)=some l:=by
  intro l
  induction l with
  | nil=>rfl
  | cons x l ih=>simp only [List.map_cons,zmb,ih,Option.map_some]
 exact zyl.mpr ⟨1,by rw [run,hT]; simp only [Option.bind_some,ycy,e,h,Option.map_some]⟩
end Go.Pe
namespace Go.Pe
open Go
def zdn (P:Program) (t:TypeId):Option Nat:=(P.info? t).map (·.size)
def zfo (P:Program) (t:TypeId):Option Bool:=(P.underlying t).map fun | .struct _=>true | .array _ _=>true | _=>false
def yrn (P:Program):Nat->TypeId->Option (List Nat)
 | 0,_=>none
 | n+1,t =>
  match P.underlying t with
  | some (.struct fs)=>(fs.toList.mapM fun f=>yrn P n f.type).map List.flatten
  | some (.slice e)=>(zdn P e).map fun s=>[s]
  | some (.array _ _)=>none
  | some _=>some [0]
  | none=>none
def zpi (P:Program) (t:TypeId):Option (List Nat):=(yrn P 8 t).bind fun l=>if zdn P t=some l.length then some l else none
def zo6:Value->Option PV
 | .slice none 0 0=>some .e0
 | x=>if okV x then some (.v x) else none
def z9s:Value->Nat->Option PV
 | .slice none 0 0,sz=>some (.own sz [])
 | x,_=>if okV x then some (.v x) else none
def zpt:List Value->List Nat->Option (List PV)
 | x::xs,s::ss=>(z9s x s).bind fun c=>(zpt xs ss).map (c :: ·)
 | [],[]=>some []
 | _,_=>none
def zpo (P:Program) (t:TypeId):Option (List PV):=((P.info? t).bind (·.zero)).bind fun z=>z.cells.toList.mapM zo6
def zoz (P:Program) (t:TypeId):Option (List PV):=((P.info? t).bind (·.zero)).bind fun z=>(zpi P t).bind fun l=>zpt z.cells.toList l
def zan (vars:List Nat):Operand->Option Opd
 | .tmp k=>some (if vars.contains k then .V k else .E k)
 | .const (.slice none 0 0)=>some (.C .e0)
 | .const x=>if okV x then some (.C (.v x)) else none
 | .func f=>some (.C (.fn f []))
 | .global _=>none
def zg3 (vars:List Nat):Option Operand->Option (Option Opd)
 | none=>some none
 | some x=>(zan vars x).map some
def zii (P:Program):Nat->TypeId->Option (List Kd)
 | 0,_=>none
 | n+1,t =>
  match P.underlying t with
  | some .bool=>some [.b]
  | some (.int k)=>some [.i k]
  | some .string=>some [.s]
  | some (.struct fs)=>if P.stoodInHeld t then none else kindsFs (fun t=>zii P n t) P 0 fs.toList
  | _=>none
where kindsFs (f:TypeId->Option (List Kd)) (P:Program):Nat->List Field->Option (List Kd)
 | _,[]=>some []
 | off, fd :: fs => if fd.name != "_" && fd.offset == off then
   (f fd.type).bind fun l=>if zdn P fd.type=some l.length then (kindsFs f P (off+l.length) fs).map (l ++ ·) else none
  else none
def zjt (P:Program) (vars:List Nat):List Operand->List TypeId->Option (List (List Nat×Opd))
 | x::xs,t::ts=>(zan vars x).bind fun y=>(zjt P vars xs ts).map fun r=>((zpi P t).getD [],y)::r
 | [],[]=>some []
 | _,_=>none
def ybc:BinOp->Bool
 | .eql=>true
 | .neq=>true
 | _=>false
def zu1:BinOp->Bool
 | .neq=>true
 | _=>false
def zx8 (P:Program) (op:BinOp) (t:TypeId) (x y:Opd):Option IOp :=
 match P.underlying t with
 | some .bool=>if ybc op then some (.eqb (zu1 op) [.b] x y) else none
 | some (.struct _)=>if ybc op && !P.eqGuardType P.depth t then (zii P 4 t).bind fun ks=>if 2<=ks.length then some (.eqb (zu1 op) ks x y) else none else none
 | some (.int _)=>some (.bin op x y)
 | some .string=>some (.bin op x y)
 | _=>none
def zo0 (i:TypeInfo):Bool:=match i.zero with
 | some z=>z.cells.size == i.size
 | none=>false
def zuk (vars:List Nat) (places:List (Nat×Nat)):List (Nat×Operand)->Option (List (Nat×Nat×Opd))
 | []=>some []
 | q::qs=>(places[q.1]?).bind fun p=>(zan vars q.2).bind fun x=>(zuk vars places qs).map ((p.1,p.2,x) :: ·)
def zjl (vars:List Nat):List (Nat×Operand)->Option (List (Nat×Opd))
 | []=>some []
 | q::qs=>(zan vars q.2).bind fun x=>(zjl vars qs).map ((q.1,x) :: ·)
def zbv (P:Program) (vars:List Nat) (o:Op):Option IOp :=
 match o with
 | .move x=>(zan vars x).map .mv
 | .assign x=>(zan vars x).map .mv
 | .pick c a b=>(zan vars c).bind fun c=>(zan vars a).bind fun a=>(zan vars b).map fun b => .pick c a b
 | .alloc t=>(zpo P t).map .alloc
 | .box _ x=>(zan vars x).map .box
 | .build t parts =>
  match P.underlying t with
  | some (.struct fs)=>(zpo P t).bind fun z=>(fs.toList.mapM fun f=>(P.info? f.type).map fun i=>(f.offset,i.size)).bind fun places =>
   (zuk vars places parts.toList).map fun ps => .build z ps
  | _=>none
 | .buildSlice t n parts =>
  match P.underlying t with
  | some (.slice e)=>(zdn P e).bind fun s=>(zoz P e).bind fun z =>
   (zjl vars parts.toList).bind fun ps =>
    if n*s<=16777216/\z.length=s/\0<s then some (.bslice n s z ps) else none
  | _=>none
 | .load t a=>(zfo P t).bind fun ag=>(zdn P t).bind fun s=>(zan vars a).bind fun a=>if ag || s == 1 then some (.load ag s a) else none
 | .store t a x=>(zpi P t).bind fun l=>(zan vars a).bind fun a=>(zan vars x).map fun x => .store l a x
 | .nilCheck x=>(zan vars x).map .nilc
 | .binOp op t x y _=>(zan vars x).bind fun x=>(zan vars y).bind fun y=>zx8 P op t x y
 | .unOp op _ x=>(zan vars x).map fun x => .un op x
 | .convert src dst x =>
  match P.underlying src,P.underlying dst with
  | some (.int _),some (.int k)=>(zan vars x).map fun x => .convI k x
  | some (.slice e),some .string=>match P.underlying e with
   | some (.int .u8)=>(zan vars x).map .toS
   | _=>none
  | _,_=>none
 | .makeFunc (.func f) first caps=>if first.size=0 then (caps.toList.mapM (zan vars)).map fun cs => .mkfn f cs else none
 | .makeSlice t l c =>
  match P.underlying t with
  | some (.slice e)=>(P.info? e).bind fun i=>(zoz P e).bind fun z=>(zan vars l).bind fun l=>(zan vars c).bind fun c =>
    if z.length=i.size/\0<i.size/\i.size<=i.bytes then some (.mksl i.bytes i.size z l c) else none
  | _=>none
 | .slice t x lo hi mx =>
  match P.underlying t with
  | some (.slice e)=>(zdn P e).bind fun s=>(zan vars x).bind fun x=>(zg3 vars lo).bind fun lo=>(zg3 vars hi).bind fun hi=>(zg3 vars mx).map fun mx => .slice s x lo hi mx
  | some .string=>if mx.isNone then (zan vars x).bind fun x=>(zg3 vars lo).bind fun lo=>(zg3 vars hi).map fun hi => .sliceS x lo hi else none
  | _=>none
 | .fieldAddr s x f =>
  match P.underlying s with
  | some (.struct fs)=>(fs[f]?).bind fun f=>(zdn P f.type).bind fun z=>(zan vars x).bind fun x=>if z≠0 then some (.faddr f.offset x) else none
  | _=>none
 | .indexAddr t x i =>
  match P.underlying t with
  | some (.slice e)=>(zdn P e).bind fun s=>(zan vars x).bind fun x=>(zan vars i).map fun i => .iaddr s x i
  | _=>none
 | .index t x i =>
  match P.underlying t with
  | some .string=>(zan vars x).bind fun x=>(zan vars i).map fun i => .idx x i
  | _=>none
 | .extract x i=>(zan vars x).map fun x => .ext i x
 | .call c =>
  match c.callee with
  | .value (.func f)=>(zjt P vars c.args.toList c.argTypes.toList).map fun l => .call f l
  | .value g=>(zan vars g).bind fun g=>(zjt P vars c.args.toList c.argTypes.toList).map fun l => .callv g l
  | .builtin .len =>
   match c.args.toList,c.argTypes.toList with
   | [x],[t]=>match P.underlying t with
    | some (.slice _)=>(zan vars x).map .len
    | some .string=>(zan vars x).map .lenS
    | _=>none
   | _,_=>none
  | .builtin .append =>
   match c.args.toList,c.argTypes.toList with
   | [s,x],[t,u]=>match P.underlying t,P.underlying u with
    | some (.slice e),some (.slice _)=>(P.info? e).bind fun i=>(zan vars s).bind fun s=>(zan vars x).bind fun x=>if 0<i.size/\i.size<=i.bytes/\zo0 i=true then some (.app i.bytes i.size s x) else none
    | some (.slice e),some .string=>(P.info? e).bind fun i=>(zan vars s).bind fun s=>(zan vars x).bind fun x=>if i.size=1/\i.bytes=1/\zo0 i=true then some (.appS s x) else none
    | _,_=>none
   | _,_=>none
  | .builtin .max =>
   match c.args.toList with
   | [x,y]=>(zan vars x).bind fun x=>(zan vars y).map fun y => .mx true x y
   | _=>none
  | .builtin .min =>
   match c.args.toList with
   | [x,y]=>(zan vars x).bind fun x=>(zan vars y).map fun y => .mx false x y
   | _=>none
  | _=>none
 | _=>none
def zim (vars:List Nat) (nt:Nat):Option Tmp->Option (Option Dst)
 | none=>some none
 | some k=>if k<nt then some (some (if vars.contains k then .V k else .E k)) else none
def zye (vars:List Nat) (ops:Array Oper):Option (Nat×Bool)->Option (Option (Opd×Bool))
 | none=>some none
 | some (j,want)=>((ops[j]?).bind (·.dst)).map fun k=>some (if vars.contains k then .V k else .E k,want)
def zup (P:Program) (vars:List Nat) (nt:Nat) (ops:Array Oper) (o:Oper):Option zac :=
 (zbv P vars o.op).bind fun op=>(zim vars nt o.dst).bind fun d=>(zye vars ops o.guard).map fun g => { dst:=d,op:=op,guard:=g }
def zif (P:Program) (vars:List Nat) (nt:Nat) (ops:Array Oper):List Oper->Option (List zac)
 | []=>some []
 | o::os=>(zup P vars nt ops o).bind fun x=>(zif P vars nt ops os).map (x :: ·)
def zmn (ms:List Nat):List Edge->Nat
 | []=>0
 | e::es=>if Region.binds .any e then (2 ^ e.on ||| ms.getD e.on 0) ||| zmn ms es else zmn ms es
def zb4:List Oper->List Nat->List Nat
 | [],ms=>ms
 | o::os,ms=>zb4 os (ms++[zmn ms o.after.toList])
def zes (ms:List Nat) (i j:Nat):Bool:=(ms.getD i 0).testBit j
def zf2:IOp->Bool
 | .mv _=>true
 | .pick .. => true
 | .build .. => true
 | .bin .. => true
 | .eqb .. => true
 | .un .. => true
 | .convI .. => true
 | .mkfn .. => true
 | .sliceS .. => true
 | .idx .. => true
 | .ext .. => true
 | .lenS .. => true
 | .mx .. => true
 | _=>false
def zpz:Option Opd->List Opd
 | none=>[]
 | some x=>[x]
def IOp.opds:IOp->List Opd
 | .mv x=>[x]
 | .pick c a b=>[c,a,b]
 | .alloc _=>[]
 | .box x=>[x]
 | .build _ ps=>ps.map fun q=>q.2.2
 | .bslice _ _ _ ps=>ps.map fun q=>q.2
 | .allocL _=>[]
 | .mvL x=>[x]
 | .bsliceL _ _ _ ps=>ps.map fun q=>q.2
 | .load _ _ a=>[a]
 | .store _ a x=>[a,x]
 | .nilc x=>[x]
 | .bin _ x y=>[x,y]
 | .eqb _ _ x y=>[x,y]
 | .un _ x=>[x]
 | .convI _ x=>[x]
 | .toS x=>[x]
 | .mkfn _ caps=>caps
 | .mksl _ _ _ l c=>[l,c]
 | .slice _ x lo hi m=>x::(zpz lo++zpz hi++zpz m)
 | .sliceS x lo hi=>x::(zpz lo++zpz hi)
 | .faddr _ x=>[x]
 | .iaddr _ x i=>[x,i]
 | .idx x i=>[x,i]
 | .ext _ x=>[x]
 | .call _ args=>args.map fun q=>q.2
 | .callv g args=>g::args.map fun q=>q.2
 | .len x=>[x]
 | .lenS x=>[x]
 | .app _ _ s x=>[s,x]
 | .appS s x=>[s,x]
 | .mx _ x y=>[x,y]
def zuy:Option (Opd×Bool)->List Opd
 | none=>[]
 | some (y,_)=>[y]
def zac.opds (o:zac):List Opd:=zuy o.guard++o.op.opds
def Dst.code:Dst->Nat
 | .V k=>2*k
 | .E k=>2*k+1
def zya (o:zac):Option Nat:=o.dst.map Dst.code
def Opd.code:Opd->Option Nat
 | .V k=>some (2*k)
 | .E k=>some (2*k+1)
 | .C _=>none
def zey (ios:List zac) (j:Nat):Bool:=match ios[j]? with
 | some o => !quiet o.op
 | none=>false
def zer:IOp->Bool
 | .allocL _=>true
 | .bsliceL .. => true
 | _=>false
def zf6:IOp->IOp
 | .alloc z => .allocL z
 | .bslice n sz z ps => .bsliceL n sz z ps
 | o=>o
def z70:IOp->Bool
 | .alloc _=>true
 | .bslice .. => true
 | _=>false
def z6y (ms:List Nat) (ios:List zac):List zac:=ios.zipIdx.map fun q =>
 if z70 q.1.op && (List.range q.2).any (fun j=>zey ios j && !zes ms q.2 j) then { q.1 with op:=zf6 q.1.op } else q.1
def lzB (ios:List zac) (j:Nat):Bool:=match ios[j]? with
 | some o=>zer o.op
 | none=>false
def zk0 (ios:List zac) (k:Nat):Bool:=zey ios k && !lzB ios k
def bOf (ms:List Nat) (ios:List zac) (o:zac) (i:Nat):Nat :=
 if quiet o.op && !zf2 o.op then (List.range i).countP (zey ios)-(List.range ios.length).countP (fun j=>zey ios j && zes ms i j) else 0
def upB (ms:List Nat) (ios:List zac) (i j:Nat):Bool := !zes ms j i && (!lzB ios j || (List.range ios.length).any fun k=>decide (j<k) && zk0 ios k && !zes ms k i)
def wOf (ms:List Nat) (ios:List zac) (o:zac) (i:Nat):Nat :=
 if quiet o.op && !zf2 o.op then (List.range ios.length).countP (fun j=>zey ios j && upB ms ios i j)-(List.range i).countP (zey ios) else 0
def bws (ms:List Nat) (ios:List zac):List (zac×Nat×Nat):=ios.zipIdx.map fun q=>(q.1,bOf ms ios q.1 q.2,wOf ms ios q.1 q.2)
def zpl (md:Region.Mode) (rk:Nat->Nat) (ops:List Oper):Bool :=
 ops.zipIdx.all fun q=>q.1.after.toList.all fun e => !Region.binds md e || (decide (e.on<ops.length) && decide (rk e.on<rk q.2))
def yrz (e:Edge):Bool:=match e.ground with
 | .gcOnly _=>true
 | _=>false
def yr3 (ops:List Oper):Bool:=ops.any fun o=>o.after.toList.any yrz
def ymm (es:List (List Nat)):Nat->List Nat->List Nat
 | 0,done=>done
 | n+1,done=>match (List.range es.length).find? (fun i => !done.contains i && (es.getD i []).all done.contains) with
  | some i=>ymm es n (done++[i])
  | none=>done
def qby (ops:List Oper):Nat->Nat :=
 fun i=>(ymm (ops.map fun o=>(o.after.toList.filter (Region.binds .gc)).map (·.on)) ops.length []).idxOf i
def ylr (ms:List Nat) (ios:List zac):Bool :=
 ios.zipIdx.all fun q=>q.1.opds.all fun y=>match y.code with
  | some c=>ios.zipIdx.all fun p => !(zya p.1 == some c) || (zes ms q.2 p.2 || (zf2 q.1.op && zes ms p.2 q.2))
  | none=>true
def yp2 (ms:List Nat) (ios:List zac):Bool :=
 (List.range ios.length).all fun j => !zk0 ios j || (List.range j).all fun i => !zey ios i || zes ms j i
def ybw (ms:List Nat) (ios:List zac):Bool :=
 (List.range ios.length).all fun j => !lzB ios j || ((List.range ios.length).any (fun k=>decide (j<k) && zk0 ios k) &&
  (List.range ios.length).all fun i => !zes ms i j || (!lzB ios i && (zey ios i || (List.range ios.length).any fun k=>decide (j<k) && zk0 ios k && zes ms i k)))
def dOk (rk:Nat->Nat) (ops:List Oper) (ios:List zac) (ms:List Nat):Bool :=
 (List.range ms.length).all (fun i=>decide (ms.getD i 0<2 ^ i)) && zew (ios.filterMap zya) && ylr ms ios && yp2 ms ios && ybw ms ios &&
  zpl .text rk ops && (!yr3 ops || zpl .gc (qby ops) ops)
def qcr:IOp->IOp
 | .mv x => .mvL x
 | o=>o
def y80:IOp->Bool
 | .mv _=>true
 | _=>false
def z68 (b:Bool) (ms:List Nat) (ios:List zac):List zac:=ios.zipIdx.map fun q =>
 if b && y80 q.1.op && (List.range q.2).any (fun j=>lzB ios j && zes ms q.2 j) && (List.range q.2).all (fun j => !zey ios j || zes ms q.2 j) then { q.1 with op:=qcr q.1.op } else q.1
def zje (b:Bool) (ms:List Nat) (ios:List zac):List zac:=z68 b ms (z6y ms ios)
def z6w (P:Program) (vars:List Nat) (nt:Nat) (b:Bool) (rk:Nat->Nat) (ops:Array Oper):Option IC :=
 (zif P vars nt ops ops.toList).bind fun ios =>
  if dOk rk ops.toList (zje b (zb4 ops.toList []) ios) (zb4 ops.toList []) then some (.regD (bws (zb4 ops.toList []) (zje b (zb4 ops.toList []) ios))) else none
def ymf (ord:List Nat) (e:Edge):Edge := { e with on:=ord.idxOf e.on }
def z75 (ord:List Nat) (o:Oper):Oper := { o with after:=o.after.map (ymf ord),guard:=o.guard.map fun g=>(ord.idxOf g.1,g.2) }
def zf1 (ops:Array Oper) (ord:List Nat):Array Oper:=(ord.map fun i=>z75 ord (ops.getD i default)).toArray
def z72 (n:Nat) (ord:List Nat):Bool:=ord.length == n && (List.range n).all ord.contains && ord.all (fun i=>decide (i<n)) && (List.range n).all (fun k=>ord.idxOf (ord.getD k 0) == k)
def z9q (ops:List Oper) (es:List (List Nat)) (late:Oper->Bool):Nat->List Nat->List Nat
 | 0,done=>done
 | n+1,done =>
  let rdy:=(List.range ops.length).filter fun i => !done.contains i && (es.getD i []).all done.contains
  match rdy.find? (fun i => !((ops[i]?).map late).getD false) with
  | some i=>z9q ops es late n (done++[i])
  | none=>match rdy with
   | i::_=>z9q ops es late n (done++[i])
   | []=>done
def qa6 (o:Oper):Bool:=match o.op with
 | .buildSlice .. => true
 | _=>false
def yb3 (ops:List Oper):List Nat:=z9q ops (ops.map fun o=>(o.after.toList.filter (Region.binds .any)).map (·.on)) qa6 ops.length []
def ya0 (P:Program) (vars:List Nat) (nt:Nat) (ops:Array Oper):Option IC :=
 match z6w P vars nt false id ops with
 | some x=>some x
 | none=>if z72 ops.size (yb3 ops.toList) then z6w P vars nt true (fun k=>(yb3 ops.toList).getD k 0) (zf1 ops (yb3 ops.toList)) else none
def zec (P:Program) (vars:List Nat) (nt:Nat):Code->Option IC
 | .skip=>some .skip
 | .region _ ops draw=>if draw then ya0 P vars nt ops else (zif P vars nt ops ops.toList).map .reg
 | .seq a b=>(zec P vars nt a).bind fun a=>(zec P vars nt b).map fun b => .seq a b
 | .cond c x y=>(zan vars c).bind fun c=>(zec P vars nt x).bind fun x=>(zec P vars nt y).map fun y => .cond c x y
 | .block id c=>(zec P vars nt c).map fun c => .block id c
 | .loop c=>(zec P vars nt c).map .loop
 | .exit id=>some (.exit id)
 | .ret=>some .ret
 | _=>none
def z7j (P:Program) (vars:List Nat) (r:ResultVar) (t:TypeId):Option RV :=
 match r with
 | .tmp k=>(zpi P t).bind fun l=>if vars.contains k then some (.tmp l k) else none
 | .cell k u=>(zpi P u).bind fun l=>(zfo P u).bind fun ag=>if vars.contains k && (ag || l.length == 1) then some (.cell l k ag) else none
def zjr (P:Program) (vars:List Nat):List ResultVar->List TypeId->Option (List RV)
 | r::rs,t::ts=>(z7j P vars r t).bind fun x=>(zjr P vars rs ts).map (x :: ·)
 | [],[]=>some []
 | _,_=>none
end Go.Pe
namespace Go.Pe
open Go
variable {st:St} {k:IntKind} {x:Value} {m:Nat->List Bool} {R:zak} {b:Int} {i s o ep lo ce e n j f sz id io:Nat} {l:List (Nat×PV)} {es:List (List PV)} {cs caps:List PV} {p:Option (Nat×Nat)} {args xs:List (List Nat×PV)} {r:List RV} {ms:List Bool} {d:Sub} {ag:Bool}
abbrev ki (n:Int):Opd := .C (.v (.int .i64 n))
abbrev kb (b:Bool):Opd := .C (.v (.bool b))
abbrev iv (n:Int):PV := .v (.int .i64 n)
abbrev oE (n:Nat) (o:IOp):zac:=⟨some (.E n),o,none⟩
abbrev mV (n k:Nat):zac:=⟨some (.E n),.mv (.V k),none⟩
abbrev vE (n k:Nat):zac:=⟨some (.V n),.mv (.E k),none⟩
abbrev xE (n i k:Nat):zac:=⟨some (.E n),.ext i (.E k),none⟩
abbrev oV (n:Nat) (o:IOp):zac:=⟨some (.V n),o,none⟩
abbrev oN (o:IOp):zac:=⟨none,o,none⟩
abbrev bv (b:Bool):PV := .v (.bool b)
abbrev zaa (ic:IC) (rv:List RV) (ms:List Bool):Fun := .code ⟨ms,rv,ic⟩
@[simp] theorem qqv (k:Nat):Opd.get st (.V k)=st.V k:=rfl
@[simp] theorem qu3 (k:Nat):Opd.get st (.E k)=st.E k:=rfl
@[simp] theorem qmo (x:PV):Opd.get st (.C x)=x:=rfl
@[simp] theorem qrn (x:PV):st.put none x=st:=rfl
@[simp] theorem qdo (st:St) (k:Nat) (x:PV):st.put (some (.V k)) x = { st with V:=upd st.V k x }:=rfl
@[simp] theorem qal (st:St) (k:Nat) (x:PV):st.put (some (.E k)) x = { st with E:=upd st.E k x }:=rfl
@[simp] theorem zar {α:Type} (f:Nat->α) (k:Nat) (x:α) (i:Nat):upd f k x i=if i=k then x else f i:=rfl
@[simp] theorem qqp (x:Opd):zah m R st (.mv x)=some (x.get st,st):=rfl
@[simp] theorem qt6 (c a b:Opd):zah m R st (.pick c a b)=(zg2 (c.get st)).map fun t=>(if t then a.get st else b.get st,st):=rfl
@[simp] theorem qpj (z:List PV):zah m R st (.alloc z)=some (zb5 st z):=rfl
@[simp] theorem qbw (m:Nat->List Bool) (R:zak) (st:St) (x:Opd):zah m R st (.box x)=if (cellsOf (x.get st)).all zc1 then some (zb5 st (cellsOf (x.get st))) else none:=rfl
@[simp] theorem qnx (z:List PV) (ps:List (Nat×Nat×Opd)):zah m R st (.build z ps)=(zhd z (ps.map fun q=>(q.1,q.2.1,q.2.2.get st))).map fun cs=>(.agg cs,st):=rfl
@[simp] theorem y82 (m:Nat->List Bool) (R:zak) (st:St) (n sz:Nat) (z:List PV) (ps:List (Nat×Opd)):zah m R st (.bslice n sz z ps)=if (zc6 st (zb6 st ps)).any fun q=>(cellsOf q.2).any isF then (ziy z (List.replicate n (z.map fz)) (zc6 st (zb6 st ps))).map fun es=>zhk (zdc st (zb6 st ps)) sz es else (zda (zdc st (zb6 st ps)) z (List.replicate n z) (zc6 st (zb6 st ps))).map fun q=>newRow q.2 sz q.1:=rfl
@[simp] theorem qqn:zc6 st []=[]/\zdc st []=st:=⟨rfl,rfl⟩
@[simp] theorem qt0:zc6 st ((i,.v x)::l)=(i,.v x)::l:=by cases l <;> rfl
@[simp] theorem qym:zdc st ((i,.v x)::l)=st:=by cases l <;> rfl
@[simp] theorem qs8:zc6 st ((i,.e0)::l)=(i,.e0)::l:=by cases l <;> rfl
@[simp] theorem qof:zdc st ((i,.e0)::l)=st:=by cases l <;> rfl
@[simp] theorem qoe:zc6 st ((i,.sl s es)::l)=(i,.sl s es)::l:=by cases l <;> rfl
@[simp] theorem qtq:zdc st ((i,.sl s es)::l)=st:=by cases l <;> rfl
@[simp] theorem qor:zc6 st ((i,.agg cs)::l)=(i,.agg cs)::l:=by cases l <;> rfl
@[simp] theorem qq6:zdc st ((i,.agg cs)::l)=st:=by cases l <;> rfl
@[simp] theorem qsf (o ep lo len:Nat):zc6 st ((i,.ref o none ep lo len)::l)=(i,.ref o none ep lo len)::l:=by cases l <;> rfl
@[simp] theorem qy7 (o ep lo len:Nat):zdc st ((i,.ref o none ep lo len)::l)=st:=by cases l <;> rfl
@[simp] theorem q0z:zc6 st ((i,.own s es)::l)=(i,.own s es)::l:=by cases l <;> rfl
@[simp] theorem qko:zdc st ((i,.own s es)::l)=st:=by cases l <;> rfl
@[simp] theorem qwx (p q:Nat×PV):zc6 st (p::q::l)=p::q::l:=by
 obtain ⟨i,x⟩:=p; cases x <;> first | rfl | (rename_i o p _ _ _; cases p <;> rfl)
@[simp] theorem qv0 (p q:Nat×PV):zdc st (p::q::l)=st:=by
 obtain ⟨i,x⟩:=p; cases x <;> first | rfl | (rename_i o p _ _ _; cases p <;> rfl)
@[simp] theorem qsn (i o a b ep lo len:Nat):zc6 st [(i,.ref o (some (a,b)) ep lo len)]=(zku st.ep a b ep lo len (st.S o)).elim [(i,.ref o (some (a,b)) ep lo len)] fun r=>[(i,.sl r.1.1 r.1.2)]:=rfl
@[simp] theorem qo9 (i o a b ep lo len:Nat):zdc st [(i,.ref o (some (a,b)) ep lo len)]=(zku st.ep a b ep lo len (st.S o)).elim st fun r => { st with S:=upd st.S o (some r.2),ep:=st.ep+1 }:=rfl
@[simp] theorem qxw (ce a b ep lo len s:Nat):zku ce a b ep lo len (some (.row s es))=if ep=ce then (zbe es a b).map fun r=>((r.1,cut r.2 lo len),.rowF s (es.map fun e=>e.map fz)) else none:=rfl
@[simp] theorem qlr (S:Nat->Option Ob):ybf S o=zf9 (S o):=rfl
@[simp] theorem qr1:zf9 none=none:=rfl
@[simp] theorem qqr:zf9 (some (.row s es))=some (.row s es):=rfl
@[simp] theorem qm0:zf9 (some (.rowF s es))=some (.rowF s es):=rfl
@[simp] theorem qmt:zf9 (some (.box cs))=some (.box cs):=rfl
@[simp] theorem qxs:zf9 (some (.shadow s es e))=none:=rfl
@[simp] theorem qys (x:Opd):zah m R st (.mvL x)=some (x.get st,st):=rfl
@[simp] theorem qzo (z:List PV):zah m R st (.allocL z)=some (zb5 st z):=rfl
@[simp] theorem qdp (m:Nat->List Bool) (R:zak) (st:St) (n sz:Nat) (z:List PV) (ps:List (Nat×Opd)):zah m R st (.bsliceL n sz z ps)=(zda st z (List.replicate n z) (zb6 st ps)).map fun q=>newRow q.2 sz q.1:=rfl
@[simp] theorem qa2 (m:Nat->List Bool) (R:zak) (st:St) (ag:Bool) (sz:Nat) (a:Opd):zah m R st (.load ag sz a)=(loadCells st sz (a.get st)).bind fun cs=>(zkp ag cs).map fun x=>(x,st):=rfl
@[simp] theorem qeo (m:Nat->List Bool) (R:zak) (st:St) (szs:List Nat) (a x:Opd):zah m R st (.store szs a x)=(storeAt st szs (a.get st) (x.get st)).map fun st=>(.undef,st):=rfl
@[simp] theorem qu2 (x:Opd):zah m R st (.nilc x)=(zip st (x.get st)).map fun r=>(r,st):=rfl
@[simp] theorem q0q (op:BinOp) (x y:Opd):zah m R st (.bin op x y)=(zml op (x.get st) (y.get st)).map fun r=>(r,st):=rfl
@[simp] theorem qsk (n:Bool) (ks:List Kd) (x y:Opd):zah m R st (.eqb n ks x y)=(eqP ks (x.get st) (y.get st)).map fun b=>(.v (.bool (b != n)),st):=rfl
@[simp] theorem qnn (op:UnOp) (x:Opd):zah m R st (.un op x)=(unP op (x.get st)).map fun r=>(r,st):=rfl
@[simp] theorem qus (x:Opd):zah m R st (.convI k x)=(zhj (x.get st)).map fun n=>(.v (.int k (k.wrap n)),st):=rfl
@[simp] theorem y8w (m:Nat->List Bool) (R:zak) (st:St) (x:Opd):zah m R st (.toS x)=(zfj st (x.get st)).bind fun r=>(zkj r.2).map fun l=>(.v (.string ⟨l.toArray⟩),st):=rfl
@[simp] theorem y7t (m:Nat->List Bool) (R:zak) (st:St) (f:Nat) (caps:List Opd):zah m R st (.mkfn f caps)=if (caps.map (Opd.get st)).all zpm then some (.fn f (caps.map (Opd.get st)),st) else none:=rfl
@[simp] theorem q04:zpm (.ptr o p ep i j)=true:=rfl
@[simp] theorem qoq:zpm (.fptr cs j)=true:=rfl
@[simp] theorem qbx (m:Nat->List Bool) (R:zak) (st:St) (b sz:Nat) (z:List PV) (l c:Opd):zah m R st (.mksl b sz z l c)=(zb2 (l.get st)).bind fun n=>(zb2 (c.get st)).bind fun m=>if n<=m/\zag b m then some (newRow st sz (List.replicate n z)) else none:=rfl
@[simp] theorem qbe (m:Nat->List Bool) (R:zak) (st:St) (sz:Nat) (x:Opd) (lo hi mx:Option Opd):zah m R st (.slice sz x lo hi mx)=(zbp st lo).bind fun l=>(zbp st hi).bind fun h=>(zbp st mx).bind fun m=>(zk1 st sz (x.get st) l h m).map fun r=>(r,st):=rfl
@[simp] theorem qr0 (off:Nat) (x:Opd):zah m R st (.faddr off x)=(zic st off (x.get st)).map fun r=>(r,st):=rfl
@[simp] theorem qd4 (m:Nat->List Bool) (R:zak) (st:St) (sz:Nat) (x i:Opd):zah m R st (.iaddr sz x i)=(zb2 (i.get st)).bind fun k=>(iaddr st sz k (x.get st)).map fun r=>(r,st):=rfl
@[simp] theorem qbj (m:Nat->List Bool) (R:zak) (st:St) (x i:Opd):zah m R st (.idx x i)=(zcz (x.get st)).bind fun s=>(zb2 (i.get st)).bind fun k=>(s[k]?).map fun b=>(.v (.int .u8 (b.toNat:Int)),st):=rfl
@[simp] theorem qxf (x:Opd):zah m R st (.ext i x)=(zmj i (x.get st)).map fun r=>(r,st):=rfl
@[simp] theorem qv4 (args:List (List Nat×Opd)):zah m R st (.call f args)=zdt m R st f (args.map fun q=>(q.1,q.2.get st)):=rfl
@[simp] theorem qwr (g:Opd) (args:List (List Nat×Opd)):zah m R st (.callv g args)=zpj m R st (args.map fun q=>(q.1,q.2.get st)) (g.get st):=rfl
@[simp] theorem qmp:zpj m R st args (.fn f caps)=zdt m R st f (args++caps.map fun c=>([],c)):=rfl
@[simp] theorem qp2 (x:Opd):zah m R st (.len x)=(lenOf st (x.get st)).map fun (n:Nat)=>(.v (.int .i64 (n:Int)),st):=rfl
@[simp] theorem qw9 (b sz:Nat) (s x:Opd):zah m R st (.app b sz s x)=zkm st b sz (s.get st) (x.get st):=rfl
@[simp] theorem qrq (big:Bool) (x y:Opd):zah m R st (.mx big x y)=(mxP big (x.get st) (y.get st)).map fun r=>(r,st):=rfl
@[simp] theorem qu7:zdh m R [] st=some st:=rfl
@[simp] theorem qeh (m:Nat->List Bool) (R:zak) (st:St) (d:Option Dst) (op:IOp) (os:List zac):zdh m R (⟨d,op,none⟩::os) st=(zah m R st op).bind fun r=>zdh m R os (r.2.put d r.1):=by simp [zdh,zc0]
@[simp] theorem y62 (m:Nat->List Bool) (R:zak) (st:St) (d:Option Dst) (op:IOp) (g:Opd) (w:Bool) (os:List zac):zdh m R (⟨d,op,some (g,w)⟩::os) st=(zh6 w (g.get st)).bind fun t=>if t then (zah m R st op).bind fun r=>zdh m R os (r.2.put d r.1) else zdh m R os (st.put d (.v Go.undef)):=rfl
@[simp] theorem qp4 (w b:Bool):zh6 w (.v (.bool b))=some (b == w):=rfl
@[simp] theorem qpe (w:Bool):zh6 w (.v Go.undef)=some false:=rfl
@[simp] theorem qkv:evL m R .skip st=some (.normal,st):=rfl
@[simp] theorem y7y (m:Nat->List Bool) (R:zak) (st:St) (ops:List zac):evL m R (.reg ops) st=(zdh m R ops { st with E:=fun _ => .undef }).map fun st=>(.normal,st):=rfl
@[simp] theorem ykw (m:Nat->List Bool) (R:zak) (st:St) (a b:IC):evL m R (.seq a b) st=(evL m R a st).bind (Ex.go (evL m R b)):=rfl
@[simp] theorem y9c (m:Nat->List Bool) (R:zak) (st:St) (c:Opd) (x y:IC):evL m R (.cond c x y) st=(zg2 (c.get st)).bind fun t=>if t then evL m R x st else evL m R y st:=rfl
@[simp] theorem y7u (m:Nat->List Bool) (R:zak) (st:St) (id:Nat) (c:IC):evL m R (.block id c) st=(evL m R c st).map (Ex.out id):=rfl
theorem z7p (m:Nat->List Bool) (R:zak) (st:St) (c:IC):evL m R (.loop c) st=(evL m R c st).bind (Ex.go (evL m R (.loop c))):=y99 _ _
@[simp] theorem qvg:evL m R (.exit id) st=some (.exit id,st):=rfl
@[simp] theorem qmi:evL m R .ret st=some (.ret,st):=rfl
@[simp] theorem qxp (k:St->Option (Ex×St)):Ex.go k (.normal,st)=k st:=rfl
@[simp] theorem qpi (k:St->Option (Ex×St)):Ex.go k (.exit i,st)=some (.exit i,st):=rfl
@[simp] theorem qzs (k:St->Option (Ex×St)):Ex.go k (.ret,st)=some (.ret,st):=rfl
@[simp] theorem qom:Ex.out id (.exit i,st)=(if i=id then .normal else .exit i,st):=rfl
@[simp] theorem qku:Ex.out id (.normal,st)=(.normal,st):=rfl
@[simp] theorem q0c:Ex.out id (.ret,st)=(.ret,st):=rfl
@[simp] theorem qsr (k:St->Option (List PV×List PV)):Ex.fin k (.normal,st)=k st:=rfl
@[simp] theorem qwt (k:St->Option (List PV×List PV)):Ex.fin k (.ret,st)=k st:=rfl
@[simp] theorem qnc (b:Bool):zg2 (.v (.bool b))=some b:=rfl
@[simp] theorem qv6 (n:Int):zhj (.v (.int k n))=some n:=rfl
@[simp] theorem qxi (s:ByteArray):zcz (.v (.string s))=some s:=rfl
@[simp] theorem qaj (k:IntKind) (n:Nat):zb2 (.v (.int k (n:Int)))=some n:=by simp [zb2,zhj]
@[simp] theorem qtl:zb2 (.v (.int k 0))=some 0:=by simp [zb2,zhj]
@[simp] theorem qw0 (op:BinOp) (a b:Value):zml op (.v a) (.v b)=(zbb op a b).map .v:=rfl
@[simp] theorem qrc (op:UnOp) (a:Value):unP op (.v a)=(unV op a).map .v:=rfl
@[simp] theorem ybj (k:IntKind) (a b:Int):zbb .add (.int k a) (.int k b)=some (.int k (k.wrap (a+b))):=by simp [zbb]
@[simp] theorem qyu (a b:Int):zbb .sub (.int k a) (.int k b)=some (.int k (k.wrap (a-b))):=by simp [zbb]
@[simp] theorem ya4 (k:IntKind) (a b:Int):zbb .mul (.int k a) (.int k b)=some (.int k (k.wrap (a*b))):=by simp [zbb]
@[simp] theorem qtv (a b:Int):zbb .eql (.int k a) (.int k b)=some (.bool (decide (a=b))):=by simp [zbb]; rfl
@[simp] theorem qwv (a b:Int):zbb .neq (.int k a) (.int k b)=some (.bool (!decide (a=b))):=by simp [zbb]; rfl
@[simp] theorem qrw (a b:Int):zbb .lss (.int k a) (.int k b)=some (.bool (decide (a<b))):=by simp [zbb]
@[simp] theorem qvj (a b:Int):zbb .leq (.int k a) (.int k b)=some (.bool (decide (a<=b))):=by simp [zbb]
@[simp] theorem qls (a b:Int):zbb .gtr (.int k a) (.int k b)=some (.bool (decide (a > b))):=by simp [zbb]
@[simp] theorem qs1 (a b:Int):zbb .geq (.int k a) (.int k b)=some (.bool (decide (a ≥ b))):=by simp [zbb]
@[simp] theorem yag (k:IntKind) (a b:Int):zbb .and (.int k a) (.int k b)=some (.int k (k.wrap (BitVec.ofInt k.bits a &&& BitVec.ofInt k.bits b).toNat)):=by simp [zbb]
@[simp] theorem qv8 (a b:Int):zbb .or (.int k a) (.int k b)=some (.int k (k.wrap (BitVec.ofInt k.bits a ||| BitVec.ofInt k.bits b).toNat)):=by simp [zbb]
@[simp] theorem qv2 (a b:Int):zbb .xor (.int k a) (.int k b)=some (.int k (k.wrap (BitVec.ofInt k.bits a ^^^ BitVec.ofInt k.bits b).toNat)):=by simp [zbb]
@[simp] theorem qmd (a b:Int):zbb .quo (.int k a) (.int k b)=if b≠0 then some (.int k (k.wrap (a.tdiv b))) else none:=by simp [zbb]
@[simp] theorem qu5 (a b:Int):zbb .rem (.int k a) (.int k b)=if b≠0 then some (.int k (a.tmod b)) else none:=by simp [zbb]
@[simp] theorem yoz (k k':IntKind) (a b:Int):zbb .shl (.int k a) (.int k' b)=if 0<=b then some (.int k (k.wrap (a*2 ^ min b.toNat k.bits))) else none:=by simp [zbb]
@[simp] theorem yco (k k':IntKind) (a b:Int):zbb .shr (.int k a) (.int k' b)=if 0<=b then some (.int k (a.fdiv (2 ^ min b.toNat k.bits))) else none:=by simp [zbb]
@[simp] theorem q0e (a b:ByteArray):zbb .add (.string a) (.string b)=if ((a.size+b.size:Nat):Int)<=IntKind.i64.max then some (.string (a++b)) else none:=by simp [zbb]
@[simp] theorem qqw (a b:ByteArray):zbb .eql (.string a) (.string b)=some (.bool (a.toList == b.toList)):=by simp [zbb]
@[simp] theorem qzg (a b:ByteArray):zbb .neq (.string a) (.string b)=some (.bool !(a.toList == b.toList)):=by simp [zbb]
@[simp] theorem qy4 (a:Int):unV .neg (.int k a)=some (.int k (k.wrap (0-a))):=rfl
@[simp] theorem qvu (b:Bool):unV .not (.bool b)=some (.bool !b):=rfl
@[simp] theorem qnt:newRow st sz es=(.ref st.nx none st.ep 0 es.length,{ st with S:=upd st.S st.nx (some (.row sz es)),nx:=st.nx+1 }):=rfl
@[simp] theorem qvz:zhk st sz es=(.ref st.nx none st.ep 0 es.length,{ st with S:=upd st.S st.nx (some (.rowF sz es)),nx:=st.nx+1 }):=rfl
@[simp] theorem qyx:zb5 st cs=(.ptr st.nx none st.ep 0 0,{ st with S:=upd st.S st.nx (some (.box cs)),nx:=st.nx+1 }):=rfl
@[simp] theorem qwc:zfk st o p ep=zau st.ep (st.S o) p ep:=rfl
@[simp] theorem zjd (ce sz:Nat) (es:List (List PV)) (ep:Nat):zau ce (some (.row sz es)) none ep=some (sz,es):=rfl
@[simp] theorem zfh (ce sz:Nat) (es:List (List PV)) (ep:Nat) (i j:Nat):zau ce (some (.row sz es)) (some (i,j)) ep=if ep=ce then zbe es i j else none:=rfl
@[simp] theorem yb9 (ce sz:Nat) (es:List (List PV)) (ep:Nat):zau ce (some (.rowF sz es)) none ep=some (sz,es):=rfl
@[simp] theorem zxl (ce sz:Nat) (es:List (List PV)) (ep:Nat) (e:Nat):zau ce (some (.shadow sz es e)) none ep=if e=ce then some (sz,es) else none:=rfl
@[simp] theorem quz:zau ce none p ep=none:=rfl
@[simp] theorem qva (lo len:Nat):cut es lo len=if lo=0/\len=es.length then es else (es.drop lo).take len:=rfl
@[simp] theorem qy8:zfj st (.sl sz es)=some (sz,es):=rfl
@[simp] theorem q0h (ep lo len:Nat):zfj st (.ref o p ep lo len)=(zfk st o p ep).map fun r=>(r.1,cut r.2 lo len):=rfl
@[simp] theorem q0i:fz (.v x) = .v x:=rfl
@[simp] theorem qmu:fz (.own sz es) = .sl sz es:=rfl
@[simp] theorem q0g:fz (.sl sz es) = .sl sz es:=rfl
@[simp] theorem qyz:rd o ep i j (.v x) = .v x:=rfl
@[simp] theorem qlp:rd o ep i j (.own sz es) = .ref o (some (i,j)) ep 0 es.length:=rfl
@[simp] theorem quq:zhq o ep i j []=[]:=rfl
@[simp] theorem qk0 (c:PV):zhq o ep i j (c::cs)=rd o ep i j c::zhq o ep i (j+1) cs:=rfl
@[simp] theorem qzh:rdV (.v x) = .v x:=rfl
@[simp] theorem qlh:seg cs j sz=if j+sz<=cs.length then some ((cs.drop j).take sz) else none:=rfl
@[simp] theorem ynk (cs:List PV):zkp true cs=some (.agg cs):=rfl
@[simp] theorem yq3 (c:PV):zkp false [c]=some c:=rfl
@[simp] theorem qce (st:St) (sz:Nat) (cs:List PV) (j:Nat):loadCells st sz (.fptr cs j)=(seg cs j sz).map (·.map fz):=rfl
@[simp] theorem y8y (st:St) (sz o:Nat) (p:Option (Nat×Nat)) (ep i j:Nat):loadCells st sz (.ptr o p ep i j)=zio st.ep o sz (st.S o) p ep i j:=rfl
@[simp] theorem y9p (ce o sz:Nat) (cs:List PV) (ep i j:Nat):zio ce o sz (some (.box cs)) none ep i j=if i=0 then seg cs j sz else none:=rfl
@[simp] theorem qca (ce o sz:Nat) (s:Nat) (es:List (List PV)) (ep i j:Nat):zio ce o sz (some (.row s es)) none ep i j=(es[i]?).bind fun cs=>(seg cs j sz).map (zhq o ce i j):=rfl
@[simp] theorem y83 (ce o sz:Nat) (s:Nat) (es:List (List PV)) (a b ep i j:Nat):zio ce o sz (some (.row s es)) (some (a,b)) ep i j=if ep=ce then (zbe es a b).bind fun r=>(r.2[i]?).bind fun cs=>(seg cs j sz).map (·.map rdV) else none:=rfl
@[simp] theorem y74 (ce o sz:Nat) (s:Nat) (es:List (List PV)) (ep i j:Nat):zio ce o sz (some (.rowF s es)) none ep i j=(es[i]?).bind fun cs=>(seg cs j sz).map (·.map fz):=rfl
@[simp] theorem y9f (ce o sz:Nat) (s:Nat) (es:List (List PV)) (e ep i j:Nat):zio ce o sz (some (.shadow s es e)) none ep i j=if e=ce then (es[i]?).bind fun cs=>(seg cs j sz).map (·.map rdV) else none:=rfl
@[simp] theorem qps:cellsOf (.agg cs)=cs:=rfl
@[simp] theorem qqu:cellsOf (.v x)=[.v x]:=rfl
@[simp] theorem qyi  : cellsOf (.e0)=[.e0]:=rfl
@[simp] theorem qlj:cellsOf (.sl sz es)=[.sl sz es]:=rfl
@[simp] theorem qnb (ep lo len:Nat):cellsOf (.ref o p ep lo len)=[.ref o p ep lo len]:=rfl
@[simp] theorem yai (st:St) (sz:Nat) (x:Value):zfl st sz (.v x)=if okV x then some (.v x,st) else none:=rfl
@[simp] theorem y8b (st:St) (sz:Nat):zfl st sz .e0=some (.own sz [],st):=rfl
@[simp] theorem y7n (st:St) (sz o:Nat) (p:Option (Nat×Nat)) (ep lo len:Nat):zfl st sz (.ref o p ep lo len)=zgd st o (st.S o) p lo len:=rfl
@[simp] theorem y9s (st:St) (o s:Nat) (es:List (List PV)) (lo len:Nat):zgd st o (some (.row s es)) none lo len=if lo=0/\len=es.length then some (.own s es,{ st with S:=upd st.S o (some (.shadow s es st.ep)) }) else none:=rfl
@[simp] theorem yar (st:St) (sz:Nat) (szs:List Nat) (c:PV) (cs:List PV):zdj st (sz::szs) (c::cs)=(zfl st sz c).bind fun r=>(zdj r.2 szs cs).bind fun q=>some (r.1::q.1,q.2):=rfl
@[simp] theorem qv9:zdj st [] []=some ([],st):=rfl
@[simp] theorem qmw:toF sz (.v x)=if okV x then some (.v x) else none:=rfl
@[simp] theorem qll:toF sz .e0=some (.sl sz []):=rfl
@[simp] theorem qlo:toF sz (.sl s es)=some (.sl s es):=rfl
@[simp] theorem qpu (szs:List Nat) (c:PV):zfb (sz::szs) (c::cs)=(toF sz c).bind fun x=>(zfb szs cs).bind fun xs=>some (x::xs):=rfl
@[simp] theorem qsm  : zfb [] []=some []:=rfl
@[simp] theorem qrk (b:Bool):okV (.bool b)=true:=rfl
@[simp] theorem qsg (n:Int):okV (.int k n)=true:=rfl
@[simp] theorem qzy (s:ByteArray):okV (.string s)=true:=rfl
@[simp] theorem qtp:zc1 (.v x)=okV x:=rfl
@[simp] theorem qyd  : zc1 .e0=true:=rfl
@[simp] theorem qqt:zc1 (.sl sz es)=true:=rfl
@[simp] theorem qml (ep lo len:Nat):zc1 (.ref o p ep lo len)=true:=rfl
@[simp] theorem qkq:zep (.v x)=okV x:=rfl
@[simp] theorem qrg:isF (.v x)=false:=rfl
@[simp] theorem qxl  : isF .e0=false:=rfl
@[simp] theorem qlu:isF (.sl sz es)=true:=rfl
@[simp] theorem qug:isF (.own sz es)=false:=rfl
@[simp] theorem qwy (ep lo len:Nat):isF (.ref o p ep lo len)=false:=rfl
@[simp] theorem qyb:isV (.v x)=true:=rfl
@[simp] theorem qsi  : isV .e0=false:=rfl
@[simp] theorem qyj:isV (.sl sz es)=false:=rfl
@[simp] theorem qzw:isV (.own sz es)=false:=rfl
@[simp] theorem qlv (ep lo len:Nat):isV (.ref o p ep lo len)=false:=rfl
@[simp] theorem qzi:zdr (.v x)=okV x:=by simp [zdr,zep,isF]
@[simp] theorem qna:zdr (.sl sz es)=true:=rfl
@[simp] theorem qz1 (xs:List PV):over cs j xs=cs.take j++xs++cs.drop (j+xs.length):=rfl
@[simp] theorem quu (szs:List Nat) (a x:PV):storeAt st szs a x=zum st szs (cellsOf x) a:=rfl
@[simp] theorem qro (szs:List Nat) (xs:List PV):zum st szs xs (.ptr o p ep i j)=if xs.length=szs.length then zfp st szs xs o (st.S o) p ep i j else none:=rfl
@[simp] theorem qmr (szs:List Nat) (xs:List PV):zfp st szs xs o (some (.box cs)) none ep i j=if i=0/\j+xs.length<=cs.length/\xs.all zc1 then some { st with S:=upd st.S o (some (.box (over cs j xs))) } else none:=rfl
@[simp] theorem qs0 (szs:List Nat) (xs:List PV):zfp st szs xs o (some (.row s es)) none ep i j=(match zi5 xs with | some d=>zxy st o i j d s es | none=>(zdj st szs xs).bind fun r=>zib r.2 o i j r.1 (r.2.S o)):=rfl
@[simp] theorem qm7:zi5 [.v x]=none:=rfl
@[simp] theorem qng:zi5 [.e0]=none:=rfl
@[simp] theorem q0y (o ep lo len:Nat):zi5 [.ref o none ep lo len]=none:=rfl
@[simp] theorem qnr (q:Nat×Nat) (ep lo len:Nat):zi5 [.ref o (some q) ep lo len]=some (o,q,ep,lo,len):=rfl
@[simp] theorem qqz (a b:PV) (l:List PV):zi5 (a::b::l)=none:=by
 cases a with
 | ref o p ep lo len=>cases p <;> rfl
 | _=>rfl
@[simp] theorem qtx (o2:Nat) (q:Nat×Nat) (ep lo len:Nat):zxy st o i j (o2,q,ep,lo,len) s es=if o2=o/\q=(i,j)/\ep=st.ep then (zbe es i j).bind fun r=>if lo+len<=r.2.length then some { st with S:=upd st.S o (some (.row s (zb8 es i j (.own r.1 (cut r.2 lo len))))),ep:=st.ep+1 } else none else none:=rfl
@[simp] theorem qqs (szs:List Nat) (xs:List PV) (a b ep i j:Nat):zfp st szs xs o (some (.row s es)) (some (a,b)) ep i j=if ep=st.ep/\xs.all zep then (zbe es a b).bind fun q=>(q.2[i]?).bind fun cs=>if j+xs.length<=cs.length then some { st with S:=upd st.S o (some (.row s (zb8 es a b (.own q.1 (q.2.set i (over cs j xs)))))),ep:=st.ep+1 } else none else none:=rfl
@[simp] theorem q0f (szs:List Nat) (xs:List PV):zfp st szs xs o (some (.rowF s es)) none ep i j=(zfb szs xs).bind fun ys=>(es[i]?).bind fun cs=>if j+ys.length<=cs.length then some { st with S:=upd st.S o (some (.rowF s (es.set i (over cs j ys)))) } else none:=rfl
@[simp] theorem qxr (ys:List PV):zib st o i j ys (some (.row s es))=(es[i]?).bind fun cs=>if j+ys.length<=cs.length then some { st with S:=upd st.S o (some (.row s (es.set i (over cs j ys)))),ep:=if ys.all isV && ((cs.drop j).take ys.length).all isV then st.ep else st.ep+1 } else none:=rfl
@[simp] theorem qry:zo9 (.own sz es)=sz:=rfl
@[simp] theorem q0t:zo9 (.v x)=0:=rfl
@[simp] theorem qob (z:List PV):zda st z es []=some (es,st):=rfl
@[simp] theorem qrv (z:List PV) (x:PV) (r:List (Nat×PV)):zda st z es ((i,x)::r)=(zdj st (z.map zo9) (cellsOf x)).bind fun q=>if i<es.length then zda q.2 z (es.set i q.1) r else none:=rfl
@[simp] theorem qrl (z:List PV):ziy z es []=some es:=rfl
@[simp] theorem qw4 (z:List PV) (x:PV) (r:List (Nat×PV)):ziy z es ((i,x)::r)=(zfb (z.map zo9) (cellsOf x)).bind fun ys=>if i<es.length then ziy z (es.set i ys) r else none:=rfl
@[simp] theorem qwp:zhd cs []=some cs:=rfl
@[simp] theorem qlb (off sz:Nat) (x:PV) (r:List (Nat×Nat×PV)):zhd cs ((off,sz,x)::r)=if (cellsOf x).length=sz/\off+sz<=cs.length/\(cellsOf x).all zc1 then zhd (over cs off (cellsOf x)) r else none:=rfl
@[simp] theorem qlq (a b:Int):eqV (.i k) (.int k a) (.int k b)=some (decide (a=b)):=by simp [eqV]; rfl
@[simp] theorem qvr (a b:Bool):eqV .b (.bool a) (.bool b)=some (a == b):=rfl
@[simp] theorem qla (a b:ByteArray):eqV .s (.string a) (.string b)=some (a == b):=rfl
@[simp] theorem qw2  : zcd [] [] []=some true:=rfl
@[simp] theorem qzj (k:Kd) (ks:List Kd) (x y:Value) (xs ys:List PV):zcd (k::ks) (.v x::xs) (.v y::ys)=(eqV k x y).bind fun b=>if b then zcd ks xs ys else some false:=rfl
@[simp] theorem qxa:lenOf st .e0=some 0:=rfl
@[simp] theorem qlf:lenOf st (.sl sz es)=some es.length:=rfl
@[simp] theorem qaf (st:St) (o:Nat) (p:Option (Nat×Nat)) (ep lo len:Nat):lenOf st (.ref o p ep lo len)=if (zfk st o p ep).isSome then some len else none:=rfl
@[simp] theorem qx4:iaddr st sz i (.sl s es)=if s=sz then (es[i]?).map fun cs => .fptr cs 0 else none:=rfl
@[simp] theorem qr8 (ep lo len:Nat):iaddr st sz i (.ref o p ep lo len)=(zfk st o p ep).bind fun r=>if r.1=sz/\i<len then some (.ptr o p ep (lo+i) 0) else none:=rfl
@[simp] theorem qrm:zip st (.ptr o p ep i j)=if ziq st.ep (st.S o) p ep i then some (.ptr o p ep i j) else none:=rfl
@[simp] theorem quy:zip st (.fptr cs j)=some (.fptr cs j):=rfl
@[simp] theorem q0k:zip st (.fn f caps)=some (.fn f caps):=rfl
@[simp] theorem qre (off o:Nat):zic st off (.ptr o p ep i j)=if ziq st.ep (st.S o) p ep i then some (.ptr o p ep i (j+off)) else none:=rfl
@[simp] theorem qkt (off:Nat):zic st off (.fptr cs j)=some (.fptr cs (j+off)):=rfl
@[simp] theorem qbu (ce:Nat) (cs:List PV) (ep i:Nat):ziq ce (some (.box cs)) none ep i=(i == 0):=rfl
@[simp] theorem qcl (ce sz:Nat) (es:List (List PV)) (p:Option (Nat×Nat)) (ep i:Nat):ziq ce (some (.row sz es)) p ep i=(zau ce (some (.row sz es)) p ep).isSome:=by cases p <;> rfl
@[simp] theorem qdx (ce sz:Nat) (es:List (List PV)) (p:Option (Nat×Nat)) (ep i:Nat):ziq ce (some (.rowF sz es)) p ep i=(zau ce (some (.rowF sz es)) p ep).isSome:=by cases p <;> rfl
@[simp] theorem y8o (ce sz:Nat) (es:List (List PV)) (e:Nat) (p:Option (Nat×Nat)) (ep i:Nat):ziq ce (some (.shadow sz es e)) p ep i=(zau ce (some (.shadow sz es e)) p ep).isSome:=by cases p <;> rfl
@[simp] theorem quh (vs:List PV):zmj i (.tup vs)=vs[i]?:=rfl
@[simp] theorem qp1 (a b:Int):mxP true (.v (.int k a)) (.v (.int k b))=some (.v (.int k (max a b))):=by
 simp only [mxP,if_true]
 congr 3
 omega
@[simp] theorem qo7 (a b:Int):mxP false (.v (.int k a)) (.v (.int k b))=some (.v (.int k (min a b))):=by
 simp only [mxP,if_true]
 congr 3
 simp;omega
@[simp] theorem qsy:zb6 st []=[]:=rfl
@[simp] theorem qov (x:Opd) (r:List (Nat×Opd)):zb6 st ((i,x)::r)=(i,x.get st)::zb6 st r:=rfl
@[simp] theorem qzn:zbp st none=some none:=rfl
@[simp] theorem qan (st:St) (y:Opd):zbp st (some y)=(zb2 (y.get st)).map some:=rfl
@[simp] theorem qqf:zf4 st sz .e0=some ([],false,st):=rfl
@[simp] theorem qk4 (ep lo len:Nat):zf4 st sz (.ref o p ep lo len)=zgl st sz o (st.S o) p ep lo len:=rfl
@[simp] theorem qpb (ep lo len:Nat):zgl st sz o (some (.row s es)) none ep lo len=if s=sz/\lo+len=es.length then some (es.drop lo,false,{ st with S:=upd st.S o none }) else none:=rfl
@[simp] theorem qzr (i j ep lo len:Nat):zgl st sz o (some (.row s es)) (some (i,j)) ep lo len=if ep=st.ep then (zbe es i j).bind fun r=>if r.1=sz/\lo+len=r.2.length then some (r.2.drop lo,false,{ st with S:=upd st.S o (some (.row s (zb8 es i j .undef))),ep:=st.ep+1 }) else none else none:=rfl
@[simp] theorem q08 (ep lo len:Nat):zgl st sz o (some (.rowF s es)) none ep lo len=if s=sz/\lo+len=es.length then some (es.drop lo,true,{ st with S:=upd st.S o none }) else none:=rfl
@[simp] theorem ql2 (s:PV) (t:ByteArray):appS st s t=(zf4 st 1 s).bind fun b=>if zag 1 (b.1.length+t.size) then zg7 b.2.2 1 (b.1++zil t) b.2.1 none else none:=rfl
@[simp] theorem quk (x:Opd):zah m R st (.lenS x)=(zcz (x.get st)).map fun s=>(.v (.int .i64 (s.size:Int)),st):=rfl
@[simp] theorem qxo (s x:Opd):zah m R st (.appS s x)=(zcz (x.get st)).bind fun t=>appS st (s.get st) t:=rfl
@[simp] theorem qn8 (x:Opd) (lo hi:Option Opd):zah m R st (.sliceS x lo hi)=(zcz (x.get st)).bind fun s=>(zbp st lo).bind fun l=>(zbp st hi).bind fun h=>(sliceS s l h).map fun r=>(r,st):=rfl
@[simp] theorem qax (s:ByteArray) (lo hi:Option Nat):sliceS s lo hi=if lo.getD 0<=hi.getD s.size/\hi.getD s.size<=s.size then some (.v (.string (s.extract (lo.getD 0) (hi.getD s.size)))) else none:=rfl
@[simp] theorem qp8 (sz l h:Nat):zt9 st sz l h .e0=some .e0:=rfl
@[simp] theorem qaq (st:St) (sz l h s:Nat) (es:List (List PV)):zt9 st sz l h (.sl s es)=if s=sz then some (.sl s ((es.drop l).take (h-l))) else none:=rfl
@[simp] theorem qcp (st:St) (sz l h o:Nat) (p:Option (Nat×Nat)) (ep lo n:Nat):zt9 st sz l h (.ref o p ep lo n)=(zfk st o p ep).bind fun r=>if r.1=sz then some (.ref o p ep (lo+l) (h-l)) else none:=rfl
@[simp] theorem y8x (st:St) (sz:Nat) (x:PV) (lo hi:Option Nat):zk1 st sz x lo hi none=(lenOf st x).bind fun n=>if lo.getD 0<=hi.getD n/\hi.getD n<=n then zt9 st sz (lo.getD 0) (hi.getD n) x else none:=rfl
@[simp] theorem y7c (st:St) (sz:Nat) (x:PV) (lo hi:Option Nat) (m:Nat):zk1 st sz x lo hi (some m)=(lenOf st x).bind fun n=>if m=0/\hi=some 0/\lo.getD 0=0/\0<=n then some .e0 else none:=rfl
@[simp] theorem qz6:zf7 st sz .e0=some ([],none,st):=rfl
@[simp] theorem qs4:zf7 st sz (.sl s es)=if s=sz/\zcl es then some (es,none,st) else none:=rfl
@[simp] theorem qty (ep lo len:Nat):zf7 st sz (.ref o p ep lo len)=(zfk st o p ep).bind fun r=>if r.1=sz then if zcl (cut r.2 lo len) then some (cut r.2 lo len,none,st) else zgy st o (st.S o) p lo len else none:=rfl
@[simp] theorem qzc (lo len:Nat):zgy st o (some (.row s es)) none lo len=if lo=0/\len=es.length then some (es,some false,{ st with S:=upd st.S o none }) else none:=rfl
@[simp] theorem q0u (lo len:Nat):zgy st o (some (.rowF s es)) none lo len=some (cut es lo len,some true,st):=rfl
@[simp] theorem qk1:zg7 st sz es false none=some (newRow st sz es):=rfl
@[simp] theorem qne:zg7 st sz es false (some false)=some (newRow st sz es):=rfl
@[simp] theorem qpc:zg7 st sz es true none=some (zhk st sz es):=rfl
@[simp] theorem qky:zg7 st sz es true (some true)=some (zhk st sz es):=rfl
@[simp] theorem qs3 (b sz:Nat) (s x:PV):zkm st b sz s x=(zf7 st sz x).bind fun m=>(zf4 m.2.2 sz s).bind fun q=>if zag b (q.1.length+m.1.length) then zg7 q.2.2 sz (q.1++m.1) q.2.1 m.2.1 else none:=rfl
@[simp] theorem q0p  : zcl []=true:=rfl
@[simp] theorem qn5 (e:List PV):zcl (e::es)=(e.all isV && zcl es):=rfl
@[simp] theorem qqd:zce st sz (.v x)=some (.v x):=rfl
@[simp] theorem qvh:zce st sz .e0=some (.sl sz []):=rfl
@[simp] theorem q0x:zce st sz (.sl s es)=some (.sl s es):=rfl
@[simp] theorem qwo (ep lo len:Nat):zce st sz (.ref o p ep lo len)=(zfk st o p ep).map fun r => .sl r.1 (cut r.2 lo len):=rfl
@[simp] theorem qvp:zce st sz (.fptr cs j)=some (.fptr cs j):=rfl
@[simp] theorem qsj:zce st sz (.ptr o p ep i j)=zjn (st.S o) p i j:=rfl
@[simp] theorem q0o:zjn (some (.box cs)) none i j=if i=0/\cs.all zdr then some (.fptr cs j) else none:=rfl
@[simp] theorem qwi (szs:List Nat) (c:PV):zfc st (sz::szs) (c::cs)=(zce st sz c).bind fun x=>(zfc st szs cs).bind fun xs=>some (x::xs):=rfl
@[simp] theorem q0w (c:PV):zfc st [] (c::cs)=(zce st 0 c).bind fun x=>(zfc st [] cs).bind fun xs=>some (x::xs):=rfl
@[simp] theorem qpg (szs:List Nat):zfc st szs []=some []:=by cases szs <;> rfl
@[simp] theorem qmq (szs:List Nat):zcs st szs (.agg cs)=(zfc st szs cs).map .agg:=rfl
@[simp] theorem qp9 (szs:List Nat):zcs st szs (.fn f caps)=(zfc st [] caps).map (.fn f):=rfl
@[simp] theorem qno (szs:List Nat):zcs st szs (.v x)=zce st (szs.headD 0) (.v x):=rfl
@[simp] theorem qyq (szs:List Nat):zfu st szs (.v x)=zdf st (szs.headD 0) (.v x):=rfl
@[simp] theorem qws (szs:List Nat)  : zcs st szs (.e0)=zce st (szs.headD 0) (.e0):=rfl
@[simp] theorem qo6 (szs:List Nat)  : zfu st szs (.e0)=zdf st (szs.headD 0) (.e0):=rfl
@[simp] theorem qwf (szs:List Nat):zcs st szs (.sl sz es)=zce st (szs.headD 0) (.sl sz es):=rfl
@[simp] theorem qqx (szs:List Nat) (ep lo len:Nat):zcs st szs (.ref o p ep lo len)=zce st (szs.headD 0) (.ref o p ep lo len):=rfl
@[simp] theorem qsl (szs:List Nat) (ep lo len:Nat):zfu st szs (.ref o p ep lo len)=zdf st (szs.headD 0) (.ref o p ep lo len):=rfl
@[simp] theorem qpm (szs:List Nat):zcs st szs (.fptr cs j)=zce st (szs.headD 0) (.fptr cs j):=rfl
@[simp] theorem qza (szs:List Nat):zcs st szs (.ptr o p ep i j)=zce st (szs.headD 0) (.ptr o p ep i j):=rfl
@[simp] theorem qtr (szs:List Nat):zfu st szs (.ptr o p ep i j)=zdf st (szs.headD 0) (.ptr o p ep i j):=rfl
@[simp] theorem qu8 (szs:List Nat):zfu st szs (.agg cs)=(zgs st szs cs).map fun q=>(.agg q.1,q.2):=rfl
@[simp] theorem qtm:zdf st sz (.v x)=some (.v x,[]):=rfl
@[simp] theorem qth:zdf st sz .e0=some (.own sz [],[.e0]):=rfl
@[simp] theorem qma (ep lo len:Nat):zdf st sz (.ref o none ep lo len)=zmo o ep lo len (st.S o):=rfl
@[simp] theorem qmk:zdf st sz (.ptr o p ep i j)=zkv o ep (st.S o) p i j:=rfl
@[simp] theorem qtf (o ep lo len s:Nat):zmo o ep lo len (some (.row s es))=if lo=0/\len=es.length then some (.own s es,[.ref o none ep lo len]) else none:=rfl
@[simp] theorem que:zkv o ep (some (.box cs)) none i j=if i=0/\j=0/\cs.all zdr then some (.bx cs,[.ptr o none ep 0 0]) else none:=rfl
@[simp] theorem qq0 (szs:List Nat) (c:PV):zgs st (sz::szs) (c::cs)=(zdf st sz c).bind fun r=>(zgs st szs cs).bind fun q=>some (r.1::q.1,r.2++q.2):=rfl
@[simp] theorem qz8 (szs:List Nat):zgs st szs []=some ([],[]):=by cases szs <;> rfl
@[simp] theorem qub:zcy st ms []=some ([],[]):=by cases ms <;> rfl
@[simp] theorem qso (szs:List Nat) (x:PV):zcy st [] ((szs,x)::xs)=(zcs st szs x).bind fun y=>(zcy st [] xs).bind fun q=>some (y::q.1,q.2):=rfl
@[simp] theorem qsw (szs:List Nat) (x:PV):zcy st (true::ms) ((szs,x)::xs)=(zfu st szs x).bind fun r=>(zcy st ms xs).bind fun q=>some (r.1::q.1,r.2++q.2):=rfl
@[simp] theorem qw6 (szs:List Nat) (x:PV):zcy st (false::ms) ((szs,x)::xs)=(zcs st szs x).bind fun y=>(zcy st ms xs).bind fun q=>some (y::q.1,q.2):=by simp only [zcy,Bool.false_eq_true,if_false]; cases zcs st szs x <;> rfl
@[simp] theorem qv1:root (.v x)=[]:=rfl
@[simp] theorem qrz:zd1 (.v x)=[]:=rfl
@[simp] theorem qq1  : root (.e0)=[]:=rfl
@[simp] theorem qx5  : zd1 (.e0)=[]:=rfl
@[simp] theorem qog:root (.sl sz es)=[]:=rfl
@[simp] theorem qph:zd1 (.sl sz es)=[]:=rfl
@[simp] theorem qw1 (ep lo len:Nat):root (.ref o p ep lo len)=[o]:=rfl
@[simp] theorem qrh (ep lo len:Nat):zd1 (.ref o p ep lo len)=[o]:=rfl
@[simp] theorem qtc:root (.ptr o p ep i j)=[o]:=rfl
@[simp] theorem qzk:zd1 (.ptr o p ep i j)=[o]:=rfl
@[simp] theorem qnm:root (.fptr cs j)=[]:=rfl
@[simp] theorem qny:zd1 (.fptr cs j)=[]:=rfl
@[simp] theorem qqh:zd1 (.agg cs)=cs.flatMap root:=rfl
@[simp] theorem qz2:zd1 (.fn f cs)=cs.flatMap root:=rfl
@[simp] theorem qsx  : zew []=true:=rfl
@[simp] theorem qxh (x:Nat) (xs:List Nat):zew (x::xs)=(!xs.any (fun y=>decide (y=x)) && zew xs):=rfl
@[simp] theorem qn4:ze1 (.own sz es)=true:=rfl
@[simp] theorem qo0:ze1 (.bx cs)=false:=rfl
@[simp] theorem qyt (o len s:Nat) (es':List (List PV)):putRow st o len s es' (some (.row sz es)) none=if es'.length=len/\s=sz/\es.length=len then some { st with S:=upd st.S o (some (.row sz es')) } else none:=rfl
@[simp] theorem qwg (cs' cs:List PV):zpu st o cs' (some (.box cs))=if cs'.length=cs.length then some { st with S:=upd st.S o (some (.box cs')) } else none:=rfl
@[simp] theorem qnh:ze1 .undef=true:=rfl
@[simp] theorem qxb:zcx st .e0 .undef=some st:=rfl
@[simp] theorem qrb (ep lo len:Nat):zcx st (.ref o p ep lo len) .undef=zpg st o (st.S o):=rfl
@[simp] theorem qx3:zpg st o (some (.row sz es))=some { st with S:=upd st.S o none }:=rfl
@[simp] theorem qtb:zcx st .e0 (.own sz es)=if es.length=0 then some st else none:=rfl
@[simp] theorem qpy (ep lo len s:Nat) (es':List (List PV)):zcx st (.ref o p ep lo len) (.own s es')=putRow st o len s es' (st.S o) p:=rfl
@[simp] theorem qtt (cs':List PV):zcx st (.ptr o p ep i j) (.bx cs')=zpu st o cs' (st.S o):=rfl
@[simp] theorem qq7:zeq st [] []=some st:=rfl
@[simp] theorem qlk (t:PV) (ts:List PV) (o:PV) (os:List PV):zeq st (t::ts) (o::os)=(zcx st t o).bind fun st=>zeq st ts os:=rfl
@[simp] theorem ql0 (z:Bool):zdo st z (.v x)=some (.v x,st):=rfl
@[simp] theorem qum (z:Bool):zdo st z (.sl sz es)=if z then none else some (.sl sz es,st):=rfl
@[simp] theorem qm4 (z:Bool):zdo st z (.own sz es)=some (newRow st sz es):=rfl
@[simp] theorem qur (z:Bool):zdo st z (.bx cs)=if z && cs.any isF then none else some (zb5 st cs):=rfl
@[simp] theorem ql7 (z:Bool):zgi st z []=some ([],st):=rfl
@[simp] theorem qmh (z:Bool) (c:PV):zgi st z (c::cs)=(zdo st z c).bind fun r=>(zgi r.2 z cs).bind fun q=>some (r.1::q.1,q.2):=rfl
@[simp] theorem q03 (z:Bool):zfe st z (.agg cs)=(zgi st z cs).map fun q=>(.agg q.1,q.2):=rfl
@[simp] theorem qv5 (z:Bool):zfe st z (.v x)=zdo st z (.v x):=rfl
@[simp] theorem qvc (z:Bool):zfe st z (.sl sz es)=zdo st z (.sl sz es):=rfl
@[simp] theorem qvm (z:Bool):zfe st z (.own sz es)=zdo st z (.own sz es):=rfl
@[simp] theorem qo3 (z:Bool):zfe st z (.bx cs)=zdo st z (.bx cs):=rfl
@[simp] theorem qua (z:Bool):zfv st z []=some ([],st):=rfl
@[simp] theorem qk8 (z:Bool) (c:PV):zfv st z (c::cs)=(zfe st z c).bind fun r=>(zfv r.2 z cs).bind fun q=>some (r.1::q.1,q.2):=rfl
@[simp] theorem qmg (x:PV):zpc [x]=x:=rfl
@[simp] theorem qli  : zpc [] = .tup []:=rfl
@[simp] theorem qya (x y:PV) (r:List PV):zpc (x::y::r) = .tup (x::y::r):=rfl
@[simp] theorem qs7  : zej []=[]:=rfl
@[simp] theorem qwq (szs:List Nat) (x:PV) (r:List (List Nat×PV)):zej ((szs,x)::r)=zd1 x++zej r:=rfl
@[simp] theorem qxj (all:List Nat):zyh [] all=true:=rfl
@[simp] theorem qqg (r all:List Nat):zyh (o::r) all=(decide ((all.filter fun y=>decide (y=o)).length=1) && zyh r all):=rfl
@[simp] theorem qzv:zk8 (some (.row sz es))=false:=rfl
@[simp] theorem qnp:zk8 (some (.rowF sz es))=false:=rfl
@[simp] theorem qwd:zk8 (some (.box cs))=false:=rfl
@[simp] theorem qt2:zk8 (some (.shadow sz es e))=true:=rfl
@[simp] theorem qq8  : zk8 none=false:=rfl
@[simp] theorem q0m:zix st []=true:=rfl
@[simp] theorem qvs (os:List Nat):zix st (o::os)=(!zk8 (st.S o) && zix st os):=rfl
@[simp] theorem qr5  : zxr []=true:=rfl
@[simp] theorem qpp (x:PV) (xs:List PV):zxr (x::xs)=false:=rfl
@[simp] theorem qoc (k:Kd) (x y:Value):eqP [k] (.v x) (.v y)=eqV k x y:=rfl
@[simp] theorem qy0 (fl:Bool):zhb fl false st=st:=rfl
@[simp] theorem qo5:zhb false true st = { st with ep:=st.ep+1 }:=rfl
@[simp] theorem qoj:zhb true true st = { st with S:=ybf st.S }:=rfl
@[simp] theorem qlx:zyf (.own s es)=zcl es:=rfl
@[simp] theorem qoi:zyf (.bx cs)=true:=rfl
@[simp] theorem q0r:z7u (.bx cs)=cs.any isF:=rfl
@[simp] theorem qn3:z7u (.own sz es)=false:=rfl
@[simp] theorem qsd (hs:List PV):zhp args hs=((zej args).length != (hs.flatMap root).length):=rfl
@[simp] theorem qrr:ze2 m R st f args=(zcy st (m f) args).bind fun a=>if zyh (a.2.flatMap root) (zej args) && (zxr a.2 || zix st (zej args)) then (R f a.1).bind fun r=>if zhp args a.2 && r.2.any z7u || decide (args.length<(m f).length) && !r.2.all zyf then none else (zeq st a.2 r.2).bind fun st1=>(zfv (zhb (decide (args.length<(m f).length)) (r.2.any ze1) st1) (zhp args a.2) r.1).map fun q=>(zpc q.1,q.2) else none:=rfl
@[simp] theorem qzt:zdt m R st f args=zgk (zeg st (m f) args) (ze2 m R st f args) (zji m R st f args):=rfl
@[simp] theorem qxc {α β:Type} (y:Option β) (k:α->Option β):zgk none y k=y:=rfl
@[simp] theorem qnu {α β:Type} (x:α) (y:Option β) (k:α->Option β):zgk (some x) y k=k x:=rfl
@[simp] theorem qyg (q:List Nat×PV):zeg st (true::ms) (q::xs)=zgk (zhc st (cellsOf q.2)) (zeg st ms xs) some:=rfl
@[simp] theorem qvo (q:List Nat×PV):zeg st (false::ms) (q::xs)=zeg st ms xs:=rfl
@[simp] theorem qwl:zeg st [] xs=none:=by cases xs <;> rfl
@[simp] theorem qod:zeg st ms []=none:=by cases ms with | nil=>rfl | cons b ms=>cases b <;> rfl
@[simp] theorem qr4:cellsOf (.ptr o p ep i j)=[.ptr o p ep i j]:=rfl
@[simp] theorem qpz:cellsOf (.fptr cs j)=[.fptr cs j]:=rfl
@[simp] theorem qms:cellsOf (.fn f cs)=[.fn f cs]:=rfl
@[simp] theorem qyy:zhc st []=none:=rfl
@[simp] theorem qsa (c:PV):zhc st (c::cs)=zgk (zfw st c) (zhc st cs) some:=rfl
@[simp] theorem qsc:zfw st (.v x)=none:=rfl
@[simp] theorem qud:zfw st .e0=none:=rfl
@[simp] theorem qvb:zfw st .undef=none:=rfl
@[simp] theorem qmy:zfw st (.sl sz es)=none:=rfl
@[simp] theorem qve:zfw st (.fptr cs j)=none:=rfl
@[simp] theorem qtz:zfw st (.ptr o p ep i j)=none:=rfl
@[simp] theorem qk9:zfw st (.fn f cs)=none:=rfl
@[simp] theorem qnq (o ep lo len:Nat):zfw st (.ref o none ep lo len)=none:=rfl
@[simp] theorem qpr (o i j ep lo len:Nat):zfw st (.ref o (some (i,j)) ep lo len)=zih st.ep o i j ep lo len (st.S o):=rfl
@[simp] theorem qot (ce o i j ep lo len sz:Nat):zih ce o i j ep lo len (some (.row sz es))=if ep=ce then (zbe es i j).bind fun r=>if lo=0/\len=r.2.length then some ⟨o,i,j,sz,es,r.1,r.2⟩ else none else none:=rfl
@[simp] theorem qse (ce o i j ep lo len:Nat):zih ce o i j ep lo len (some (.box cs))=none:=rfl
@[simp] theorem qpd (ce o i j ep lo len sz:Nat):zih ce o i j ep lo len (some (.rowF sz es))=none:=rfl
@[simp] theorem qp5 (ce o i j ep lo len:Nat):zih ce o i j ep lo len none=none:=rfl
@[simp] theorem q09 (ep lo len:Nat):zgr d n e (.ref o p ep lo len)=if o=d.o/\p=some (d.i,d.j)/\ep=e then .ref n none (e+1) lo len else .ref o p ep lo len:=rfl
@[simp] theorem q01:zgr d n e (.v x) = .v x:=rfl
@[simp] theorem qp6:zgr d n e .e0 = .e0:=rfl
@[simp] theorem qm5:zgr d n e (.sl sz es) = .sl sz es:=rfl
@[simp] theorem qkw:zgr d n e (.ptr o p ep i j) = .ptr o p ep i j:=rfl
@[simp] theorem qnv:zgr d n e (.fptr cs j) = .fptr cs j:=rfl
@[simp] theorem qww:zho d n e (.agg cs) = .agg (cs.map (zgr d n e)):=rfl
@[simp] theorem qle:zho d n e (.fn f cs) = .fn f cs:=rfl
@[simp] theorem qx9:zho d n e (.v x) = .v x:=rfl
@[simp] theorem qxn:zho d n e .e0 = .e0:=rfl
@[simp] theorem qq9:zho d n e (.sl sz es) = .sl sz es:=rfl
@[simp] theorem qyl:zho d n e (.ptr o p ep i j) = .ptr o p ep i j:=rfl
@[simp] theorem qn1:zho d n e (.fptr cs j) = .fptr cs j:=rfl
@[simp] theorem qwn (ep lo len:Nat):zho d n e (.ref o p ep lo len)=zgr d n e (.ref o p ep lo len):=rfl
@[simp] theorem ql4:zkt d n e args=args.map fun q=>(q.1,zho d n e q.2):=rfl
@[simp] theorem qp7:zcc st d = { st with S:=upd (upd st.S d.o (some (.row d.sz (zb8 d.es d.i d.j .undef)))) st.nx (some (.row d.s2 d.es2)),nx:=st.nx+1,ep:=st.ep+1 }:=rfl
@[simp] theorem qvl:zox st n d=zo3 st n d.o d.i d.j (st.S n) (st.S d.o):=rfl
@[simp] theorem qy3 (es es':List (List PV)):zo3 st n o i j (some (.row s es')) (some (.row sz es))=some { st with S:=upd (upd st.S n none) o (some (.row sz (zb8 es i j (.own s es')))),ep:=st.ep+1 }:=rfl
@[simp] theorem qwa:zji m R st f args d=if (zej (zkt d st.nx st.ep args)).any (fun o=>o=d.o) then none else (ze2 m R (zcc st d) f (zkt d st.nx st.ep args)).bind fun r=>(zox r.2 st.nx d).map fun s=>(r.1,s):=rfl
@[simp] theorem ql1:zcw st (.v x)=some (.v x,st):=rfl
@[simp] theorem qxt:zcw st (.sl sz es)=some (.sl sz es,st):=rfl
@[simp] theorem qvy:zcw st (.fptr cs j)=some (.fptr cs j,st):=rfl
@[simp] theorem qxd:zcw st (.own sz es)=some (newRow st sz es):=rfl
@[simp] theorem qxe:zcw st (.bx cs)=some (zb5 st cs):=rfl
@[simp] theorem qxy:zcw st (.fn f caps)=some (.fn f caps,st):=rfl
@[simp] theorem ql3:zk7 st []=some ([],st):=rfl
@[simp] theorem q1e (c:PV):zk7 st (c::cs)=(zcw st c).bind fun r=>(zk7 r.2 cs).bind fun q=>some (r.1::q.1,q.2):=rfl
@[simp] theorem qnw:zgw st (.agg cs)=(zk7 st cs).map fun q=>(.agg q.1,q.2):=rfl
@[simp] theorem qp0:zgw st (.v x)=zcw st (.v x):=rfl
@[simp] theorem q0b:zgw st (.sl sz es)=zcw st (.sl sz es):=rfl
@[simp] theorem qqb:zgw st (.own sz es)=zcw st (.own sz es):=rfl
@[simp] theorem qyn:zgw st (.bx cs)=zcw st (.bx cs):=rfl
@[simp] theorem qr9:zgw st (.fptr cs j)=zcw st (.fptr cs j):=rfl
@[simp] theorem qnk:zgw st (.fn f caps)=zcw st (.fn f caps):=rfl
@[simp] theorem qyk:zk2 st []=some ([],st):=rfl
@[simp] theorem qtd (c:PV):zk2 st (c::cs)=(zgw st c).bind fun r=>(zk2 r.2 cs).bind fun q=>some (r.1::q.1,q.2):=rfl
@[simp] theorem qt4  : st0 = { V:=fun _ => .undef,E:=fun _ => .undef,S:=fun _=>none,nx:=0,ep:=0 }:=rfl
@[simp] theorem q0v (args:List PV):zky args=(zk2 st0 args).map fun q => { q.2 with V:=fun k=>q.1.getD k .undef }:=rfl
@[simp] theorem qto:zde st io sz (.v x)=some (.v x):=rfl
@[simp] theorem qmb:zde st io sz .e0=some (.own sz []):=rfl
@[simp] theorem qqk:zde st io sz (.sl s es)=some (.sl s es):=rfl
@[simp] theorem qwj (ep lo len:Nat):zde st io sz (.ref o p ep lo len)=zks io o (st.S o) p lo len:=rfl
@[simp] theorem qni:zde st io sz (.ptr o p ep i j)=zk6 io o (st.S o) p i j:=rfl
@[simp] theorem qn7 (lo len:Nat):zks io o (some (.row s es)) none lo len=if io<=o then some (.own s (cut es lo len)) else none:=rfl
@[simp] theorem qsz:zk6 io o (some (.box cs)) none i j=if io<=o/\i=0/\j=0/\cs.all zdr then some (.bx cs) else none:=rfl
@[simp] theorem qu9 (szs:List Nat) (c:PV):zi3 st io (sz::szs) (c::cs)=(zde st io sz c).bind fun x=>(zi3 st io szs cs).bind fun xs=>some (x::xs):=rfl
@[simp] theorem qzf (szs:List Nat):zi3 st io szs []=some []:=by cases szs <;> rfl
@[simp] theorem qou (szs:List Nat):zg6 st io szs (.agg cs)=(zi3 st io szs cs).map .agg:=rfl
@[simp] theorem qut (szs:List Nat):zg6 st io szs (.v x)=zde st io (szs.headD 0) (.v x):=rfl
@[simp] theorem qxg (szs:List Nat)  : zg6 st io szs (.e0)=zde st io (szs.headD 0) (.e0):=rfl
@[simp] theorem quj (szs:List Nat):zg6 st io szs (.sl sz es)=zde st io (szs.headD 0) (.sl sz es):=rfl
@[simp] theorem qx6 (szs:List Nat) (ep lo len:Nat):zg6 st io szs (.ref o p ep lo len)=zde st io (szs.headD 0) (.ref o p ep lo len):=rfl
@[simp] theorem qsv (szs:List Nat):zg6 st io szs (.ptr o p ep i j)=zde st io (szs.headD 0) (.ptr o p ep i j):=rfl
@[simp] theorem qvv (szs:List Nat) (k:Nat):zpb st (.tmp szs k)=some (st.V k):=rfl
@[simp] theorem qo8 (szs:List Nat) (k:Nat):zpb st (.cell szs k ag)=(loadCells st szs.length (st.V k)).bind (zkp ag):=rfl
@[simp] theorem qpf (szs:List Nat) (k:Nat):RV.szs (.tmp szs k)=szs:=rfl
@[simp] theorem qup (szs:List Nat) (k:Nat):RV.szs (.cell szs k ag)=szs:=rfl
@[simp] theorem qw5:zjf st []=some []:=rfl
@[simp] theorem qkz (r:RV) (rs:List RV):zjf st (r::rs)=(zpb st r).bind fun x=>(zjf st rs).bind fun xs=>some ((r.szs,x)::xs):=rfl
@[simp] theorem qpo:zk9 st io []=some []:=rfl
@[simp] theorem qu4 (szs:List Nat) (x:PV) (r:List (List Nat×PV)):zk9 st io ((szs,x)::r)=(zg6 st io szs x).bind fun y=>(zk9 st io r).bind fun ys=>some (y::ys):=rfl
@[simp] theorem qyh:zig (some (.row sz es))=some (.own sz es):=rfl
@[simp] theorem qmj:zig (some (.box cs))=if cs.all zdr then some (.bx cs) else none:=rfl
@[simp] theorem qq2:zkw st 0=some []:=rfl
@[simp] theorem qyf:zkw st 1=(zig (st.S 0)).map fun x=>[x]:=rfl
@[simp] theorem qxk:zkw st 2=((zig (st.S 0)).map fun x=>[x]).bind fun l=>(zig (st.S 1)).map fun x=>l++[x]:=rfl
@[simp] theorem qzu:zuw []=false:=rfl
@[simp] theorem qvi (szs:List Nat) (k:Nat):zuw (.tmp szs k::r)=false:=rfl
@[simp] theorem qyc (szs:List Nat) (k:Nat):zuw (.cell szs k ag::r)=false:=rfl
@[simp] theorem qnz:zuw (.pl::r)=true:=rfl
@[simp] theorem q1d:zmk []=[]:=rfl
@[simp] theorem qqc (szs:List Nat) (k:Nat):zmk (.tmp szs k::r) = .tmp szs k::r:=rfl
@[simp] theorem qm9 (szs:List Nat) (k:Nat):zmk (.cell szs k ag::r) = .cell szs k ag::r:=rfl
@[simp] theorem qz5:zmk (.pl::r)=r:=rfl
@[simp] theorem qts (q:Nat×Nat) (ep lo len:Nat):zk5 d n e (.ref o (some q) ep lo len)=if o=d.o/\ep=e then (if q=(d.i,d.j) then .ref n none (e+1) lo len else .ref o (some q) (e+1) lo len) else .ref o (some q) ep lo len:=rfl
@[simp] theorem qnd (n e o ep lo len:Nat):zk5 d n e (.ref o none ep lo len) = .ref o none ep lo len:=rfl
@[simp] theorem qzz:zk5 d n e (.v x) = .v x:=rfl
@[simp] theorem qok:zk5 d n e .e0 = .e0:=rfl
@[simp] theorem qtg:zux d n e (.agg cs) = .agg (cs.map (zk5 d n e)):=rfl
@[simp] theorem qnf:zux d n e (.v x) = .v x:=rfl
@[simp] theorem qte:zjb (n+1) st xs=match zhc st (xs.flatMap fun x=>cellsOf x.2) with
  | some d=>zjb n (zcc st d) (xs.map fun q=>(q.1,zux d st.nx st.ep q.2))
  | none=>(st,xs):=rfl
@[simp] theorem qx7:zjb 0 st xs=(st,xs):=rfl
@[simp] theorem qxx:zx1 io (st,xs)=if zew (xs.flatMap fun x=>zd1 x.2) then (zk9 st io xs).bind fun ys=>(zkw st io).map fun os=>(ys,os) else none:=rfl
@[simp] theorem qqm (rv:List RV) (ic:IC):zfs ⟨ms,rv,ic⟩ io st=(zjf st (zmk rv)).bind fun xs=>zx1 io (if zuw rv then zjb 2 st xs else (st,xs)):=rfl
@[simp] theorem qnl (rv:List RV) (ic:IC) (args:List PV):zxv m R ⟨ms,rv,ic⟩ args=(zky args).bind fun st=>(evL m R ic st).bind (Ex.fin (zfs ⟨ms,rv,ic⟩ st.nx)):=rfl
def zuf:List Value->Option (List Value)
 | [.int .u64 x,.int .u64 y,.int .u64 c]=>if 0<=x/\0<=y/\0<=c/\c<=1 then some [.int .u64 ((x+y+c) % 18446744073709551616),.int .u64 ((x+y+c) / 18446744073709551616)] else none
 | _=>none
def zuv:List Value->Option (List Value)
 | [.int .u64 x,.int .u64 y,.int .u64 b]=>if 0<=x/\0<=y/\x<18446744073709551616/\y<18446744073709551616/\0<=b/\b<=1 then some [.int .u64 ((x-y-b) % 18446744073709551616),.int .u64 (if x<y+b then 1 else 0)] else none
 | _=>none
theorem ycu {T:zcm} {f:Nat} (hT:T f=some (.ext zuf)) {x y c:Int} (hx:0<=x) (hy:0<=y) (hc:0<=c) (hc1:c<=1) :
  RUN T f [.v (.int .u64 x),.v (.int .u64 y),.v (.int .u64 c)]=some ([.v (.int .u64 ((x+y+c) % 18446744073709551616)),.v (.int .u64 ((x+y+c) / 18446744073709551616))],[]) :=
 ypc hT (xs:=[.int .u64 x,.int .u64 y,.int .u64 c]) (if_pos ⟨hx,hy,hc,hc1⟩)
theorem yq1 {T:zcm} {f:Nat} (hT:T f=some (.ext zuv)) {x y c:Int} (hx:0<=x) (hy:0<=y) (hx1:x<18446744073709551616) (hy1:y<18446744073709551616) (hc:0<=c) (hc1:c<=1) :
  RUN T f [.v (.int .u64 x),.v (.int .u64 y),.v (.int .u64 c)]=some ([.v (.int .u64 ((x-y-c) % 18446744073709551616)),.v (.int .u64 (if x<y+c then 1 else 0))],[]) :=
 ypc hT (xs:=[.int .u64 x,.int .u64 y,.int .u64 c]) (if_pos ⟨hx,hy,hx1,hy1,hc,hc1⟩)
theorem zaf {T:zcm} {ic:IC} {rv:List RV} (h:T f=some (zaa ic rv ms)):zad T f=ms:=by simp [zad,h,Fun.modes]
theorem zxk {T:zcm} {g:List PV->Option (List PV×List PV)} (h:T f=some (.known ms g)):zad T f=ms:=by simp [zad,h,Fun.modes]
end Go.Pe
namespace Go.Pe
open Go
variable {X:Prop} {s:St} {i x y g:Opd} {id b n sz f bk fw:Nat} {r todo:List (zac×PV×Nat)} {d:Option Dst} {op:IOp} {os:List (zac×Nat×Nat)} {w:PV} {past:List St} {o:zac} {ps:List (Nat×Nat×Opd)} {ag:Bool} {ks:List Kd} {k:IntKind} {caps:List Opd} {lo hi mx:Option Opd} {args:List (List Nat×Opd)} {Q:Ex->St->Prop}
universe u
structure Dm {α:Sort u} (a:α):Type where mk ::
def W (m:Nat->List Bool) (R:zak) (c:IC) (st:St) (Q:Ex->St->Prop) (_:Dm Q:=⟨⟩):Prop := ∃ e s,evL m R c st=some (e,s)/\Q e s
def WO (m:Nat->List Bool) (R:zak) (ops:List zac) (st:St) (K:St->Prop) (_:Dm K:=⟨⟩):Prop := ∃ s,zdh m R ops st=some s/\K s
def WD (m:Nat->List Bool) (R:zak) (ops:List (zac×Nat×Nat)) (todo:List (zac×PV×Nat)) (past:List St) (st:St) (K:St->Prop) (_:Dm K:=⟨⟩) (_:Dm past:=⟨⟩):Prop := ∃ s,evD m R ops todo past st=some s/\K s
def WI (m:Nat->List Bool) (R:zak) (op:IOp) (st:St) (K:PV->St->Prop) (_:Dm K:=⟨⟩):Prop := ∃ x s,zah m R st op=some (x,s)/\K x s
def Ob' {α:Type} (o:Option α) (K:α->Prop) (_:Dm K:=⟨⟩):Prop := ∃ a,o=some a/\K a
def Br (t:Bool) (X Y:Prop) (_:Dm X:=⟨⟩) (_:Dm Y:=⟨⟩):Prop:=(t=true->X)/\(t=false->Y)
def Cd (p X:Prop) (_:Dm X:=⟨⟩):Prop:=p/\X
def Nx (K:St->Prop) (Q:Ex->St->Prop) (_:Dm K) (_:Dm Q):Ex->St->Prop
 | .normal,s=>K s
 | e,s=>Q e s
def Bl (id:Nat) (Q:Ex->St->Prop) (_:Dm Q):Ex->St->Prop
 | .exit i,s=>if i=id then Q .normal s else Q (.exit i) s
 | e,s=>Q e s
def Fin (rv:List RV) (io:Nat) (r:List PV×List PV) (_:Dm rv) (_:Dm r) (e:Ex) (s:St):Prop:=(e = .normal\/e = .ret)/\zfs ⟨[],rv,.skip⟩ io s=some r
section
variable {m:Nat->List Bool} {R:zak}
@[simp] theorem yqw {α:Type} {a:α} {K:α->Prop}:Ob' (some a) K=K a:=by simp [Ob']
@[simp] theorem qx1 {α:Type} {K:α->Prop}:Ob' none K=False:=by simp [Ob']
@[simp] theorem qpl {α:Type} {p:Prop} [Decidable p] {a b:α} {K:α->Prop}:Ob' (if p then some a else some b) K=K (if p then a else b):=by split <;> simp
@[simp] theorem ykl {α:Type} {p:Prop} [Decidable p] {a:Option α} {K:α->Prop}:Ob' (if p then a else none) K=Cd p (Ob' a K):=by
 unfold Cd; split <;> simp_all
@[simp] theorem y7j {α β:Type} {o:Option α} {f:α->Option β} {K:β->Prop}:Ob' (o.bind f) K=Ob' o (fun a=>Ob' (f a) K):=by cases o <;> simp
@[simp] theorem y8h {α β:Type} {o:Option α} {f:α->β} {K:β->Prop}:Ob' (o.map f) K=Ob' o (fun a=>K (f a)):=by cases o <;> simp
@[simp] theorem qxq {X Y:Prop}:Br true X Y=X:=by simp [Br]
@[simp] theorem qv3 {X Y:Prop}:Br false X Y=Y:=by simp [Br]
@[simp] theorem qz0:Cd True X=X:=by simp [Cd]
@[simp] theorem qta:Cd False X=False:=by simp [Cd]
theorem za9 {t:Bool} {X Y:Prop} (h1:t=true->X) (h2:t=false->Y):Br t X Y:=⟨h1,h2⟩
end
section
variable {m:Nat->List Bool} {R:zak} {st:St} {Q:Ex->St->Prop} {K:St->Prop}
@[simp] theorem qs5:Nx K Q ⟨⟩ ⟨⟩ .normal s=K s:=rfl
@[simp] theorem qul:Nx K Q ⟨⟩ ⟨⟩ .ret s=Q .ret s:=rfl
@[simp] theorem qzl {i:Nat}:Nx K Q ⟨⟩ ⟨⟩ (.exit i) s=Q (.exit i) s:=rfl
@[simp] theorem quv:Bl id Q ⟨⟩ .normal s=Q .normal s:=rfl
@[simp] theorem qux:Bl id Q ⟨⟩ .ret s=Q .ret s:=rfl
@[simp] theorem qxz:Bl id Q ⟨⟩ (.exit id) s=Q .normal s:=by simp [Bl]
@[simp] theorem qly:Bl 0 Q ⟨⟩ (.exit 1) s=Q (.exit 1) s:=by simp [Bl]
@[simp] theorem qzp:Bl 1 Q ⟨⟩ (.exit 0) s=Q (.exit 0) s:=by simp [Bl]
@[simp] theorem qpa {rv:List RV} {io:Nat} {r:List PV×List PV}:Fin rv io r ⟨⟩ ⟨⟩ .normal s=(zfs ⟨[],rv,.skip⟩ io s=some r):=by simp [Fin]
@[simp] theorem qpn {rv:List RV} {io:Nat} {r:List PV×List PV}:Fin rv io r ⟨⟩ ⟨⟩ .ret s=(zfs ⟨[],rv,.skip⟩ io s=some r):=by simp [Fin]
theorem ycj {c:IC} {e:Ex} (h:evL m R c st=some (e,s)):W m R c st Q=Q e s:=by
 simp only [W,h,bC,Prod.mk.injEq,eq_iff_iff];constructor
 ·rintro ⟨e,s,⟨rfl,rfl⟩,h⟩; exact h
 ·intro h; exact ⟨_,_,⟨rfl,rfl⟩,h⟩
@[simp] theorem qoa:W m R .skip st Q=Q .normal st:=ycj rfl
@[simp] theorem qlw:W m R .ret st Q=Q .ret st:=ycj rfl
@[simp] theorem qrp:W m R (.exit id) st Q=Q (.exit id) st:=ycj rfl
@[simp] theorem qk3 {ops:List zac}:W m R (.reg ops) st Q=WO m R ops { st with E:=fun _ => .undef } (Q .normal):=by
 simp only [W,WO,y7y,bB,eq_iff_iff];constructor
 ·rintro ⟨e,s,⟨s',h1,h2⟩,h3⟩; cases h2; exact ⟨_,h1,h3⟩
 ·rintro ⟨s,h1,h2⟩; exact ⟨_,s,⟨s,h1,rfl⟩,h2⟩
@[simp] theorem ql6 {ops:List (zac×Nat×Nat)}:W m R (.regD ops) st Q=WD m R ops [] [] { st with E:=fun _ => .undef } (Q .normal):=by
 simp only [W,WD,evL,bB,eq_iff_iff];constructor
 ·rintro ⟨e,s,⟨s',h1,h2⟩,h3⟩; cases h2; exact ⟨_,h1,h3⟩
 ·rintro ⟨s,h1,h2⟩; exact ⟨_,s,⟨s,h1,rfl⟩,h2⟩
@[simp] theorem qcu {a b:IC}:W m R (.seq a b) st Q=W m R a st (Nx (fun s=>W m R b s Q) Q ⟨⟩ ⟨⟩):=by
 simp only [W,ykw,Option.bind_eq_some_iff,eq_iff_iff];constructor
 ·rintro ⟨e,s,⟨⟨e1,s1⟩,h1,h2⟩,h3⟩;refine ⟨e1,s1,h1,?_⟩;cases e1 with
  | normal=>exact ⟨e,s,h2,h3⟩
  | exit i=>cases h2; exact h3
  | ret=>cases h2; exact h3
 ·rintro ⟨e1,s1,h1,h2⟩;cases e1 with
  | normal=>obtain ⟨e,s,h3,h4⟩:=h2; exact ⟨e,s,⟨_,h1,h3⟩,h4⟩
  | exit i=>exact ⟨_,_,⟨_,h1,rfl⟩,h2⟩
  | ret=>exact ⟨_,_,⟨_,h1,rfl⟩,h2⟩
@[simp] theorem qlm {c:Opd} {x y:IC}:W m R (.cond c x y) st Q=Ob' (zg2 (c.get st)) fun t=>Br t (W m R x st Q) (W m R y st Q):=by
 simp only [W,y9c,Option.bind_eq_some_iff,Ob',Br,eq_iff_iff];constructor
 ·rintro ⟨e,s,⟨t,h1,h2⟩,h3⟩;refine ⟨t,h1,fun ht => ?_,fun ht => ?_⟩ <;> subst ht
  ·exact ⟨e,s,by simpa using h2,h3⟩
  ·exact ⟨e,s,by simpa using h2,h3⟩
 ·rintro ⟨t,h1,h2,h3⟩;cases t with
  | true=>obtain ⟨e,s,h4,h5⟩:=h2 rfl; exact ⟨e,s,⟨true,h1,by simpa using h4⟩,h5⟩
  | false=>obtain ⟨e,s,h4,h5⟩:=h3 rfl; exact ⟨e,s,⟨false,h1,by simpa using h4⟩,h5⟩
@[simp] theorem qw7 {c:IC}:W m R (.block id c) st Q=W m R c st (Bl id Q ⟨⟩):=by
 simp only [W,y7u,bB,eq_iff_iff];constructor
 ·rintro ⟨e,s,⟨⟨e1,s1⟩,h1,h2⟩,h3⟩;refine ⟨e1,s1,h1,?_⟩;cases e1 with
  | normal=>cases h2; exact h3
  | exit i=>simp only [Ex.out] at h2; simp only [Bl]; cases h2; split at h3 <;> simp_all
  | ret=>cases h2; exact h3
 ·rintro ⟨e1,s1,h1,h2⟩;refine ⟨_,_,⟨_,h1,rfl⟩,?_⟩;cases e1 with
  | normal=>exact h2
  | exit i=>simp only [Ex.out]; simp only [Bl] at h2; split <;> simp_all
  | ret=>exact h2
@[simp] theorem qn0:WO m R [] st K=K st:=by simp [WO]
@[simp] theorem qz3 {os:List zac}:WO m R (⟨d,op,none⟩::os) st K=WI m R op st (fun x s=>WO m R os (s.put d x) K):=by
 simp only [WO,WI,qeh,Option.bind_eq_some_iff,eq_iff_iff];constructor
 ·rintro ⟨s,⟨⟨x,s1⟩,h1,h2⟩,h3⟩; exact ⟨x,s1,h1,s,h2,h3⟩
 ·rintro ⟨x,s1,h1,s,h2,h3⟩; exact ⟨s,⟨(x,s1),h1,h2⟩,h3⟩
@[simp] theorem qx0 {w:Bool} {os:List zac}:WO m R (⟨d,op,some (g,w)⟩::os) st K=Ob' (zh6 w (g.get st)) fun t=>Br t (WI m R op st (fun x s=>WO m R os (s.put d x) K)) (WO m R os (st.put d (.v Go.undef)) K):=by
 simp only [WO,WI,y62,Option.bind_eq_some_iff,Ob',Br,eq_iff_iff];constructor
 ·rintro ⟨s,⟨t,h1,h2⟩,h3⟩;refine ⟨t,h1,fun ht => ?_,fun ht => ?_⟩ <;> subst ht
  ·simp only [if_true,Option.bind_eq_some_iff] at h2;obtain ⟨⟨x,s1⟩,h4,h5⟩:=h2;exact ⟨x,s1,h4,s,h5,h3⟩
  ·exact ⟨s,by simpa using h2,h3⟩
 ·rintro ⟨t,h1,h2,h3⟩;cases t with
  | true=>obtain ⟨x,s1,h4,s,h5,h6⟩:=h2 rfl; exact ⟨s,⟨true,h1,by simp [h4,h5]⟩,h6⟩
  | false=>obtain ⟨s,h4,h5⟩:=h3 rfl; exact ⟨s,⟨false,h1,by simpa using h4⟩,h5⟩
@[simp] theorem qo2:WD m R [] todo past st K=K st:=by simp [WD,evD]
theorem z94:evG m R st ⟨d,op,none⟩=zah m R st op:=rfl
theorem ylk {w:Bool}:evG m R st ⟨d,op,some (g,w)⟩=(zh6 w (g.get st)).bind fun t=>if t then zah m R st op else some (.v Go.undef,st):=rfl
def WQ (m:Nat->List Bool) (R:zak) (os:List (zac×Nat×Nat)) (todo:List (zac×PV×Nat)) (past:List St) (st:St) (K:St->Prop) (o:zac) (b w:Nat) (x:PV) (s:St) (_:Dm K:=⟨⟩) (_:Dm past:=⟨⟩):Prop :=
 if quiet o.op then Cd (za2 st.V st.E o x b past) (WD m R os (if w=0 then todo else (o,x,w)::todo) past (st.put o.dst x) K) else Cd (zck s todo) (WD m R os (zc9 todo) (st::past) (s.put o.dst x) K)
theorem ypi {b w:Nat}:WD m R ((o,b,w)::os) todo past st K↔∃ x s,evG m R st o=some (x,s)/\WQ m R os todo past st K o b w x s:=by
 simp only [WD,evD,Option.bind_eq_some_iff,WQ,Cd];constructor
 ·rintro ⟨s,⟨⟨x,s1⟩,h1,h2⟩,h3⟩;refine ⟨x,s1,h1,?_⟩;split at h2
  ·rename_i hq; rw [if_pos hq];split at h2
   ·rename_i hc; exact ⟨hc,s,h2,h3⟩
   ·cases h2
  ·rename_i hq; rw [if_neg hq];split at h2
   ·rename_i hc; exact ⟨hc,s,h2,h3⟩
   ·cases h2
 ·rintro ⟨x,s1,h1,h2⟩;split at h2
  ·rename_i hq;obtain ⟨hc,s,h2,h3⟩:=h2;exact ⟨s,⟨(x,s1),h1,by rw [if_pos hq,if_pos hc]; exact h2⟩,h3⟩
  ·rename_i hq;obtain ⟨hc,s,h2,h3⟩:=h2;exact ⟨s,⟨(x,s1),h1,by rw [if_neg hq,if_pos hc]; exact h2⟩,h3⟩
@[simp] theorem qm6 {b w:Nat}:WD m R ((⟨d,op,none⟩,b,w)::os) todo past st K=WI m R op st (fun x s=>WQ m R os todo past st K ⟨d,op,none⟩ b w x s):=by
 rw [eq_iff_iff,ypi]; simp only [WI,z94]
@[simp] theorem qx8 {v:Bool} {b w:Nat}:WD m R ((⟨d,op,some (g,v)⟩,b,w)::os) todo past st K =
  Ob' (zh6 v (g.get st)) fun t=>Br t (WI m R op st (fun x s=>WQ m R os todo past st K ⟨d,op,some (g,v)⟩ b w x s)) (WQ m R os todo past st K ⟨d,op,some (g,v)⟩ b w (.v Go.undef) st):=by
 rw [eq_iff_iff,ypi];simp only [WI,ylk,Option.bind_eq_some_iff,Ob',Br];constructor
 ·rintro ⟨x,s,⟨t,h1,h2⟩,h3⟩;refine ⟨t,h1,fun ht => ?_,fun ht => ?_⟩ <;> subst ht
  ·exact ⟨x,s,by simpa using h2,h3⟩
  ·simp at h2; obtain ⟨rfl,rfl⟩:=h2; exact h3
 ·rintro ⟨t,h1,h2,h3⟩;cases t with
  | true=>obtain ⟨x,s,h4,h5⟩:=h2 rfl; exact ⟨x,s,⟨true,h1,by simpa using h4⟩,h5⟩
  | false=>exact ⟨_,_,⟨false,h1,rfl⟩,h3 rfl⟩
theorem zdx {g:Option (Opd×Bool)} {b w:Nat} {x:PV} (h:quiet op=true):WQ m R os todo past st K ⟨d,op,g⟩ b w x s=Cd (za2 st.V st.E ⟨d,op,g⟩ x b past) (WD m R os (if w=0 then todo else (⟨d,op,g⟩,x,w)::todo) past (st.put d x) K):=by
 simp only [WQ,h,if_true]
theorem zhw {g:Option (Opd×Bool)} {b w:Nat} {x:PV} (h:quiet op=false):WQ m R os todo past st K ⟨d,op,g⟩ b w x s=Cd (zck s todo) (WD m R os (zc9 todo) (st::past) (s.put d x) K):=by
 simp only [WQ,h,Bool.false_eq_true,if_false]
theorem zek {g:Option (Opd×Bool)} {x:PV} (h:quiet op=true):WQ m R os todo past st K ⟨d,op,g⟩ 0 0 x s=WD m R os todo past (st.put d x) K:=by
 rw [zdx h]; simp [Cd,za2]
theorem zea {g:Option (Opd×Bool)} {b w:Nat} {x:PV} (h:quiet op=true):WQ m R os todo past st K ⟨d,op,g⟩ b (w+1) x s=Cd (za2 st.V st.E ⟨d,op,g⟩ x b past) (WD m R os ((⟨d,op,g⟩,x,w+1)::todo) past (st.put d x) K):=by
 rw [zdx h]; simp
@[simp] theorem qvt {V E:Nat->PV} {x:PV} {ms:List St}:za2 V E o x 0 ms=True:=by simp [za2]
@[simp] theorem qu6 {V E:Nat->PV} {x:PV}:za2 V E o x n []=True:=by cases n <;> simp [za2]
@[simp] theorem qwz {V E:Nat->PV} {x:PV} {ms:List St}:za2 V E ⟨d,op,none⟩ x (n+1) (s::ms)=(WI (fun _=>[]) (fun _ _=>none) op { s with V:=V,E:=E } (fun y _=>y=x)/\za2 V E ⟨d,op,none⟩ x n ms):=by
 simp only [za2,yv,z94,WI,bB,eq_iff_iff];constructor
 ·rintro ⟨⟨⟨y,s'⟩,h1,h2⟩,h3⟩; exact ⟨⟨y,s',h1,h2⟩,h3⟩
 ·rintro ⟨⟨y,s',h1,h2⟩,h3⟩; exact ⟨⟨(y,s'),h1,h2⟩,h3⟩
@[simp] theorem qvd:zck s []=True:=by simp [zck]
@[simp] theorem qyv {x:PV}:zck s ((o,x,0)::r)=zck s r:=by simp [zck]
@[simp] theorem qvw {x:PV}:zck s ((⟨d,op,none⟩,x,n+1)::r)=(WI (fun _=>[]) (fun _ _=>none) op s (fun y _=>y=x)/\zck s r):=by
 simp only [zck,yv,z94,WI,bB,eq_iff_iff];constructor
 ·rintro ⟨⟨⟨y,s'⟩,h1,h2⟩,h3⟩; exact ⟨⟨y,s',h1,h2⟩,h3⟩
 ·rintro ⟨⟨y,s',h1,h2⟩,h3⟩; exact ⟨⟨(y,s'),h1,h2⟩,h3⟩
@[simp] theorem qri:zc9 []=[]:=rfl
@[simp] theorem qmm {x:PV}:zc9 ((o,x,0)::r)=zc9 r:=rfl
@[simp] theorem quf {x:PV}:zc9 ((o,x,n+1)::r)=(o,x,n)::zc9 r:=rfl
theorem z7w {K:PV->St->Prop} {x:PV} (h:zah m R st op=some (x,s)):WI m R op st K=K x s:=by
 simp only [WI,h,bC,Prod.mk.injEq,eq_iff_iff];constructor
 ·rintro ⟨a,b,⟨rfl,rfl⟩,h⟩; exact h
 ·intro h; exact ⟨_,_,⟨rfl,rfl⟩,h⟩
theorem zhx {op:IOp} {K:PV->St->Prop} {α:Type} {o:Option α} {f:α->PV} (h:zah m R st op=o.map fun a=>(f a,st)):WI m R op st K=Ob' o fun a=>K (f a) st:=by
 simp only [WI,h,bB,Prod.mk.injEq,Ob',eq_iff_iff];constructor
 ·rintro ⟨x,s,⟨a,h1,rfl,rfl⟩,h3⟩; exact ⟨a,h1,h3⟩
 ·rintro ⟨a,h1,h2⟩; exact ⟨_,_,⟨a,h1,rfl,rfl⟩,h2⟩
theorem zfx {op:IOp} {K:PV->St->Prop} {o:Option (PV×St)} (h:zah m R st op=o):WI m R op st K=Ob' o fun r=>K r.1 r.2:=by
 simp only [WI,h,Ob',eq_iff_iff];constructor
 ·rintro ⟨x,s,h1,h2⟩; exact ⟨(x,s),h1,h2⟩
 ·rintro ⟨⟨x,s⟩,h1,h2⟩; exact ⟨x,s,h1,h2⟩
end
section
variable {m:Nat->List Bool} {R:zak} {st:St} {K:PV->St->Prop}
@[simp] theorem qsu:WI m R (.mv x) st K=K (x.get st) st:=z7w rfl
@[simp] theorem qk5 {c a b:Opd}:WI m R (.pick c a b) st K=Ob' (zg2 (c.get st)) fun t=>K (if t then a.get st else b.get st) st:=zhx rfl
@[simp] theorem qmv {z:List PV}:WI m R (.alloc z) st K=K (zb5 st z).1 (zb5 st z).2:=z7w rfl
@[simp] theorem qr3:WI m R (.box x) st K=Cd ((cellsOf (x.get st)).all zc1=true) (K (zb5 st (cellsOf (x.get st))).1 (zb5 st (cellsOf (x.get st))).2):=by
 rw [zfx (qbw m R st x),ykl,yqw]
@[simp] theorem qk7 {z:List PV}:WI m R (.build z ps) st K=Ob' (zhd z (ps.map fun q=>(q.1,q.2.1,q.2.2.get st))) fun cs=>K (.agg cs) st:=zhx rfl
@[simp] theorem qzx {z:List PV} {ps:List (Nat×Opd)}:WI m R (.bslice n sz z ps) st K=Ob' (if (zc6 st (zb6 st ps)).any fun q=>(cellsOf q.2).any isF then
   (ziy z (List.replicate n (z.map fz)) (zc6 st (zb6 st ps))).map fun es=>zhk (zdc st (zb6 st ps)) sz es
  else (zda (zdc st (zb6 st ps)) z (List.replicate n z) (zc6 st (zb6 st ps))).map fun q=>newRow q.2 sz q.1) fun r=>K r.1 r.2:=zfx (y82 m R st n sz z ps)
@[simp] theorem qlz:WI m R (.mvL x) st K=K (x.get st) st:=z7w rfl
@[simp] theorem qu1 {z:List PV}:WI m R (.allocL z) st K=K (zb5 st z).1 (zb5 st z).2:=z7w rfl
@[simp] theorem qr2 {z:List PV} {ps:List (Nat×Opd)}:WI m R (.bsliceL n sz z ps) st K=Ob' (zda st z (List.replicate n z) (zb6 st ps)) fun q=>K (newRow q.2 sz q.1).1 (newRow q.2 sz q.1).2:=by
 rw [zfx (qdp m R st n sz z ps),eq_iff_iff];simp only [Ob',bB];constructor
 ·rintro ⟨r,⟨q,h1,rfl⟩,h3⟩; exact ⟨q,h1,h3⟩
 ·rintro ⟨q,h1,h3⟩; exact ⟨_,⟨q,h1,rfl⟩,h3⟩
@[simp] theorem qwm {a:Opd}:WI m R (.load ag sz a) st K=Ob' (loadCells st sz (a.get st)) fun cs=>Ob' (zkp ag cs) fun x=>K x st:=by
 rw [zfx (qa2 m R st ag sz a),eq_iff_iff];simp only [Ob',Option.bind_eq_some_iff,bB];constructor
 ·rintro ⟨r,⟨cs,h1,x,h2,rfl⟩,h3⟩; exact ⟨cs,h1,x,h2,h3⟩
 ·rintro ⟨cs,h1,x,h2,h3⟩; exact ⟨_,⟨cs,h1,x,h2,rfl⟩,h3⟩
@[simp] theorem qwu {szs:List Nat} {a x:Opd}:WI m R (.store szs a x) st K=Ob' (storeAt st szs (a.get st) (x.get st)) fun s=>K .undef s:=by
 rw [zfx (qeo m R st szs a x),y8h]
@[simp] theorem qmn:WI m R (.nilc x) st K=Ob' (zip st (x.get st)) fun r=>K r st:=zhx (f:=id) rfl
@[simp] theorem qrs {op:BinOp}:WI m R (.bin op x y) st K=Ob' (zml op (x.get st) (y.get st)) fun r=>K r st:=zhx (f:=id) rfl
@[simp] theorem qrf {n:Bool}:WI m R (.eqb n ks x y) st K=Ob' (eqP ks (x.get st) (y.get st)) fun b=>K (.v (.bool (b != n))) st:=zhx rfl
@[simp] theorem qkr {op:UnOp}:WI m R (.un op x) st K=Ob' (unP op (x.get st)) fun r=>K r st:=zhx (f:=id) rfl
@[simp] theorem qp3:WI m R (.convI k x) st K=Ob' (zhj (x.get st)) fun n=>K (.v (.int k (k.wrap n))) st:=zhx rfl
@[simp] theorem qqi:WI m R (.toS x) st K=Ob' (zfj st (x.get st)) fun r=>Ob' (zkj r.2) fun l=>K (.v (.string ⟨l.toArray⟩)) st:=by
 rw [zfx (y8w m R st x),eq_iff_iff];simp only [Ob',Option.bind_eq_some_iff,bB];constructor
 ·rintro ⟨r,⟨cs,h1,x,h2,rfl⟩,h3⟩; exact ⟨cs,h1,x,h2,h3⟩
 ·rintro ⟨cs,h1,x,h2,h3⟩; exact ⟨_,⟨cs,h1,x,h2,rfl⟩,h3⟩
@[simp] theorem q06:WI m R (.mkfn f caps) st K=Cd ((caps.map (Opd.get st)).all zpm=true) (K (.fn f (caps.map (Opd.get st))) st):=by
 rw [zfx (y7t m R st f caps),ykl,yqw]
@[simp] theorem qks {z:List PV} {l c:Opd}:WI m R (.mksl b sz z l c) st K=Ob' (zb2 (l.get st)) fun n=>Ob' (zb2 (c.get st)) fun k=>Cd (n<=k/\zag b k=true) (K (newRow st sz (List.replicate n z)).1 (newRow st sz (List.replicate n z)).2):=by
 rw [zfx (qbx m R st b sz z l c),eq_iff_iff];simp only [Ob',Cd,Option.bind_eq_some_iff];constructor
 ·rintro ⟨r,⟨n,h1,k,h2,h3⟩,h4⟩;split at h3
  ·rename_i hc; cases h3; exact ⟨n,h1,k,h2,hc,h4⟩
  ·cases h3
 ·rintro ⟨n,h1,k,h2,hc,h4⟩; exact ⟨_,⟨n,h1,k,h2,if_pos hc⟩,h4⟩
@[simp] theorem qw8:WI m R (.slice sz x lo hi mx) st K=Ob' (zbp st lo) fun l=>Ob' (zbp st hi) fun h=>Ob' (zbp st mx) fun k=>Ob' (zk1 st sz (x.get st) l h k) fun r=>K r st:=by
 rw [zfx (qbe m R st sz x lo hi mx),eq_iff_iff];simp only [Ob',Option.bind_eq_some_iff,bB];constructor
 ·rintro ⟨r,⟨l,h1,h,h2,k,h3,q,h4,rfl⟩,h5⟩; exact ⟨l,h1,h,h2,k,h3,q,h4,h5⟩
 ·rintro ⟨l,h1,h,h2,k,h3,q,h4,h5⟩; exact ⟨_,⟨l,h1,h,h2,k,h3,q,h4,rfl⟩,h5⟩
@[simp] theorem q1a:WI m R (.sliceS x lo hi) st K=Ob' (zcz (x.get st)) fun s=>Ob' (zbp st lo) fun l=>Ob' (zbp st hi) fun h=>Ob' (sliceS s l h) fun r=>K r st:=by
 rw [zfx (o:=(zcz (x.get st)).bind fun s=>(zbp st lo).bind fun l=>(zbp st hi).bind fun h=>(sliceS s l h).map fun r=>(r,st)) rfl,eq_iff_iff];simp only [Ob',Option.bind_eq_some_iff,bB];constructor
 ·rintro ⟨r,⟨l,h1,h,h2,k,h3,q,h4,rfl⟩,h5⟩; exact ⟨l,h1,h,h2,k,h3,q,h4,h5⟩
 ·rintro ⟨l,h1,h,h2,k,h3,q,h4,h5⟩; exact ⟨_,⟨l,h1,h,h2,k,h3,q,h4,rfl⟩,h5⟩
@[simp] theorem qrd {off:Nat}:WI m R (.faddr off x) st K=Ob' (zic st off (x.get st)) fun r=>K r st:=zhx (f:=id) rfl
@[simp] theorem qox:WI m R (.iaddr sz x i) st K=Ob' (zb2 (i.get st)) fun k=>Ob' (iaddr st sz k (x.get st)) fun r=>K r st:=by
 rw [zfx (qd4 m R st sz x i),eq_iff_iff];simp only [Ob',Option.bind_eq_some_iff,bB];constructor
 ·rintro ⟨r,⟨cs,h1,x,h2,rfl⟩,h3⟩; exact ⟨cs,h1,x,h2,h3⟩
 ·rintro ⟨cs,h1,x,h2,h3⟩; exact ⟨_,⟨cs,h1,x,h2,rfl⟩,h3⟩
@[simp] theorem qyw:WI m R (.idx x i) st K=Ob' (zcz (x.get st)) fun s=>Ob' (zb2 (i.get st)) fun k=>Ob' (s[k]?) fun b=>K (.v (.int .u8 (b.toNat:Int))) st:=by
 rw [zfx (qbj m R st x i),eq_iff_iff];simp only [Ob',Option.bind_eq_some_iff,bB];constructor
 ·rintro ⟨r,⟨l,h1,h,h2,k,h3,rfl⟩,h5⟩; exact ⟨l,h1,h,h2,k,h3,h5⟩
 ·rintro ⟨l,h1,h,h2,k,h3,h5⟩; exact ⟨_,⟨l,h1,h,h2,k,h3,rfl⟩,h5⟩
@[simp] theorem qr7 {i:Nat}:WI m R (.ext i x) st K=Ob' (zmj i (x.get st)) fun r=>K r st:=zhx (f:=id) rfl
@[simp] theorem qln:WI m R (.call f args) st K=Ob' (zdt m R st f (args.map fun q=>(q.1,q.2.get st))) fun r=>K r.1 r.2:=zfx rfl
@[simp] theorem qsq:WI m R (.callv g args) st K=Ob' (zpj m R st (args.map fun q=>(q.1,q.2.get st)) (g.get st)) fun r=>K r.1 r.2:=zfx rfl
@[simp] theorem qyo:WI m R (.len x) st K=Ob' (lenOf st (x.get st)) fun n=>K (.v (.int .i64 ((n:Nat):Int))) st:=zhx rfl
@[simp] theorem qsb:WI m R (.lenS x) st K=Ob' (zcz (x.get st)) fun s=>K (.v (.int .i64 (s.size:Int))) st:=zhx rfl
@[simp] theorem qti {s x:Opd}:WI m R (.app b sz s x) st K=Ob' (zkm st b sz (s.get st) (x.get st)) fun r=>K r.1 r.2:=zfx rfl
@[simp] theorem ql8 {s x:Opd}:WI m R (.appS s x) st K=Ob' (zcz (x.get st)) fun t=>Ob' (appS st (s.get st) t) fun r=>K r.1 r.2:=by
 rw [zfx (o:=(zcz (x.get st)).bind fun t=>appS st (s.get st) t) rfl,y7j]
@[simp] theorem qqy {b:Bool}:WI m R (.mx b x y) st K=Ob' (mxP b (x.get st) (y.get st)) fun r=>K r st:=zhx (f:=id) rfl
end
section
variable {m:Nat->List Bool} {R:zak} {st:St} {K:St->Prop} {os:List (zac×Nat×Nat)} {todo:List (zac×PV×Nat)} {past:List St} {d:Option Dst} {g:Option (Opd×Bool)}
@[simp] theorem qq4:WQ m R os todo past st K ⟨d,.mv x,g⟩ 0 0 w s=WD m R os todo past (st.put d w) K:=zek rfl
@[simp] theorem qlt:WQ m R os todo past st K ⟨d,.mv x,g⟩ bk (fw+1) w s=Cd (za2 st.V st.E ⟨d,.mv x,g⟩ w bk past) (WD m R os ((⟨d,.mv x,g⟩,w,fw+1)::todo) past (st.put d w) K):=zea rfl
@[simp] theorem qow:WQ m R os todo past st K ⟨d,.mv x,g⟩ (bk+1) 0 w s=Cd (za2 st.V st.E ⟨d,.mv x,g⟩ w (bk+1) past) (WD m R os todo past (st.put d w) K):=by rw [zdx rfl]; rfl
@[simp] theorem qos (c a b:Opd):WQ m R os todo past st K ⟨d,.pick c a b,g⟩ 0 0 w s=WD m R os todo past (st.put d w) K:=zek rfl
@[simp] theorem qpw (c a b:Opd):WQ m R os todo past st K ⟨d,.pick c a b,g⟩ bk (fw+1) w s=Cd (za2 st.V st.E ⟨d,.pick c a b,g⟩ w bk past) (WD m R os ((⟨d,.pick c a b,g⟩,w,fw+1)::todo) past (st.put d w) K):=zea rfl
@[simp] theorem qqo (c a b:Opd):WQ m R os todo past st K ⟨d,.pick c a b,g⟩ (bk+1) 0 w s=Cd (za2 st.V st.E ⟨d,.pick c a b,g⟩ w (bk+1) past) (WD m R os todo past (st.put d w) K):=by rw [zdx rfl]; rfl
@[simp] theorem qtn (z:List PV):WQ m R os todo past st K ⟨d,.build z ps,g⟩ 0 0 w s=WD m R os todo past (st.put d w) K:=zek rfl
@[simp] theorem qxm (z:List PV):WQ m R os todo past st K ⟨d,.build z ps,g⟩ bk (fw+1) w s=Cd (za2 st.V st.E ⟨d,.build z ps,g⟩ w bk past) (WD m R os ((⟨d,.build z ps,g⟩,w,fw+1)::todo) past (st.put d w) K):=zea rfl
@[simp] theorem qqe (z:List PV):WQ m R os todo past st K ⟨d,.build z ps,g⟩ (bk+1) 0 w s=Cd (za2 st.V st.E ⟨d,.build z ps,g⟩ w (bk+1) past) (WD m R os todo past (st.put d w) K):=by rw [zdx rfl]; rfl
@[simp] theorem qnj (a:Opd):WQ m R os todo past st K ⟨d,.load ag sz a,g⟩ 0 0 w s=WD m R os todo past (st.put d w) K:=zek rfl
@[simp] theorem qqj (a:Opd):WQ m R os todo past st K ⟨d,.load ag sz a,g⟩ bk (fw+1) w s=Cd (za2 st.V st.E ⟨d,.load ag sz a,g⟩ w bk past) (WD m R os ((⟨d,.load ag sz a,g⟩,w,fw+1)::todo) past (st.put d w) K):=zea rfl
@[simp] theorem qoo (a:Opd):WQ m R os todo past st K ⟨d,.load ag sz a,g⟩ (bk+1) 0 w s=Cd (za2 st.V st.E ⟨d,.load ag sz a,g⟩ w (bk+1) past) (WD m R os todo past (st.put d w) K):=by rw [zdx rfl]; rfl
@[simp] theorem qo4:WQ m R os todo past st K ⟨d,.nilc x,g⟩ 0 0 w s=WD m R os todo past (st.put d w) K:=zek rfl
@[simp] theorem qt5:WQ m R os todo past st K ⟨d,.nilc x,g⟩ bk (fw+1) w s=Cd (za2 st.V st.E ⟨d,.nilc x,g⟩ w bk past) (WD m R os ((⟨d,.nilc x,g⟩,w,fw+1)::todo) past (st.put d w) K):=zea rfl
@[simp] theorem q07:WQ m R os todo past st K ⟨d,.nilc x,g⟩ (bk+1) 0 w s=Cd (za2 st.V st.E ⟨d,.nilc x,g⟩ w (bk+1) past) (WD m R os todo past (st.put d w) K):=by rw [zdx rfl]; rfl
@[simp] theorem qwb (op:BinOp):WQ m R os todo past st K ⟨d,.bin op x y,g⟩ 0 0 w s=WD m R os todo past (st.put d w) K:=zek rfl
@[simp] theorem q0n (op:BinOp):WQ m R os todo past st K ⟨d,.bin op x y,g⟩ bk (fw+1) w s=Cd (za2 st.V st.E ⟨d,.bin op x y,g⟩ w bk past) (WD m R os ((⟨d,.bin op x y,g⟩,w,fw+1)::todo) past (st.put d w) K):=zea rfl
@[simp] theorem qxu (op:BinOp):WQ m R os todo past st K ⟨d,.bin op x y,g⟩ (bk+1) 0 w s=Cd (za2 st.V st.E ⟨d,.bin op x y,g⟩ w (bk+1) past) (WD m R os todo past (st.put d w) K):=by rw [zdx rfl]; rfl
@[simp] theorem qoy (n:Bool):WQ m R os todo past st K ⟨d,.eqb n ks x y,g⟩ 0 0 w s=WD m R os todo past (st.put d w) K:=zek rfl
@[simp] theorem qpx (n:Bool):WQ m R os todo past st K ⟨d,.eqb n ks x y,g⟩ bk (fw+1) w s=Cd (za2 st.V st.E ⟨d,.eqb n ks x y,g⟩ w bk past) (WD m R os ((⟨d,.eqb n ks x y,g⟩,w,fw+1)::todo) past (st.put d w) K):=zea rfl
@[simp] theorem qlg (n:Bool):WQ m R os todo past st K ⟨d,.eqb n ks x y,g⟩ (bk+1) 0 w s=Cd (za2 st.V st.E ⟨d,.eqb n ks x y,g⟩ w (bk+1) past) (WD m R os todo past (st.put d w) K):=by rw [zdx rfl]; rfl
@[simp] theorem ql9 (op:UnOp):WQ m R os todo past st K ⟨d,.un op x,g⟩ 0 0 w s=WD m R os todo past (st.put d w) K:=zek rfl
@[simp] theorem qk6 (op:UnOp):WQ m R os todo past st K ⟨d,.un op x,g⟩ bk (fw+1) w s=Cd (za2 st.V st.E ⟨d,.un op x,g⟩ w bk past) (WD m R os ((⟨d,.un op x,g⟩,w,fw+1)::todo) past (st.put d w) K):=zea rfl
@[simp] theorem qz7 (op:UnOp):WQ m R os todo past st K ⟨d,.un op x,g⟩ (bk+1) 0 w s=Cd (za2 st.V st.E ⟨d,.un op x,g⟩ w (bk+1) past) (WD m R os todo past (st.put d w) K):=by rw [zdx rfl]; rfl
@[simp] theorem qxv:WQ m R os todo past st K ⟨d,.convI k x,g⟩ 0 0 w s=WD m R os todo past (st.put d w) K:=zek rfl
@[simp] theorem qmf:WQ m R os todo past st K ⟨d,.convI k x,g⟩ bk (fw+1) w s=Cd (za2 st.V st.E ⟨d,.convI k x,g⟩ w bk past) (WD m R os ((⟨d,.convI k x,g⟩,w,fw+1)::todo) past (st.put d w) K):=zea rfl
@[simp] theorem qy6:WQ m R os todo past st K ⟨d,.convI k x,g⟩ (bk+1) 0 w s=Cd (za2 st.V st.E ⟨d,.convI k x,g⟩ w (bk+1) past) (WD m R os todo past (st.put d w) K):=by rw [zdx rfl]; rfl
@[simp] theorem q0l:WQ m R os todo past st K ⟨d,.toS x,g⟩ 0 0 w s=WD m R os todo past (st.put d w) K:=zek rfl
@[simp] theorem qy9:WQ m R os todo past st K ⟨d,.toS x,g⟩ bk (fw+1) w s=Cd (za2 st.V st.E ⟨d,.toS x,g⟩ w bk past) (WD m R os ((⟨d,.toS x,g⟩,w,fw+1)::todo) past (st.put d w) K):=zea rfl
@[simp] theorem qrj:WQ m R os todo past st K ⟨d,.toS x,g⟩ (bk+1) 0 w s=Cd (za2 st.V st.E ⟨d,.toS x,g⟩ w (bk+1) past) (WD m R os todo past (st.put d w) K):=by rw [zdx rfl]; rfl
@[simp] theorem qy1:WQ m R os todo past st K ⟨d,.mkfn f caps,g⟩ 0 0 w s=WD m R os todo past (st.put d w) K:=zek rfl
@[simp] theorem qra:WQ m R os todo past st K ⟨d,.mkfn f caps,g⟩ bk (fw+1) w s=Cd (za2 st.V st.E ⟨d,.mkfn f caps,g⟩ w bk past) (WD m R os ((⟨d,.mkfn f caps,g⟩,w,fw+1)::todo) past (st.put d w) K):=zea rfl
@[simp] theorem qt8:WQ m R os todo past st K ⟨d,.mkfn f caps,g⟩ (bk+1) 0 w s=Cd (za2 st.V st.E ⟨d,.mkfn f caps,g⟩ w (bk+1) past) (WD m R os todo past (st.put d w) K):=by rw [zdx rfl]; rfl
@[simp] theorem qui:WQ m R os todo past st K ⟨d,.slice sz x lo hi mx,g⟩ 0 0 w s=WD m R os todo past (st.put d w) K:=zek rfl
@[simp] theorem qy5:WQ m R os todo past st K ⟨d,.slice sz x lo hi mx,g⟩ bk (fw+1) w s=Cd (za2 st.V st.E ⟨d,.slice sz x lo hi mx,g⟩ w bk past) (WD m R os ((⟨d,.slice sz x lo hi mx,g⟩,w,fw+1)::todo) past (st.put d w) K):=zea rfl
@[simp] theorem qld:WQ m R os todo past st K ⟨d,.slice sz x lo hi mx,g⟩ (bk+1) 0 w s=Cd (za2 st.V st.E ⟨d,.slice sz x lo hi mx,g⟩ w (bk+1) past) (WD m R os todo past (st.put d w) K):=by rw [zdx rfl]; rfl
@[simp] theorem q05:WQ m R os todo past st K ⟨d,.sliceS x lo hi,g⟩ 0 0 w s=WD m R os todo past (st.put d w) K:=zek rfl
@[simp] theorem ql5:WQ m R os todo past st K ⟨d,.sliceS x lo hi,g⟩ bk (fw+1) w s=Cd (za2 st.V st.E ⟨d,.sliceS x lo hi,g⟩ w bk past) (WD m R os ((⟨d,.sliceS x lo hi,g⟩,w,fw+1)::todo) past (st.put d w) K):=zea rfl
@[simp] theorem qun:WQ m R os todo past st K ⟨d,.sliceS x lo hi,g⟩ (bk+1) 0 w s=Cd (za2 st.V st.E ⟨d,.sliceS x lo hi,g⟩ w (bk+1) past) (WD m R os todo past (st.put d w) K):=by rw [zdx rfl]; rfl
@[simp] theorem qzm (off:Nat):WQ m R os todo past st K ⟨d,.faddr off x,g⟩ 0 0 w s=WD m R os todo past (st.put d w) K:=zek rfl
@[simp] theorem qol (off:Nat):WQ m R os todo past st K ⟨d,.faddr off x,g⟩ bk (fw+1) w s=Cd (za2 st.V st.E ⟨d,.faddr off x,g⟩ w bk past) (WD m R os ((⟨d,.faddr off x,g⟩,w,fw+1)::todo) past (st.put d w) K):=zea rfl
@[simp] theorem q00 (off:Nat):WQ m R os todo past st K ⟨d,.faddr off x,g⟩ (bk+1) 0 w s=Cd (za2 st.V st.E ⟨d,.faddr off x,g⟩ w (bk+1) past) (WD m R os todo past (st.put d w) K):=by rw [zdx rfl]; rfl
@[simp] theorem quw:WQ m R os todo past st K ⟨d,.iaddr sz x i,g⟩ 0 0 w s=WD m R os todo past (st.put d w) K:=zek rfl
@[simp] theorem qm3:WQ m R os todo past st K ⟨d,.iaddr sz x i,g⟩ bk (fw+1) w s=Cd (za2 st.V st.E ⟨d,.iaddr sz x i,g⟩ w bk past) (WD m R os ((⟨d,.iaddr sz x i,g⟩,w,fw+1)::todo) past (st.put d w) K):=zea rfl
@[simp] theorem qvk:WQ m R os todo past st K ⟨d,.iaddr sz x i,g⟩ (bk+1) 0 w s=Cd (za2 st.V st.E ⟨d,.iaddr sz x i,g⟩ w (bk+1) past) (WD m R os todo past (st.put d w) K):=by rw [zdx rfl]; rfl
@[simp] theorem qtu:WQ m R os todo past st K ⟨d,.idx x i,g⟩ 0 0 w s=WD m R os todo past (st.put d w) K:=zek rfl
@[simp] theorem qqq:WQ m R os todo past st K ⟨d,.idx x i,g⟩ bk (fw+1) w s=Cd (za2 st.V st.E ⟨d,.idx x i,g⟩ w bk past) (WD m R os ((⟨d,.idx x i,g⟩,w,fw+1)::todo) past (st.put d w) K):=zea rfl
@[simp] theorem qx2:WQ m R os todo past st K ⟨d,.idx x i,g⟩ (bk+1) 0 w s=Cd (za2 st.V st.E ⟨d,.idx x i,g⟩ w (bk+1) past) (WD m R os todo past (st.put d w) K):=by rw [zdx rfl]; rfl
@[simp] theorem qzb (i:Nat):WQ m R os todo past st K ⟨d,.ext i x,g⟩ 0 0 w s=WD m R os todo past (st.put d w) K:=zek rfl
@[simp] theorem qzd (i:Nat):WQ m R os todo past st K ⟨d,.ext i x,g⟩ bk (fw+1) w s=Cd (za2 st.V st.E ⟨d,.ext i x,g⟩ w bk past) (WD m R os ((⟨d,.ext i x,g⟩,w,fw+1)::todo) past (st.put d w) K):=zea rfl
@[simp] theorem qsh (i:Nat):WQ m R os todo past st K ⟨d,.ext i x,g⟩ (bk+1) 0 w s=Cd (za2 st.V st.E ⟨d,.ext i x,g⟩ w (bk+1) past) (WD m R os todo past (st.put d w) K):=by rw [zdx rfl]; rfl
@[simp] theorem qu0:WQ m R os todo past st K ⟨d,.len x,g⟩ 0 0 w s=WD m R os todo past (st.put d w) K:=zek rfl
@[simp] theorem qs2:WQ m R os todo past st K ⟨d,.len x,g⟩ bk (fw+1) w s=Cd (za2 st.V st.E ⟨d,.len x,g⟩ w bk past) (WD m R os ((⟨d,.len x,g⟩,w,fw+1)::todo) past (st.put d w) K):=zea rfl
@[simp] theorem qpk:WQ m R os todo past st K ⟨d,.len x,g⟩ (bk+1) 0 w s=Cd (za2 st.V st.E ⟨d,.len x,g⟩ w (bk+1) past) (WD m R os todo past (st.put d w) K):=by rw [zdx rfl]; rfl
@[simp] theorem qwk:WQ m R os todo past st K ⟨d,.lenS x,g⟩ 0 0 w s=WD m R os todo past (st.put d w) K:=zek rfl
@[simp] theorem qvn:WQ m R os todo past st K ⟨d,.lenS x,g⟩ bk (fw+1) w s=Cd (za2 st.V st.E ⟨d,.lenS x,g⟩ w bk past) (WD m R os ((⟨d,.lenS x,g⟩,w,fw+1)::todo) past (st.put d w) K):=zea rfl
@[simp] theorem qm8:WQ m R os todo past st K ⟨d,.lenS x,g⟩ (bk+1) 0 w s=Cd (za2 st.V st.E ⟨d,.lenS x,g⟩ w (bk+1) past) (WD m R os todo past (st.put d w) K):=by rw [zdx rfl]; rfl
@[simp] theorem qst (b:Bool):WQ m R os todo past st K ⟨d,.mx b x y,g⟩ 0 0 w s=WD m R os todo past (st.put d w) K:=zek rfl
@[simp] theorem qmc (b:Bool):WQ m R os todo past st K ⟨d,.mx b x y,g⟩ bk (fw+1) w s=Cd (za2 st.V st.E ⟨d,.mx b x y,g⟩ w bk past) (WD m R os ((⟨d,.mx b x y,g⟩,w,fw+1)::todo) past (st.put d w) K):=zea rfl
@[simp] theorem qtj (b:Bool):WQ m R os todo past st K ⟨d,.mx b x y,g⟩ (bk+1) 0 w s=Cd (za2 st.V st.E ⟨d,.mx b x y,g⟩ w (bk+1) past) (WD m R os todo past (st.put d w) K):=by rw [zdx rfl]; rfl
@[simp] theorem q0a (z:List PV):WQ m R os todo past st K ⟨d,.alloc z,g⟩ bk fw w s=Cd (zck s todo) (WD m R os (zc9 todo) (st::past) (s.put d w) K):=zhw rfl
@[simp] theorem qpq:WQ m R os todo past st K ⟨d,.box x,g⟩ bk fw w s=Cd (zck s todo) (WD m R os (zc9 todo) (st::past) (s.put d w) K):=zhw rfl
@[simp] theorem qkx (z:List PV) (ps:List (Nat×Opd)):WQ m R os todo past st K ⟨d,.bslice n sz z ps,g⟩ bk fw w s=Cd (zck s todo) (WD m R os (zc9 todo) (st::past) (s.put d w) K):=zhw rfl
@[simp] theorem qvf (z:List PV):WQ m R os todo past st K ⟨d,.allocL z,g⟩ bk fw w s=Cd (zck s todo) (WD m R os (zc9 todo) (st::past) (s.put d w) K):=zhw rfl
@[simp] theorem qns:WQ m R os todo past st K ⟨d,.mvL x,g⟩ bk fw w s=Cd (zck s todo) (WD m R os (zc9 todo) (st::past) (s.put d w) K):=zhw rfl
@[simp] theorem qk2 (z:List PV) (ps:List (Nat×Opd)):WQ m R os todo past st K ⟨d,.bsliceL n sz z ps,g⟩ bk fw w s=Cd (zck s todo) (WD m R os (zc9 todo) (st::past) (s.put d w) K):=zhw rfl
@[simp] theorem q1b (szs:List Nat) (a x:Opd):WQ m R os todo past st K ⟨d,.store szs a x,g⟩ bk fw w s=Cd (zck s todo) (WD m R os (zc9 todo) (st::past) (s.put d w) K):=zhw rfl
@[simp] theorem qt1 (z:List PV) (l c:Opd):WQ m R os todo past st K ⟨d,.mksl b sz z l c,g⟩ bk fw w s=Cd (zck s todo) (WD m R os (zc9 todo) (st::past) (s.put d w) K):=zhw rfl
@[simp] theorem qq3:WQ m R os todo past st K ⟨d,.call f args,g⟩ bk fw w s=Cd (zck s todo) (WD m R os (zc9 todo) (st::past) (s.put d w) K):=zhw rfl
@[simp] theorem q0s (g0:Opd):WQ m R os todo past st K ⟨d,.callv g0 args,g⟩ bk fw w s=Cd (zck s todo) (WD m R os (zc9 todo) (st::past) (s.put d w) K):=zhw rfl
@[simp] theorem qn6:WQ m R os todo past st K ⟨d,.app b sz y x,g⟩ bk fw w s=Cd (zck s todo) (WD m R os (zc9 todo) (st::past) (s.put d w) K):=zhw rfl
@[simp] theorem qm2:WQ m R os todo past st K ⟨d,.appS y x,g⟩ bk fw w s=Cd (zck s todo) (WD m R os (zc9 todo) (st::past) (s.put d w) K):=zhw rfl
end
section
variable {α:Type}
@[simp] theorem ge0 (a:α) (l:List α):(a::l)[0]?=some a:=rfl
@[simp] theorem ge1 (a0 a1:α) (l:List α):(a0::a1::l)[1]?=some a1:=rfl
@[simp] theorem ge2 (a0 a1 a2:α) (l:List α):(a0::a1::a2::l)[2]?=some a2:=rfl
@[simp] theorem ge3 (a0 a1 a2 a3:α) (l:List α):(a0::a1::a2::a3::l)[3]?=some a3:=rfl
@[simp] theorem ge4 (a0 a1 a2 a3 a4:α) (l:List α):(a0::a1::a2::a3::a4::l)[4]?=some a4:=rfl
@[simp] theorem ge5 (a0 a1 a2 a3 a4 a5:α) (l:List α):(a0::a1::a2::a3::a4::a5::l)[5]?=some a5:=rfl
@[simp] theorem ge6 (a0 a1 a2 a3 a4 a5 a6:α) (l:List α):(a0::a1::a2::a3::a4::a5::a6::l)[6]?=some a6:=rfl
@[simp] theorem ge7 (a0 a1 a2 a3 a4 a5 a6 a7:α) (l:List α):(a0::a1::a2::a3::a4::a5::a6::a7::l)[7]?=some a7:=rfl
@[simp] theorem ge8 (a0 a1 a2 a3 a4 a5 a6 a7 a8:α) (l:List α):(a0::a1::a2::a3::a4::a5::a6::a7::a8::l)[8]?=some a8:=rfl
@[simp] theorem ge9 (a0 a1 a2 a3 a4 a5 a6 a7 a8 a9:α) (l:List α):(a0::a1::a2::a3::a4::a5::a6::a7::a8::a9::l)[9]?=some a9:=rfl
@[simp] theorem qqa (a0 a1 a2 a3 a4 a5 a6 a7 a8 a9 a10:α) (l:List α):(a0::a1::a2::a3::a4::a5::a6::a7::a8::a9::a10::l)[10]?=some a10:=rfl
@[simp] theorem qtk (a0 a1 a2 a3 a4 a5 a6 a7 a8 a9 a10 a11:α) (l:List α):(a0::a1::a2::a3::a4::a5::a6::a7::a8::a9::a10::a11::l)[11]?=some a11:=rfl
end
@[simp] theorem qoz:zb2 (.v (.int k ((n:Int)+1)))=some (n+1):=qaj k (n+1)
@[simp] theorem qv7:zb2 (.v (.int k 1))=some 1:=rfl
@[simp] theorem qpt:zb2 (.v (.int k 2))=some 2:=rfl
@[simp] theorem qz4:zb2 (.v (.int k 3))=some 3:=rfl
@[simp] theorem qyp:zb2 (.v (.int k 4))=some 4:=rfl
@[simp] theorem qye:zb2 (.v (.int k 5))=some 5:=rfl
theorem fr {o n:Nat} (h:o<n):(o=n)=False/\(n=o)=False/\(∀ j:Nat,(o=n+j)=False)/\∀ j:Nat,(n+j=o)=False:=by
 refine ⟨?_,?_,fun j => ?_,fun j => ?_⟩ <;> simp <;> omega
@[simp] theorem as1:n+1+1=n+2:=rfl
@[simp] theorem as2:n+2+1=n+3:=rfl
@[simp] theorem as3:n+3+1=n+4:=rfl
@[simp] theorem as4:n+4+1=n+5:=rfl
@[simp] theorem as5:n+5+1=n+6:=rfl
@[simp] theorem as6:n+6+1=n+7:=rfl
@[simp] theorem as7:n+7+1=n+8:=rfl
@[simp] theorem as8:n+8+1=n+9:=rfl
@[simp] theorem as9:n+9+1=n+10:=rfl
@[simp] theorem qyr:n+10+1=n+11:=rfl
@[simp] theorem qon:n+11+1=n+12:=rfl
@[simp] theorem q1c:n+12+1=n+13:=rfl
@[simp] theorem qrt:n+13+1=n+14:=rfl
@[simp] theorem qs6:n+14+1=n+15:=rfl
@[simp] theorem qmx:n+15+1=n+16:=rfl
@[simp] theorem qru:n+16+1=n+17:=rfl
@[simp] theorem qvq:n+17+1=n+18:=rfl
@[simp] theorem qoh:n+18+1=n+19:=rfl
@[simp] theorem quc:n+19+1=n+20:=rfl
@[simp] theorem qwe:n+20+1=n+21:=rfl
@[simp] theorem qzq:n+21+1=n+22:=rfl
@[simp] theorem qvx:n+22+1=n+23:=rfl
@[simp] theorem qtw:n+23+1=n+24:=rfl
theorem zae {T:zcm} {ms:List Bool} {rv:List RV} {ic:IC} (hT:T f=some (.code ⟨ms,rv,ic⟩)) {args:List PV} {r:List PV×List PV} {st:St} (hi:zky args=some st) (h:W (zad T) (RUN T) ic st (Fin rv st.nx r ⟨⟩ ⟨⟩)):RUN T f args=some r:=by
 refine yks hT ?_;obtain ⟨e,s,h1,h2,h3⟩:=h;unfold zxv;rw [hi];simp only [Option.bind_some,h1];rcases h2 with rfl | rfl <;> exact h3
def Rnd (Inv:Nat->St->Prop) (n:Nat) (Q:Ex->St->Prop) (_:Dm Inv) (_:Dm Q):Ex->St->Prop
 | .normal,s => ∃ k,k<n/\Inv k s
 | e,s=>Q e s
@[simp] theorem qt3 {Inv:Nat->St->Prop}:Rnd Inv n Q ⟨⟩ ⟨⟩ .ret s=Q .ret s:=rfl
@[simp] theorem qlc {Inv:Nat->St->Prop} {i:Nat}:Rnd Inv n Q ⟨⟩ ⟨⟩ (.exit i) s=Q (.exit i) s:=rfl
theorem zaq {m:Nat->List Bool} {R:zak} {c:IC} (Inv:Nat->St->Prop) (step : ∀ n st,Inv n st->W m R c st (Rnd Inv n Q ⟨⟩ ⟨⟩)) : ∀ n st,Inv n st->W m R (.loop c) st Q:=by
 intro n
 induction n using Nat.strongRecOn with
 | ind n ih =>
  intro st hI;obtain ⟨e,s,h1,h2⟩:=step n st hI;cases e with
  | normal =>
   obtain ⟨k,hk,hI'⟩:=h2;obtain ⟨e',s',h3,h4⟩:=ih k hk s hI';exact ⟨e',s',by rw [z7p,h1]; exact h3,h4⟩
  | exit i=>exact ⟨_,_,by rw [z7p,h1]; rfl,h2⟩
  | ret=>exact ⟨_,_,by rw [z7p,h1]; rfl,h2⟩
theorem y8u {m:Nat->List Bool} {R:zak} {c:IC} {st:St}:W m R (.loop c) st Q=W m R c st (Nx (fun s=>W m R (.loop c) s Q) Q ⟨⟩ ⟨⟩):=by
 rw [<- qcu];simp only [W,ykw];rw [z7p]
theorem zaj {Inv:Nat->St->Prop} (k:Nat) (h:k<n) (hI:Inv k s):Rnd Inv n Q ⟨⟩ ⟨⟩ .normal s:=⟨k,h,hI⟩
theorem W.mono {m:Nat->List Bool} {R:zak} {c:IC} {st:St} {Q Q':Ex->St->Prop} (h:W m R c st Q) (hq : ∀ e s,Q e s->Q' e s):W m R c st Q':=by
 obtain ⟨e,s,h1,h2⟩:=h;exact ⟨e,s,h1,hq e s h2⟩
attribute [irreducible] W WO WD WI WQ Ob' Br Cd Nx Bl Fin
end Go.Pe
namespace Go.Pe
open Go
def zhs (sz by_:Nat):List PV->Option (List PV×List PV)
 | [.sl s es]=>if s=sz/\zcl es=true/\zag by_ es.length=true then some ([.own sz es],[]) else none
 | _=>none
theorem yck {T:zcm} {f sz by_:Nat} (hT:T f=some (.known [] (zhs sz by_))) {es:List (List PV)} (hv:zcl es=true) (hr:zag by_ es.length=true):RUN T f [.sl sz es]=some ([.own sz es],[]) :=
 yb7 hT (if_pos ⟨rfl,hv,hr⟩)
def zcq (l:List Int):List (List PV):=l.map fun n=>[.v (.int .i64 n)]
def yax:List PV->Option Int
 | [.v (.int .i64 n)]=>some n
 | _=>none
def zpx:List (List PV)->Option (List Int)
 | []=>some []
 | c::cs=>(yax c).bind fun n=>(zpx cs).map (n :: ·)
theorem yb1 : ∀ l:List Int,zpx (zcq l)=some l
 | []=>rfl
 | n::l=>by
  have:=yb1 l;unfold zcq at this;simp [zcq,zpx,yax,this]
theorem ybd : ∀ {es:List (List PV)} {l:List Int},zpx es=some l->es=zcq l
 | [],l,h=>by cases h; rfl
 | c::cs,l,h=>by
  simp only [zpx] at h;obtain ⟨n,h1,h⟩:=bA h;simp only [bB] at h;obtain ⟨l',h2,rfl⟩:=h;rw [ybd h2];unfold yax at h1;split at h1
  ·cases h1; rfl
  ·cases h1
def ziz (l:List Int):List Int:=l.mergeSort fun x y=>decide (x<=y)
def zpq:List PV->Option (List PV×List PV)
 | [.own 1 es]=>(zpx es).bind fun l=>if l.length<4611686018427387904 then some ([],[.own 1 (zcq (ziz l))]) else none
 | _=>none
def zo4:List PV->Option (List PV×List PV)
 | [.own 1 es]=>(zpx es).bind fun l=>if l.length<4611686018427387904 then some ([.own 1 (zcq (Lib.compact l))],[.undef]) else none
 | _=>none
theorem y9l {T:zcm} {f:Nat} (hT:T f=some (.known [true] zpq)) {l:List Int} (hl:l.length<4611686018427387904):RUN T f [.own 1 (zcq l)]=some ([],[.own 1 (zcq (ziz l))]) :=
 yb7 hT (by simp [zpq,yb1,hl])
theorem y6q {T:zcm} {f:Nat} (hT:T f=some (.known [true] zo4)) {l:List Int} (hl:l.length<4611686018427387904):RUN T f [.own 1 (zcq l)]=some ([.own 1 (zcq (Lib.compact l))],[.undef]) :=
 yb7 hT (by simp [zo4,yb1,hl])
end Go.Pe
