/- An evaluator over compact texts of Go functions is defined,and how it goes on is told,operation by operation; no condition. -/
import Derived.Calls
import Derived.Laws.AppendOwn
import Derived.Lib.SlicesCompact
set_option linter.all false
namespace Go.Pe
open Go
theorem bA {α β:Type} {x:Option α} {f:α->Option β} {b:β} (h:x.bind f=some b) : ∃ a,x=some a/\f a=some b:=Option.bind_eq_some_iff.mp h
theorem bB {α β:Type} {x:Option α} {f:α->β} {b:β}:Option.map f x=some b ↔ ∃ a,x=some a/\f a=b:=Option.map_eq_some_iff
theorem bC {α:Type} {a b:α}:(some a=some b)=(a=b):=Option.some.injEq a b
theorem bD {α:Type} {l:List α} {i:Nat} {a:α} (h:l[i]?=some a) : ∃ w:i<l.length,l[i]=a:=List.getElem?_eq_some_iff.mp h
theorem bF {α:Type} {l:List α} {i:Nat} {a:α} (h:l[i]?=some a):a∈l:=List.mem_of_getElem? h
theorem bG {α:Type} {l:List α} {i:Nat} (h:i<l.length):l[i]?=some l[i]:=List.getElem?_eq_getElem h
theorem bH {α:Type} {l:List α} {a:α} (h:a∈l) : ∃ i:Nat,l[i]?=some a:=List.getElem?_of_mem h
theorem bI {a b:Prop} (x:a) (y:b):a/\b:=⟨x,y⟩
inductive PV where
 | undef
 | v (x:Value)
 | e0
 | sl (sz:Nat) (es:List (List PV))
 | own (sz:Nat) (es:List (List PV))
 | bx (cs:List PV)
 | ref (o:Nat) (p:Option (Nat×Nat)) (ep lo len:Nat)
 | ptr (o:Nat) (p:Option (Nat×Nat)) (ep i j:Nat)
 | fptr (cs:List PV) (j:Nat)
 | fn (f:Nat) (caps:List PV)
 | agg (cs:List PV)
 | tup (vs:List PV)
inductive Ob where
 | row (sz:Nat) (es:List (List PV))
 | rowF (sz:Nat) (es:List (List PV))
 | box (cs:List PV)
 | shadow (sz:Nat) (es:List (List PV)) (ep:Nat)
structure St where
 V:Nat->PV
 E:Nat->PV
 S:Nat->Option Ob
 nx:Nat
 ep:Nat
inductive Opd where
 | V (k:Nat)
 | E (k:Nat)
 | C (x:PV)
inductive Dst where
 | V (k:Nat)
 | E (k:Nat)
inductive Kd where
 | b
 | i (k:IntKind)
 | s
inductive IOp where
 | mv (x:Opd)
 | pick (c a b:Opd)
 | alloc (z:List PV)
 | box (x:Opd)
 | build (z:List PV) (parts:List (Nat×Nat×Opd))
 | bslice (n sz:Nat) (z:List PV) (parts:List (Nat×Opd))
 | allocL (z:List PV)
 | mvL (x:Opd)
 | bsliceL (n sz:Nat) (z:List PV) (parts:List (Nat×Opd))
 | load (ag:Bool) (sz:Nat) (a:Opd)
 | store (szs:List Nat) (a x:Opd)
 | nilc (x:Opd)
 | bin (op:BinOp) (x y:Opd)
 | eqb (neg:Bool) (ks:List Kd) (x y:Opd)
 | un (op:UnOp) (x:Opd)
 | convI (k:IntKind) (x:Opd)
 | toS (x:Opd)
 | mkfn (f:Nat) (caps:List Opd)
 | mksl (bytes sz:Nat) (z:List PV) (l c:Opd)
 | slice (sz:Nat) (x:Opd) (lo hi mx:Option Opd)
 | sliceS (x:Opd) (lo hi:Option Opd)
 | faddr (off:Nat) (x:Opd)
 | iaddr (sz:Nat) (x i:Opd)
 | idx (x i:Opd)
 | ext (i:Nat) (x:Opd)
 | call (f:Nat) (args:List (List Nat×Opd))
 | callv (g:Opd) (args:List (List Nat×Opd))
 | len (x:Opd)
 | lenS (x:Opd)
 | app (bytes sz:Nat) (s x:Opd)
 | appS (s x:Opd)
 | mx (big:Bool) (x y:Opd)
structure zac where
 dst:Option Dst
 op:IOp
 guard:Option (Opd×Bool)
inductive IC where
 | skip
 | reg (ops:List zac)
 | regD (ops:List (zac×Nat×Nat))
 | seq (a b:IC)
 | cond (c:Opd) (x y:IC)
 | block (id:Nat) (c:IC)
 | loop (c:IC)
 | exit (id:Nat)
 | ret
inductive Ex where
 | normal
 | exit (id:Nat)
 | ret
inductive RV where
 | tmp (szs:List Nat) (k:Nat)
 | cell (szs:List Nat) (k:Nat) (ag:Bool)
 | pl
structure IFn where
 modes:List Bool
 results:List RV
 body:IC
def Opd.get (st:St):Opd->PV
 | .V k=>st.V k
 | .E k=>st.E k
 | .C x=>x
def upd {α:Type} (f:Nat->α) (k:Nat) (x:α):Nat->α:=fun i=>if i=k then x else f i
def St.put (st:St):Option Dst->PV->St
 | none,_=>st
 | some (.V k),x => { st with V:=upd st.V k x }
 | some (.E k),x => { st with E:=upd st.E k x }
def isV:PV->Bool
 | .v _=>true
 | _=>false
def okV:Value->Bool
 | .bool _=>true
 | .int _ _=>true
 | .string _=>true
 | .pointer none=>true
 | .nilFunc=>true
 | .nilIface=>true
 | _=>false
def zcf (es:List (List PV)):Bool:=es.all fun e=>e.all isV
def zbd (es:List (List PV)) (i j:Nat):Option (Nat×List (List PV)) :=
 match es[i]? with
 | some cs =>
  match cs[j]? with
  | some (.own sz es')=>some (sz,es')
  | _=>none
 | none=>none
def zbx (es:List (List PV)) (i j:Nat) (c:PV):List (List PV) :=
 match es[i]? with
 | some cs=>es.set i (cs.set j c)
 | none=>es
def zav (ce:Nat):Option Ob->Option (Nat×Nat)->Nat->Option (Nat×List (List PV))
 | some (.row sz es),none,_=>some (sz,es)
 | some (.row _ es),some (i,j),ep=>if ep=ce then zbd es i j else none
 | some (.rowF sz es),none,_=>some (sz,es)
 | some (.shadow sz es e),none,_=>if e=ce then some (sz,es) else none
 | _,_,_=>none
def zfd (st:St) (o:Nat) (p:Option (Nat×Nat)) (ep:Nat):Option (Nat×List (List PV)):=zav st.ep (st.S o) p ep
def cut (es:List (List PV)) (lo len:Nat):List (List PV):=if lo=0/\len=es.length then es else (es.drop lo).take len
def zfj (st:St):PV->Option (Nat×List (List PV))
 | .sl sz es=>some (sz,es)
 | .ref o p ep lo len=>(zfd st o p ep).map fun r=>(r.1,cut r.2 lo len)
 | _=>none
def fz:PV->PV
 | .own sz es => .sl sz es
 | c=>c
def rd (o ep i j:Nat):PV->PV
 | .own _ es => .ref o (some (i,j)) ep 0 es.length
 | c=>c
def zht (o ep i:Nat):Nat->List PV->List PV
 | _,[]=>[]
 | j,c::cs=>rd o ep i j c::zht o ep i (j+1) cs
def rdV:PV->PV
 | .v x => .v x
 | _ => .undef
def seg (cs:List PV) (j sz:Nat):Option (List PV):=if j+sz<=cs.length then some ((cs.drop j).take sz) else none
def zlc (ag:Bool) (cs:List PV):Option PV :=
 if ag then some (.agg cs) else match cs with
 | [c]=>some c
 | _=>none
def zir (ce:Nat) (o sz:Nat):Option Ob->Option (Nat×Nat)->Nat->Nat->Nat->Option (List PV)
 | some (.box cs),none,_,i,j=>if i=0 then seg cs j sz else none
 | some (.row _ es),none,_,i,j=>(es[i]?).bind fun cs=>(seg cs j sz).map (zht o ce i j)
 | some (.row _ es),some (a,b),ep,i,j=>if ep=ce then (zbd es a b).bind fun r=>(r.2[i]?).bind fun cs=>(seg cs j sz).map (·.map rdV) else none
 | some (.rowF _ es),none,_,i,j=>(es[i]?).bind fun cs=>(seg cs j sz).map (·.map fz)
 | some (.shadow _ es e),none,_,i,j=>if e=ce then (es[i]?).bind fun cs=>(seg cs j sz).map (·.map rdV) else none
 | _,_,_,_,_=>none
def loadCells (st:St) (sz:Nat):PV->Option (List PV)
 | .fptr cs j=>(seg cs j sz).map (·.map fz)
 | .ptr o p ep i j=>zir st.ep o sz (st.S o) p ep i j
 | _=>none
def cellsOf:PV->List PV
 | .agg cs=>cs
 | x=>[x]
def zf3 (st:St) (o:Nat):Option Ob->Option (Nat×Nat)->Nat->Nat->Option (PV×St)
 | some (.row s es),none,lo,len=>if lo=0/\len=es.length then some (.own s es,{ st with S:=upd st.S o (some (.shadow s es st.ep)) }) else none
 | _,_,_,_=>none
def zfh (st:St) (sz:Nat):PV->Option (PV×St)
 | .v x=>if okV x then some (.v x,st) else none
 | .e0=>some (.own sz [],st)
 | .ref o p _ lo len=>zf3 st o (st.S o) p lo len
 | _=>none
def zdi (st:St):List Nat->List PV->Option (List PV×St)
 | sz::szs,c::cs=>(zfh st sz c).bind fun r=>(zdi r.2 szs cs).bind fun q=>some (r.1::q.1,q.2)
 | [],[]=>some ([],st)
 | _,_=>none
def toF (sz:Nat):PV->Option PV
 | .v x=>if okV x then some (.v x) else none
 | .e0=>some (.sl sz [])
 | .sl s es=>some (.sl s es)
 | _=>none
def ze2:List Nat->List PV->Option (List PV)
 | sz::szs,c::cs=>(toF sz c).bind fun x=>(ze2 szs cs).bind fun xs=>some (x::xs)
 | [],[]=>some []
 | _,_=>none
def isF:PV->Bool
 | .sl _ _=>true
 | _=>false
def zcz:PV->Bool
 | .v x=>okV x
 | .e0=>true
 | .sl _ _=>true
 | .ref .. => true
 | _=>false
def over (cs:List PV) (j:Nat) (xs:List PV):List PV:=cs.take j++xs++cs.drop (j+xs.length)
def zen:PV->Bool
 | .v x=>okV x
 | _=>false
def zil (st:St) (o i j:Nat) (ys:List PV):Option Ob->Option St
 | some (.row sz es)=>(es[i]?).bind fun cs =>
  if j+ys.length<=cs.length then
   some { st with S:=upd st.S o (some (.row sz (es.set i (over cs j ys)))),ep:=if ys.all isV && ((cs.drop j).take ys.length).all isV then st.ep else st.ep+1 }
  else none
 | _=>none
def zjh:List PV->Option (Nat×(Nat×Nat)×Nat×Nat×Nat)
 | [.ref o (some q) ep lo len]=>some (o,q,ep,lo,len)
 | _=>none
def zx8 (st:St) (o i j:Nat) (d:Nat×(Nat×Nat)×Nat×Nat×Nat) (s:Nat) (es:List (List PV)):Option St :=
 if d.1=o/\d.2.1=(i,j)/\d.2.2.1=st.ep then
  (zbd es i j).bind fun r=>if d.2.2.2.1+d.2.2.2.2<=r.2.length then some { st with S:=upd st.S o (some (.row s (zbx es i j (.own r.1 (cut r.2 d.2.2.2.1 d.2.2.2.2))))),ep:=st.ep+1 } else none
 else none
def zfi (st:St) (szs:List Nat) (xs:List PV) (o:Nat):Option Ob->Option (Nat×Nat)->Nat->Nat->Nat->Option St
 | some (.box cs),none,_,i,j=>if i=0/\j+xs.length<=cs.length/\xs.all zcz then some { st with S:=upd st.S o (some (.box (over cs j xs))) } else none
 | some (.row s es),none,_,i,j=>match zjh xs with
  | some d=>zx8 st o i j d s es
  | none=>(zdi st szs xs).bind fun r=>zil r.2 o i j r.1 (r.2.S o)
 | some (.row sz es),some (a,b),ep,i,j =>
  if ep=st.ep/\xs.all zen then
   (zbd es a b).bind fun q=>(q.2[i]?).bind fun cs =>
    if j+xs.length<=cs.length then
     some { st with S:=upd st.S o (some (.row sz (zbx es a b (.own q.1 (q.2.set i (over cs j xs)))))),ep:=st.ep+1 }
    else none
  else none
 | some (.rowF sz es),none,_,i,j=>(ze2 szs xs).bind fun ys=>(es[i]?).bind fun cs =>
  if j+ys.length<=cs.length then some { st with S:=upd st.S o (some (.rowF sz (es.set i (over cs j ys)))) } else none
 | _,_,_,_,_=>none
def zvk (st:St) (szs:List Nat) (xs:List PV):PV->Option St
 | .ptr o p ep i j=>if xs.length=szs.length then zfi st szs xs o (st.S o) p ep i j else none
 | _=>none
def storeAt (st:St) (szs:List Nat) (a x:PV):Option St:=zvk st szs (cellsOf x) a
def newRow (st:St) (sz:Nat) (es:List (List PV)):PV×St :=
 (.ref st.nx none st.ep 0 es.length,{ st with S:=upd st.S st.nx (some (.row sz es)),nx:=st.nx+1 })
def zhu (st:St) (sz:Nat) (es:List (List PV)):PV×St :=
 (.ref st.nx none st.ep 0 es.length,{ st with S:=upd st.S st.nx (some (.rowF sz es)),nx:=st.nx+1 })
def zb9 (st:St) (cs:List PV):PV×St :=
 (.ptr st.nx none st.ep 0 0,{ st with S:=upd st.S st.nx (some (.box cs)),nx:=st.nx+1 })
def zpr:PV->Nat
 | .own sz _=>sz
 | _=>0
def zda (st:St) (z:List PV) (es:List (List PV)):List (Nat×PV)->Option (List (List PV)×St)
 | []=>some (es,st)
 | (i,x)::r=>(zdi st (z.map zpr) (cellsOf x)).bind fun q=>if i<es.length then zda q.2 z (es.set i q.1) r else none
def zie (z:List PV) (es:List (List PV)):List (Nat×PV)->Option (List (List PV))
 | []=>some es
 | (i,x)::r=>(ze2 (z.map zpr) (cellsOf x)).bind fun ys=>if i<es.length then zie z (es.set i ys) r else none
def zkq (ce a b ep lo len:Nat):Option Ob->Option ((Nat×List (List PV))×Ob)
 | some (.row s es)=>if ep=ce then (zbd es a b).map fun r=>((r.1,cut r.2 lo len),.rowF s (es.map fun e=>e.map fz)) else none
 | _=>none
def zc7 (st:St):List (Nat×PV)->List (Nat×PV)
 | [(i,.ref o (some (a,b)) ep lo len)]=>(zkq st.ep a b ep lo len (st.S o)).elim [(i,.ref o (some (a,b)) ep lo len)] fun r=>[(i,.sl r.1.1 r.1.2)]
 | l=>l
def zdb (st:St):List (Nat×PV)->St
 | [(_,.ref o (some (a,b)) ep lo len)]=>(zkq st.ep a b ep lo len (st.S o)).elim st fun r => { st with S:=upd st.S o (some r.2),ep:=st.ep+1 }
 | _=>st
def zgr (cs:List PV):List (Nat×Nat×PV)->Option (List PV)
 | []=>some cs
 | (off,sz,x)::r =>
  if (cellsOf x).length=sz/\off+sz<=cs.length/\(cellsOf x).all zcz then zgr (over cs off (cellsOf x)) r else none
def zhi:PV->Option Int
 | .v (.int _ n)=>some n
 | _=>none
def zg1:PV->Option Bool
 | .v (.bool b)=>some b
 | _=>none
def zcw:PV->Option ByteArray
 | .v (.string s)=>some s
 | _=>none
def zbc:BinOp->Value->Value->Option Value
 | .add,.int k a,.int k' b=>if k=k' then some (.int k (k.wrap (a+b))) else none
 | .sub,.int k a,.int k' b=>if k=k' then some (.int k (k.wrap (a-b))) else none
 | .mul,.int k a,.int k' b=>if k=k' then some (.int k (k.wrap (a*b))) else none
 | .quo,.int k a,.int k' b=>if k=k'/\b≠0 then some (.int k (k.wrap (a.tdiv b))) else none
 | .rem,.int k a,.int k' b=>if k=k'/\b≠0 then some (.int k (a.tmod b)) else none
 | .and,.int k a,.int k' b=>if k=k' then some (.int k (k.wrap (BitVec.ofInt k.bits a &&& BitVec.ofInt k.bits b).toNat)) else none
 | .or,.int k a,.int k' b=>if k=k' then some (.int k (k.wrap (BitVec.ofInt k.bits a ||| BitVec.ofInt k.bits b).toNat)) else none
 | .xor,.int k a,.int k' b=>if k=k' then some (.int k (k.wrap (BitVec.ofInt k.bits a ^^^ BitVec.ofInt k.bits b).toNat)) else none
 | .shl,.int k a,.int _ b=>if 0<=b then some (.int k (k.wrap (a*2 ^ min b.toNat k.bits))) else none
 | .shr,.int k a,.int _ b=>if 0<=b then some (.int k (a.fdiv (2 ^ min b.toNat k.bits))) else none
 | .eql,.int k a,.int k' b=>if k=k' then some (.bool (a == b)) else none
 | .neq,.int k a,.int k' b=>if k=k' then some (.bool (a != b)) else none
 | .lss,.int k a,.int k' b=>if k=k' then some (.bool (a<b)) else none
 | .leq,.int k a,.int k' b=>if k=k' then some (.bool (a<=b)) else none
 | .gtr,.int k a,.int k' b=>if k=k' then some (.bool (a > b)) else none
 | .geq,.int k a,.int k' b=>if k=k' then some (.bool (a ≥ b)) else none
 | .add,.string a,.string b=>if ((a.size+b.size:Nat):Int)<=IntKind.i64.max then some (.string (a++b)) else none
 | .eql,.string a,.string b=>some (.bool (a.toList == b.toList))
 | .neq,.string a,.string b=>some (.bool !(a.toList == b.toList))
 | .lss,.string a,.string b=>some (.bool (Op.bytesLess a.toList b.toList))
 | _,_,_=>none
def unV:UnOp->Value->Option Value
 | .neg,.int k a=>some (.int k (k.wrap (0-a)))
 | .not,.bool b=>some (.bool !b)
 | _,_=>none
def zmr (op:BinOp):PV->PV->Option PV
 | .v a,.v b=>(zbc op a b).map .v
 | _,_=>none
def unP (op:UnOp):PV->Option PV
 | .v a=>(unV op a).map .v
 | _=>none
def eqV:Kd->Value->Value->Option Bool
 | .i k,.int k1 a,.int k2 b=>if k1=k/\k2=k then some (a == b) else none
 | .b,.bool a,.bool b=>some (a == b)
 | .s,.string a,.string b=>some (a == b)
 | _,_,_=>none
def zb6:List Kd->List PV->List PV->Option Bool
 | [],[],[]=>some true
 | k::ks,.v x::xs,.v y::ys=>(eqV k x y).bind fun b=>if b then zb6 ks xs ys else some false
 | _,_,_=>none
def eqP:List Kd->PV->PV->Option Bool
 | [k],.v x,.v y=>eqV k x y
 | k::l::ks,.agg xs,.agg ys=>zb6 (k::l::ks) xs ys
 | _,_,_=>none
def zb4 (x:PV):Option Nat:=(zhi x).bind fun n=>if 0<=n then some n.toNat else none
def lenOf (st:St):PV->Option Nat
 | .e0=>some 0
 | .sl _ es=>some es.length
 | .ref o p ep _ len=>if (zfd st o p ep).isSome then some len else none
 | _=>none
def iaddr (st:St) (sz i:Nat):PV->Option PV
 | .sl s es=>if s=sz then (es[i]?).map fun cs => .fptr cs 0 else none
 | .ref o p ep lo len=>(zfd st o p ep).bind fun r=>if r.1=sz/\i<len then some (.ptr o p ep (lo+i) 0) else none
 | _=>none
def zij (s:ByteArray):List (List PV):=s.data.toList.map fun b=>[.v (.int .u8 (b.toNat:Int))]
def zlb:List (List PV)->Option (List UInt8)
 | []=>some []
 | [.v (.int .u8 n)]::r=>(zlb r).map fun l=>n.toNat.toUInt8::l
 | _=>none
def sliceS (s:ByteArray) (lo hi:Option Nat):Option PV :=
 if lo.getD 0<=hi.getD s.size/\hi.getD s.size<=s.size then some (.v (.string (s.extract (lo.getD 0) (hi.getD s.size)))) else none
def zuo (st:St) (sz l h:Nat):PV->Option PV
 | .e0=>some .e0
 | .sl s es=>if s=sz then some (.sl s ((es.drop l).take (h-l))) else none
 | .ref o p ep lo _=>(zfd st o p ep).bind fun r=>if r.1=sz then some (.ref o p ep (lo+l) (h-l)) else none
 | _=>none
def zk3 (st:St) (sz:Nat) (x:PV) (lo hi:Option Nat):Option Nat->Option PV
 | some m=>(lenOf st x).bind fun n=>if m=0/\hi=some 0/\lo.getD 0=0/\0<=n then some .e0 else none
 | none=>(lenOf st x).bind fun n=>if lo.getD 0<=hi.getD n/\hi.getD n<=n then zuo st sz (lo.getD 0) (hi.getD n) x else none
def zag (bytes n:Nat):Bool:=n*bytes<=140737488355328 && n<=140737488355328
def zgi (st:St) (sz o:Nat):Option Ob->Option (Nat×Nat)->Nat->Nat->Nat->Option (List (List PV)×Bool×St)
 | some (.row s es),none,_,lo,len=>if s=sz/\lo+len=es.length then some (es.drop lo,false,{ st with S:=upd st.S o none }) else none
 | some (.row s es),some (i,j),ep,lo,len=>if ep=st.ep then
   (zbd es i j).bind fun r=>if r.1=sz/\lo+len=r.2.length then
    some (r.2.drop lo,false,{ st with S:=upd st.S o (some (.row s (zbx es i j .undef))),ep:=st.ep+1 }) else none
  else none
 | some (.rowF s es),none,_,lo,len=>if s=sz/\lo+len=es.length then some (es.drop lo,true,{ st with S:=upd st.S o none }) else none
 | _,_,_,_,_=>none
def zf6 (st:St) (sz:Nat):PV->Option (List (List PV)×Bool×St)
 | .e0=>some ([],false,st)
 | .ref o p ep lo len=>zgi st sz o (st.S o) p ep lo len
 | _=>none
def zg4 (st:St) (o:Nat):Option Ob->Option (Nat×Nat)->Nat->Nat->Option (List (List PV)×Option Bool×St)
 | some (.row _ es),none,lo,len=>if lo=0/\len=es.length then some (es,some false,{ st with S:=upd st.S o none }) else none
 | some (.rowF _ es),none,lo,len=>some (cut es lo len,some true,st)
 | _,_,_,_=>none
def zgb (st:St) (sz:Nat):PV->Option (List (List PV)×Option Bool×St)
 | .e0=>some ([],none,st)
 | .sl s es=>if s=sz/\zcf es then some (es,none,st) else none
 | .ref o p ep lo len =>
  (zfd st o p ep).bind fun r =>
   if r.1=sz then
    if zcf (cut r.2 lo len) then some (cut r.2 lo len,none,st) else zg4 st o (st.S o) p lo len
   else none
 | _=>none
def zgx (st:St) (sz:Nat) (es:List (List PV)):Bool->Option Bool->Option (PV×St)
 | false,none=>some (newRow st sz es)
 | false,some false=>some (newRow st sz es)
 | true,none=>some (zhu st sz es)
 | true,some true=>some (zhu st sz es)
 | _,_=>none
def zkn (st:St) (bytes sz:Nat) (s x:PV):Option (PV×St) :=
 (zgb st sz x).bind fun m=>(zf6 m.2.2 sz s).bind fun b =>
  if zag bytes (b.1.length+m.1.length) then zgx b.2.2 sz (b.1++m.1) b.2.1 m.2.1 else none
def appS (st:St) (s:PV) (t:ByteArray):Option (PV×St) :=
 (zf6 st 1 s).bind fun b=>if zag 1 (b.1.length+t.size) then zgx b.2.2 1 (b.1++zij t) b.2.1 none else none
def zdo (c:PV):Bool:=zen c || isF c
def zjg:Option Ob->Option (Nat×Nat)->Nat->Nat->Option PV
 | some (.box cs),none,i,j=>if i=0/\cs.all zdo then some (.fptr cs j) else none
 | _,_,_,_=>none
def zca (st:St) (sz:Nat):PV->Option PV
 | .v x=>some (.v x)
 | .e0=>some (.sl sz [])
 | .sl s es=>some (.sl s es)
 | .ref o p ep lo len=>(zfd st o p ep).map fun r => .sl r.1 (cut r.2 lo len)
 | .fptr cs j=>some (.fptr cs j)
 | .ptr o p _ i j=>zjg (st.S o) p i j
 | _=>none
def zfa (st:St):List Nat->List PV->Option (List PV)
 | sz::szs,c::cs=>(zca st sz c).bind fun x=>(zfa st szs cs).bind fun xs=>some (x::xs)
 | [],c::cs=>(zca st 0 c).bind fun x=>(zfa st [] cs).bind fun xs=>some (x::xs)
 | _,[]=>some []
def zcp (st:St) (szs:List Nat):PV->Option PV
 | .agg cs=>(zfa st szs cs).map .agg
 | .fn f caps=>(zfa st [] caps).map (.fn f)
 | x=>zca st (szs.headD 0) x
def zmo (o ep lo len:Nat):Option Ob->Option (PV×List PV)
 | some (.row s es)=>if lo=0/\len=es.length then some (.own s es,[.ref o none ep lo len]) else none
 | _=>none
def zks (o ep:Nat):Option Ob->Option (Nat×Nat)->Nat->Nat->Option (PV×List PV)
 | some (.box cs),none,i,j=>if i=0/\j=0/\cs.all zdo then some (.bx cs,[.ptr o none ep 0 0]) else none
 | _,_,_,_=>none
def zdn (st:St) (sz:Nat):PV->Option (PV×List PV)
 | .v x=>some (.v x,[])
 | .e0=>some (.own sz [],[.e0])
 | .ref o none ep lo len=>zmo o ep lo len (st.S o)
 | .ptr o p ep i j=>zks o ep (st.S o) p i j
 | _=>none
def zgh (st:St):List Nat->List PV->Option (List PV×List PV)
 | sz::szs,c::cs=>(zdn st sz c).bind fun r=>(zgh st szs cs).bind fun q=>some (r.1::q.1,r.2++q.2)
 | [],c::cs=>(zdn st 0 c).bind fun r=>(zgh st [] cs).bind fun q=>some (r.1::q.1,r.2++q.2)
 | _,[]=>some ([],[])
def zfx (st:St) (szs:List Nat):PV->Option (PV×List PV)
 | .agg cs=>(zgh st szs cs).map fun q=>(.agg q.1,q.2)
 | x=>zdn st (szs.headD 0) x
def zcy (st:St):List Bool->List (List Nat×PV)->Option (List PV×List PV)
 | _,[]=>some ([],[])
 | m::ms,(szs,x)::xs =>
  (if m then zfx st szs x else (zcp st szs x).map fun y=>(y,[])).bind fun r =>
   (zcy st ms xs).bind fun q=>some (r.1::q.1,r.2++q.2)
 | [],(szs,x)::xs=>(zcp st szs x).bind fun y=>(zcy st [] xs).bind fun q=>some (y::q.1,q.2)
def root:PV->List Nat
 | .ref o _ _ _ _=>[o]
 | .ptr o _ _ _ _=>[o]
 | _=>[]
def zd0:PV->List Nat
 | .agg cs=>cs.flatMap root
 | .fn _ cs=>cs.flatMap root
 | x=>root x
def zez:List Nat->Bool
 | []=>true
 | x::xs => !xs.any (fun y=>y=x) && zez xs
def ze7:PV->Bool
 | .own _ _=>true
 | .undef=>true
 | _=>false
def putRow (st:St) (o len s:Nat) (es':List (List PV)):Option Ob->Option (Nat×Nat)->Option St
 | some (.row sz es),none=>if es'.length=len/\s=sz/\es.length=len then some { st with S:=upd st.S o (some (.row sz es')) } else none
 | _,_=>none
def zp3 (st:St) (o:Nat) (cs':List PV):Option Ob->Option St
 | some (.box cs)=>if cs'.length=cs.length then some { st with S:=upd st.S o (some (.box cs')) } else none
 | _=>none
def zpw (st:St) (o:Nat):Option Ob->Option St
 | some (.row _ _)=>some { st with S:=upd st.S o none }
 | _=>none
def zcx (st:St):PV->PV->Option St
 | .e0,.own _ es=>if es.length=0 then some st else none
 | .e0,.undef=>some st
 | .ref o _ _ _ _,.undef=>zpw st o (st.S o)
 | .ref o p _ _ len,.own s es'=>putRow st o len s es' (st.S o) p
 | .ptr o _ _ _ _,.bx cs'=>zp3 st o cs' (st.S o)
 | _,_=>none
def zer (st:St):List PV->List PV->Option St
 | [],[]=>some st
 | t::ts,o::os=>(zcx st t o).bind fun st=>zer st ts os
 | _,_=>none
def zdm (st:St) (nofz:Bool):PV->Option (PV×St)
 | .v x=>some (.v x,st)
 | .sl sz es=>if nofz then none else some (.sl sz es,st)
 | .own sz es=>some (newRow st sz es)
 | .bx cs=>if nofz && cs.any isF then none else some (zb9 st cs)
 | _=>none
def zgk (st:St) (nofz:Bool):List PV->Option (List PV×St)
 | []=>some ([],st)
 | c::cs=>(zdm st nofz c).bind fun r=>(zgk r.2 nofz cs).bind fun q=>some (r.1::q.1,q.2)
def zfo (st:St) (nofz:Bool):PV->Option (PV×St)
 | .agg cs=>(zgk st nofz cs).map fun q=>(.agg q.1,q.2)
 | x=>zdm st nofz x
def zfw (st:St) (nofz:Bool):List PV->Option (List PV×St)
 | []=>some ([],st)
 | c::cs=>(zfo st nofz c).bind fun r=>(zfw r.2 nofz cs).bind fun q=>some (r.1::q.1,q.2)
abbrev zak:=Nat->List PV->Option (List PV×List PV)
def zp1:List PV->PV
 | [x]=>x
 | vs => .tup vs
def zei (args:List (List Nat×PV)):List Nat:=args.flatMap fun x=>zd0 x.2
def zxz (rs all:List Nat):Bool:=rs.all fun o=>(all.filter (fun y=>y=o)).length=1
def zx6:PV->Bool
 | .own _ es=>zcf es
 | _=>true
def zf4:Option Ob->Option Ob
 | some (.shadow _ _ _)=>none
 | x=>x
def yb7 (S:Nat->Option Ob):Nat->Option Ob:=fun o=>zf4 (S o)
def zg9 (fl b:Bool) (st:St):St:=if b then (if fl then { st with S:=yb7 st.S } else { st with ep:=st.ep+1 }) else st
def zk0:Option Ob->Bool
 | some (.shadow _ _ _)=>true
 | _=>false
def zif (st:St):List Nat->Bool
 | []=>true
 | o::os => !zk0 (st.S o) && zif st os
def zx1:List PV->Bool
 | []=>true
 | _=>false
def z84:PV->Bool
 | .bx cs=>cs.any isF
 | _=>false
def zhv (args:List (List Nat×PV)) (hs:List PV):Bool:=(zei args).length != (hs.flatMap root).length
def zg5 (fl:Bool) (R:zak) (st:St) (f:Nat) (args:List (List Nat×PV)) (a:List PV×List PV):Option (PV×St) :=
  if zxz (a.2.flatMap root) (zei args) && (zx1 a.2 || zif st (zei args)) then
   (R f a.1).bind fun r =>
    if zhv args a.2 && r.2.any z84 || fl && !r.2.all zx6 then none else
    (zer st a.2 r.2).bind fun st1 =>
     (zfw (zg9 fl (r.2.any ze7) st1) (zhv args a.2) r.1).map fun q=>(zp1 q.1,q.2)
  else none
def zfb (modes:Nat->List Bool) (R:zak) (st:St) (f:Nat) (args:List (List Nat×PV)):Option (PV×St) :=
 (zcy st (modes f) args).bind (zg5 (decide (args.length<(modes f).length)) R st f args)
structure Sub where
 o:Nat
 i:Nat
 j:Nat
 sz:Nat
 es:List (List PV)
 s2:Nat
 es2:List (List PV)
def ziq (ce o i j ep lo len:Nat):Option Ob->Option Sub
 | some (.row sz es)=>if ep=ce then (zbd es i j).bind fun r=>if lo=0/\len=r.2.length then some ⟨o,i,j,sz,es,r.1,r.2⟩ else none else none
 | _=>none
def zft (st:St):PV->Option Sub
 | .ref o (some (i,j)) ep lo len=>ziq st.ep o i j ep lo len (st.S o)
 | _=>none
def zgm {α β:Type} (x:Option α) (y:Option β) (k:α->Option β):Option β:=match x with
 | some a=>k a
 | none=>y
def zgw (st:St):List PV->Option Sub
 | []=>none
 | c::cs=>zgm (zft st c) (zgw st cs) some
def zee (st:St):List Bool->List (List Nat×PV)->Option Sub
 | true::ms,q::xs=>zgm (zgw st (cellsOf q.2)) (zee st ms xs) some
 | false::ms,_::xs=>zee st ms xs
 | _,_=>none
def zgj (d:Sub) (n e:Nat):PV->PV
 | .ref o p ep lo len=>if o=d.o/\p=some (d.i,d.j)/\ep=e then .ref n none (e+1) lo len else .ref o p ep lo len
 | c=>c
def zhn (d:Sub) (n e:Nat):PV->PV
 | .agg cs => .agg (cs.map (zgj d n e))
 | .fn f cs => .fn f cs
 | x=>zgj d n e x
def zk5 (d:Sub) (n e:Nat) (args:List (List Nat×PV)):List (List Nat×PV):=args.map fun q=>(q.1,zhn d n e q.2)
def zcd (st:St) (d:Sub):St :=
 { st with S:=upd (upd st.S d.o (some (.row d.sz (zbx d.es d.i d.j .undef)))) st.nx (some (.row d.s2 d.es2)),nx:=st.nx+1,ep:=st.ep+1 }
def zp6 (st:St) (n o i j:Nat):Option Ob->Option Ob->Option St
 | some (.row s es'),some (.row sz es)=>some { st with S:=upd (upd st.S n none) o (some (.row sz (zbx es i j (.own s es')))),ep:=st.ep+1 }
 | _,_=>none
def zpm (st:St) (n:Nat) (d:Sub):Option St:=zp6 st n d.o d.i d.j (st.S n) (st.S d.o)
def zjm (modes:Nat->List Bool) (R:zak) (st:St) (f:Nat) (args:List (List Nat×PV)) (d:Sub):Option (PV×St) :=
 if (zei (zk5 d st.nx st.ep args)).any (fun o=>o=d.o) then none else
  (zfb modes R (zcd st d) f (zk5 d st.nx st.ep args)).bind fun r=>(zpm r.2 st.nx d).map fun s=>(r.1,s)
def zds (modes:Nat->List Bool) (R:zak) (st:St) (f:Nat) (args:List (List Nat×PV)):Option (PV×St) :=
 zgm (zee st (modes f) args) (zfb modes R st f args) (zjm modes R st f args)
def zbq (st:St):Option Opd->Option (Option Nat)
 | none=>some none
 | some y=>(zb4 (y.get st)).map some
def zh9 (ce:Nat):Option Ob->Option (Nat×Nat)->Nat->Nat->Bool
 | some (.box _),none,_,i=>i == 0
 | some (.row sz es),p,ep,_=>(zav ce (some (.row sz es)) p ep).isSome
 | some (.rowF sz es),p,ep,_=>(zav ce (some (.rowF sz es)) p ep).isSome
 | some (.shadow sz es e),p,ep,_=>(zav ce (some (.shadow sz es e)) p ep).isSome
 | _,_,_,_=>false
def ziu (st:St):PV->Option PV
 | .ptr o p ep i j=>if zh9 st.ep (st.S o) p ep i then some (.ptr o p ep i j) else none
 | .fptr cs j=>some (.fptr cs j)
 | .fn f caps=>some (.fn f caps)
 | _=>none
def zic (st:St) (off:Nat):PV->Option PV
 | .ptr o p ep i j=>if zh9 st.ep (st.S o) p ep i then some (.ptr o p ep i (j+off)) else none
 | .fptr cs j=>some (.fptr cs (j+off))
 | _=>none
def zm0 (i:Nat):PV->Option PV
 | .tup vs=>vs[i]?
 | _=>none
def zp2 (modes:Nat->List Bool) (R:zak) (st:St) (args:List (List Nat×PV)):PV->Option (PV×St)
 | .fn f caps=>zds modes R st f (args++caps.map fun c=>([],c))
 | _=>none
def mxP (big:Bool):PV->PV->Option PV
 | .v (.int k a),.v (.int k' b)=>if k=k' then some (.v (.int k (if big then (if a<b then b else a) else (if b<a then b else a)))) else none
 | _,_=>none
def zpb:PV->Bool
 | .agg _=>false
 | .fn _ _=>false
 | .tup _=>false
 | _=>true
def zb8 (st:St) (ps:List (Nat×Opd)):List (Nat×PV):=ps.map fun q=>(q.1,q.2.get st)
def zai (modes:Nat->List Bool) (R:zak) (st:St):IOp->Option (PV×St)
 | .mv x=>some (x.get st,st)
 | .pick c a b=>(zg1 (c.get st)).map fun t=>(if t then a.get st else b.get st,st)
 | .alloc z=>some (zb9 st z)
 | .box x=>if (cellsOf (x.get st)).all zcz then some (zb9 st (cellsOf (x.get st))) else none
 | .build z ps=>(zgr z (ps.map fun q=>(q.1,q.2.1,q.2.2.get st))).map fun cs=>(.agg cs,st)
 | .bslice n sz z ps =>
  if (zc7 st (zb8 st ps)).any fun q=>(cellsOf q.2).any isF then
   (zie z (List.replicate n (z.map fz)) (zc7 st (zb8 st ps))).map fun es=>zhu (zdb st (zb8 st ps)) sz es
  else (zda (zdb st (zb8 st ps)) z (List.replicate n z) (zc7 st (zb8 st ps))).map fun q=>newRow q.2 sz q.1
 | .allocL z=>some (zb9 st z)
 | .mvL x=>some (x.get st,st)
 | .bsliceL n sz z ps=>(zda st z (List.replicate n z) (zb8 st ps)).map fun q=>newRow q.2 sz q.1
 | .load ag sz a=>(loadCells st sz (a.get st)).bind fun cs=>(zlc ag cs).map fun x=>(x,st)
 | .store szs a x=>(storeAt st szs (a.get st) (x.get st)).map fun st=>(.undef,st)
 | .nilc x=>(ziu st (x.get st)).map fun r=>(r,st)
 | .bin op x y=>(zmr op (x.get st) (y.get st)).map fun r=>(r,st)
 | .eqb neg ks x y=>(eqP ks (x.get st) (y.get st)).map fun b=>(.v (.bool (b != neg)),st)
 | .un op x=>(unP op (x.get st)).map fun r=>(r,st)
 | .convI k x=>(zhi (x.get st)).map fun n=>(.v (.int k (k.wrap n)),st)
 | .toS x=>(zfj st (x.get st)).bind fun r=>(zlb r.2).map fun l=>(.v (.string ⟨l.toArray⟩),st)
 | .mkfn f caps=>if (caps.map (Opd.get st)).all zpb then some (.fn f (caps.map (Opd.get st)),st) else none
 | .mksl bytes sz z l c=>(zb4 (l.get st)).bind fun n=>(zb4 (c.get st)).bind fun m =>
  if n<=m/\zag bytes m then some (newRow st sz (List.replicate n z)) else none
 | .slice sz x lo hi mx =>
  (zbq st lo).bind fun l=>(zbq st hi).bind fun h=>(zbq st mx).bind fun m=>(zk3 st sz (x.get st) l h m).map fun r=>(r,st)
 | .sliceS x lo hi =>
  (zcw (x.get st)).bind fun s=>(zbq st lo).bind fun l=>(zbq st hi).bind fun h=>(sliceS s l h).map fun r=>(r,st)
 | .faddr off x=>(zic st off (x.get st)).map fun r=>(r,st)
 | .iaddr sz x i=>(zb4 (i.get st)).bind fun k=>(iaddr st sz k (x.get st)).map fun r=>(r,st)
 | .idx x i=>(zcw (x.get st)).bind fun s=>(zb4 (i.get st)).bind fun k=>(s[k]?).map fun b=>(.v (.int .u8 (b.toNat:Int)),st)
 | .ext i x=>(zm0 i (x.get st)).map fun r=>(r,st)
 | .call f args=>zds modes R st f (args.map fun q=>(q.1,q.2.get st))
 | .callv g args=>zp2 modes R st (args.map fun q=>(q.1,q.2.get st)) (g.get st)
 | .len x=>(lenOf st (x.get st)).map fun (n:Nat)=>(.v (.int .i64 (n:Int)),st)
 | .lenS x=>(zcw (x.get st)).map fun s=>(.v (.int .i64 (s.size:Int)),st)
 | .appS s x=>(zcw (x.get st)).bind fun t=>appS st (s.get st) t
 | .app bytes sz s x=>zkn st bytes sz (s.get st) (x.get st)
 | .mx big x y=>(mxP big (x.get st) (y.get st)).map fun r=>(r,st)
def zia (want:Bool):PV->Option Bool
 | .v (.bool b)=>some (b == want)
 | .v _=>some false
 | _=>none
def zcv (st:St):Option (Opd×Bool)->Option Bool
 | none=>some true
 | some (g,want)=>zia want (g.get st)
def zdl (modes:Nat->List Bool) (R:zak):List zac->St->Option St
 | [],st=>some st
 | o::os,st=>(zcv st o.guard).bind fun t =>
  if t then (zai modes R st o.op).bind fun r=>zdl modes R os (r.2.put o.dst r.1)
  else zdl modes R os (st.put o.dst (.v Go.undef))
def quiet:IOp->Bool
 | .alloc _=>false
 | .box _=>false
 | .bslice .. => false
 | .allocL _=>false
 | .mvL _=>false
 | .bsliceL .. => false
 | .store .. => false
 | .mksl .. => false
 | .call .. => false
 | .callv .. => false
 | .app .. => false
 | .appS .. => false
 | _=>true
def evG (modes:Nat->List Bool) (R:zak) (st:St) (o:zac):Option (PV×St) :=
 (zcv st o.guard).bind fun t=>if t then zai modes R st o.op else some (.v Go.undef,st)
def yv (st:St) (o:zac):Option PV:=(evG (fun _=>[]) (fun _ _=>none) st o).map Prod.fst
def za3 (V E:Nat->PV) (o:zac) (x:PV):Nat->List St->Prop
 | 0,_=>True
 | _+1,[]=>True
 | n+1,m::ms=>yv { m with V:=V,E:=E } o=some x/\za3 V E o x n ms
def zce (st:St):List (zac×PV×Nat)->Prop
 | []=>True
 | (_,_,0)::r=>zce st r
 | (o,x,_+1)::r=>yv st o=some x/\zce st r
def zc8:List (zac×PV×Nat)->List (zac×PV×Nat)
 | []=>[]
 | (_,_,0)::r=>zc8 r
 | (o,x,n+1)::r=>(o,x,n)::zc8 r
open Classical in
noncomputable def evD (modes:Nat->List Bool) (R:zak):List (zac×Nat×Nat)->List (zac×PV×Nat)->List St->St->Option St
 | [],_,_,st=>some st
 | (o,b,w)::os,todo,past,st =>
  (evG modes R st o).bind fun r =>
   if quiet o.op then
    if za3 st.V st.E o r.1 b past then evD modes R os (if w=0 then todo else (o,r.1,w)::todo) past (st.put o.dst r.1) else none
   else if zce r.2 todo then evD modes R os (zc8 todo) (st::past) (r.2.put o.dst r.1) else none
def Ex.go (k:St->Option (Ex×St)):Ex×St->Option (Ex×St)
 | (.normal,st)=>k st
 | r=>some r
def Ex.out (id:Nat):Ex×St->Ex×St
 | (.exit i,st)=>(if i=id then .normal else .exit i,st)
 | r=>r
def zd5 (F:St->Option (Ex×St)):Nat->St->Option (Ex×St)
 | 0,_=>none
 | n+1,st=>(F st).bind (Ex.go (zd5 F n))
noncomputable def evC (modes:Nat->List Bool) (R:zak) (n:Nat):IC->St->Option (Ex×St)
 | .skip,st=>some (.normal,st)
 | .reg ops,st=>(zdl modes R ops { st with E:=fun _ => .undef }).map fun st=>(.normal,st)
 | .regD ops,st=>(evD modes R ops [] [] { st with E:=fun _ => .undef }).map fun st=>(.normal,st)
 | .seq a b,st=>(evC modes R n a st).bind (Ex.go (evC modes R n b))
 | .cond c x y,st=>(zg1 (c.get st)).bind fun t=>if t then evC modes R n x st else evC modes R n y st
 | .block id c,st=>(evC modes R n c st).map (Ex.out id)
 | .loop c,st=>zd5 (evC modes R n c) n st
 | .exit id,st=>some (.exit id,st)
 | .ret,st=>some (.ret,st)
def zc0 (st:St):PV->Option (PV×St)
 | .v x=>some (.v x,st)
 | .sl sz es=>some (.sl sz es,st)
 | .fptr cs j=>some (.fptr cs j,st)
 | .own sz es=>some (newRow st sz es)
 | .bx cs=>some (zb9 st cs)
 | .fn f caps=>some (.fn f caps,st)
 | _=>none
def zky (st:St):List PV->Option (List PV×St)
 | []=>some ([],st)
 | c::cs=>(zc0 st c).bind fun r=>(zky r.2 cs).bind fun q=>some (r.1::q.1,q.2)
def zg0 (st:St):PV->Option (PV×St)
 | .agg cs=>(zky st cs).map fun q=>(.agg q.1,q.2)
 | x=>zc0 st x
def zko (st:St):List PV->Option (List PV×St)
 | []=>some ([],st)
 | c::cs=>(zg0 st c).bind fun r=>(zko r.2 cs).bind fun q=>some (r.1::q.1,q.2)
def st0:St := { V:=fun _ => .undef,E:=fun _ => .undef,S:=fun _=>none,nx:=0,ep:=0 }
def zkp (args:List PV):Option St :=
 (zko st0 args).map fun q => { q.2 with V:=fun k=>q.1.getD k .undef }
def zk9 (io o:Nat):Option Ob->Option (Nat×Nat)->Nat->Nat->Option PV
 | some (.row s es),none,lo,len=>if io<=o then some (.own s (cut es lo len)) else none
 | _,_,_,_=>none
def zkw (io o:Nat):Option Ob->Option (Nat×Nat)->Nat->Nat->Option PV
 | some (.box cs),none,i,j=>if io<=o/\i=0/\j=0/\cs.all zdo then some (.bx cs) else none
 | _,_,_,_=>none
def zdk (st:St) (io sz:Nat):PV->Option PV
 | .v x=>some (.v x)
 | .e0=>some (.own sz [])
 | .sl s es=>some (.sl s es)
 | .ref o p _ lo len=>zk9 io o (st.S o) p lo len
 | .ptr o p _ i j=>zkw io o (st.S o) p i j
 | _=>none
def zjo (st:St) (io:Nat):List Nat->List PV->Option (List PV)
 | sz::szs,c::cs=>(zdk st io sz c).bind fun x=>(zjo st io szs cs).bind fun xs=>some (x::xs)
 | [],c::cs=>(zdk st io 0 c).bind fun x=>(zjo st io [] cs).bind fun xs=>some (x::xs)
 | _,[]=>some []
def zgz (st:St) (io:Nat) (szs:List Nat):PV->Option PV
 | .agg cs=>(zjo st io szs cs).map .agg
 | x=>zdk st io (szs.headD 0) x
def zpa (st:St):RV->Option PV
 | .tmp _ k=>some (st.V k)
 | .cell szs k ag=>(loadCells st szs.length (st.V k)).bind (zlc ag)
 | .pl=>none
def RV.szs:RV->List Nat
 | .tmp s _=>s
 | .cell s _ _=>s
 | .pl=>[]
def zk1 (st:St) (io:Nat):List (List Nat×PV)->Option (List PV)
 | []=>some []
 | (szs,x)::r=>(zgz st io szs x).bind fun y=>(zk1 st io r).bind fun ys=>some (y::ys)
def zjw (st:St):List RV->Option (List (List Nat×PV))
 | []=>some []
 | r::rs=>(zpa st r).bind fun x=>(zjw st rs).bind fun xs=>some ((r.szs,x)::xs)
def ziw:Option Ob->Option PV
 | some (.row sz es)=>some (.own sz es)
 | some (.box cs)=>if cs.all zdo then some (.bx cs) else none
 | _=>none
def zkx (st:St):Nat->Option (List PV)
 | 0=>some []
 | n+1=>(zkx st n).bind fun l=>(ziw (st.S n)).map fun x=>l++[x]
def zuq:List RV->Bool
 | .pl::_=>true
 | _=>false
def zmn:List RV->List RV
 | .pl::r=>r
 | r=>r
def zkt (d:Sub) (n e:Nat):PV->PV
 | .ref o (some q) ep lo len=>if o=d.o/\ep=e then (if q=(d.i,d.j) then .ref n none (e+1) lo len else .ref o (some q) (e+1) lo len) else .ref o (some q) ep lo len
 | c=>c
def zve (d:Sub) (n e:Nat):PV->PV
 | .agg cs => .agg (cs.map (zkt d n e))
 | .fn f cs => .fn f cs
 | x=>zkt d n e x
def zju:Nat->St->List (List Nat×PV)->St×List (List Nat×PV)
 | 0,st,xs=>(st,xs)
 | n+1,st,xs=>match zgw st (xs.flatMap fun x=>cellsOf x.2) with
  | some d=>zju n (zcd st d) (xs.map fun q=>(q.1,zve d st.nx st.ep q.2))
  | none=>(st,xs)
def zy9 (io:Nat) (r:St×List (List Nat×PV)):Option (List PV×List PV) :=
 if zez (r.2.flatMap fun x=>zd0 x.2) then
  (zk1 r.1 io r.2).bind fun ys=>(zkx r.1 io).map fun os=>(ys,os)
 else none
def zfv (fn:IFn) (io:Nat) (st:St):Option (List PV×List PV) :=
 (zjw st (zmn fn.results)).bind fun xs=>zy9 io (if zuq fn.results then zju 2 st xs else (st,xs))
def Ex.fin (k:St->Option (List PV×List PV)):Ex×St->Option (List PV×List PV)
 | (.normal,st)=>k st
 | (.ret,st)=>k st
 | _=>none
noncomputable def zps (modes:Nat->List Bool) (R:zak) (n:Nat) (fn:IFn) (args:List PV):Option (List PV×List PV) :=
 (zkp args).bind fun st=>(evC modes R n fn.body st).bind (Ex.fin (zfv fn st.nx))
inductive Fun where
 | code (fn:IFn)
 | known (modes:List Bool) (g:List PV->Option (List PV×List PV))
 | ext (g:List Value->Option (List Value))
def Fun.modes:Fun->List Bool
 | .code fn=>fn.modes
 | .known m _=>m
 | .ext _=>[]
def zm3:List PV->Option (List Value)
 | []=>some []
 | .v x::r=>(zm3 r).map (x :: ·)
 | _=>none
def ycm (g:List Value->Option (List Value)) (args:List PV):Option (List PV×List PV):=(zm3 args).bind fun xs=>(g xs).map fun ys=>(ys.map .v,[])
abbrev zch:=Nat->Option Fun
def zad (T:zch) (f:Nat):List Bool:=((T f).map Fun.modes).getD []
noncomputable def run (T:zch):Nat->zak
 | 0,_,_=>none
 | n+1,f,args=>(T f).bind fun
  | .code fn=>zps (zad T) (run T n) n fn args
  | .known _ g=>g args
  | .ext g=>ycm g args
end Go.Pe
namespace Go.Pe
open Go
variable {R R':zak} {st:St} {f:Nat} {args:List (List Nat×PV)} {r:PV×St} {T:zch}
theorem zge {α β:Type} {a a':Option α} {f f':α->Option β} {r:β} (h:a.bind f=some r) (ha : ∀ x,a=some x->a'=some x) (hf : ∀ x,a=some x->f x=some r->f' x=some r):a'.bind f'=some r:=by
 obtain ⟨x,hx,hr⟩:=bA h;rw [ha x hx]; exact hf x hx hr
def OLe (R R':zak):Prop := ∀ f a r,R f a=some r->R' f a=some r
theorem qax (hR:OLe R R') {a:List PV×List PV} {fl:Bool} (h:zg5 fl R st f args a=some r):zg5 fl R' st f args a=some r:=by
 unfold zg5 at h ⊢;split at h
 ·rename_i c; rw [if_pos c]; exact zge h (fun x hx=>hR _ _ _ hx) (fun _ _ h=>h)
 ·cases h
theorem yma {modes:Nat->List Bool} (hR:OLe R R') (h:zfb modes R st f args=some r):zfb modes R' st f args=some r :=
 zge h (fun _ h=>h) (fun _ _ ha=>qax hR ha)
theorem yo9 {modes:Nat->List Bool} (hR:OLe R R') (h:zds modes R st f args=some r):zds modes R' st f args=some r:=by
 unfold zds zgm at h ⊢;cases hd:zee st (modes f) args with
 | none=>rw [hd] at h; exact yma hR h
 | some d =>
  rw [hd] at h;simp only [zjm] at h ⊢;split at h
  ·cases h
  ·rename_i c; rw [if_neg c]; exact zge h (fun _ hx=>yma hR hx) (fun _ _ h=>h)
theorem yd7 {modes:Nat->List Bool} (hR:OLe R R') {o:IOp} (h:zai modes R st o=some r):zai modes R' st o=some r:=by
 cases o
 case call f args=>exact yo9 hR h
 case callv g args =>
  simp only [zai] at h ⊢;cases hg:g.get st <;> rw [hg] at h <;> first | exact yo9 hR h | cases h
 all_goals exact h
theorem z79 {modes:Nat->List Bool} {R R':zak} (hR:OLe R R') : ∀ (os:List zac) (st st':St),zdl modes R os st=some st'->zdl modes R' os st=some st'
 | [],_,_,h=>h
 | o::os,st,st',h=>by
  unfold zdl at h ⊢;refine zge h (fun _ h=>h) (fun t _ ht => ?_);cases t with
  | true=>exact zge ht (fun _ hx=>yd7 hR hx) (fun _ _ h=>z79 hR os _ _ h)
  | false=>exact z79 hR os _ _ ht
theorem ydh {F F':St->Option (Ex×St)} {q r:Ex×St} (hF : ∀ st r,F st=some r->F' st=some r) (h:Ex.go F q=some r):Ex.go F' q=some r:=by
 obtain ⟨e,st⟩:=q;cases e
 ·exact hF _ _ h
 ·exact h
 ·exact h
theorem yc5 {modes:Nat->List Bool} (hR:OLe R R') {o:zac} (h:evG modes R st o=some r):evG modes R' st o=some r:=by
 unfold evG at h ⊢;refine zge h (fun _ h=>h) (fun t _ ht => ?_);cases t with
 | true=>exact yd7 hR ht
 | false=>exact ht
theorem zyx {modes:Nat->List Bool} {R R':zak} (hR:OLe R R') : ∀ (os:List (zac×Nat×Nat)) (todo:List (zac×PV×Nat)) (past:List St) (st r:St),evD modes R os todo past st=some r->evD modes R' os todo past st=some r
 | [],_,_,_,_,h=>h
 | (o,b,w)::os,todo,past,st,r,h=>by
  simp only [evD] at h ⊢;refine zge h (fun x hx=>yc5 hR hx) (fun q _ hq => ?_);split at hq
  ·rename_i c; rw [if_pos c];split at hq
   ·rename_i c2; rw [if_pos c2]; exact zyx hR os _ _ _ _ hq
   ·cases hq
  ·rename_i c; rw [if_neg c];split at hq
   ·rename_i c2; rw [if_pos c2]; exact zyx hR os _ _ _ _ hq
   ·cases hq
theorem zys {F F':St->Option (Ex×St)} (hF : ∀ st r,F st=some r->F' st=some r) : ∀ (n n':Nat) (st:St) (r:Ex×St),n<=n'->zd5 F n st=some r->zd5 F' n' st=some r
 | 0,_,_,_,_,h=>by cases h
 | n+1,n',st,r,hn,h=>by
  obtain ⟨m,rfl⟩ : ∃ m,n'=m+1:=⟨n'-1,by omega⟩;simp only [zd5] at h ⊢;exact zge h (fun x hx=>hF _ _ hx) (fun q _ hq=>ydh (fun st r h=>zys hF n m st r (by omega) h) hq)
theorem zhl {modes:Nat->List Bool} (hR:OLe R R') {n n':Nat} (hn:n<=n') : ∀ (c:IC) (st:St) (r:Ex×St),evC modes R n c st=some r->evC modes R' n' c st=some r
 | .skip,_,_,h=>h
 | .reg ops,st,r,h=>by
  simp only [evC,bB] at h ⊢;obtain ⟨s,hs,hr⟩:=h;exact ⟨s,z79 hR ops _ _ hs,hr⟩
 | .regD ops,st,r,h=>by
  simp only [evC,bB] at h ⊢;obtain ⟨s,hs,hr⟩:=h;exact ⟨s,zyx hR ops _ _ _ _ hs,hr⟩
 | .seq a b,st,r,h=>by
  simp only [evC] at h ⊢;exact zge h (fun x hx=>zhl hR hn a st x hx) (fun q _ hq=>ydh (fun st r h=>zhl hR hn b st r h) hq)
 | .cond c x y,st,r,h=>by
  simp only [evC] at h ⊢;refine zge h (fun _ h=>h) (fun t _ ht => ?_);cases t
  ·exact zhl hR hn y st r ht
  ·exact zhl hR hn x st r ht
 | .block id c,st,r,h=>by
  simp only [evC,bB] at h ⊢;obtain ⟨s,hs,hr⟩:=h;exact ⟨s,zhl hR hn c st s hs,hr⟩
 | .loop c,st,r,h=>zys (fun st r h=>zhl hR hn c st r h) n n' st r hn h
 | .exit _,_,_,h=>h
 | .ret,_,_,h=>h
theorem qa9 {modes:Nat->List Bool} (hR:OLe R R') {n n':Nat} (hn:n<=n') {fn:IFn} {args:List PV} {r:List PV×List PV} (h:zps modes R n fn args=some r):zps modes R' n' fn args=some r:=by
 unfold zps at h ⊢;exact zge h (fun _ h=>h) (fun st _ hst=>zge hst (fun q hq=>zhl hR hn fn.body st q hq) (fun _ _ h=>h))
theorem ym2 (T:zch) : ∀ n,OLe (run T n) (run T (n+1))
 | 0=>fun f a r h=>by cases h
 | n+1=>fun f a r h=>by
  have ih:=ym2 T n;rw [run] at h ⊢;refine zge h (fun _ h=>h) (fun fu _ hfu => ?_);cases fu with
  | code fn=>exact qa9 ih (Nat.le_succ n) hfu
  | known m g=>exact hfu
  | ext g=>exact hfu
theorem zhh (T:zch) {n n':Nat} (h:n<=n'):OLe (run T n) (run T n'):=by
 induction h with
 | refl=>exact fun _ _ _ h=>h
 | step _ ih=>exact fun f a r hr=>ym2 T _ f a r (ih f a r hr)
open Classical in
noncomputable def lim {α:Type} (g:Nat->Option α):Option α:=if h : ∃ n r,g n=some r then some h.choose_spec.choose else none
theorem ym4 {α:Type} {g:Nat->Option α} (hg : ∀ n n' r,n<=n'->g n=some r->g n'=some r) {r:α}:lim g=some r↔∃ n,g n=some r:=by
 unfold lim;constructor
 ·intro h;split at h
  ·rename_i hx;have:=hx.choose_spec.choose_spec;cases h;exact ⟨_,this⟩
  ·cases h
 ·rintro ⟨n,hn⟩;have hx : ∃ n r,g n=some r:=⟨n,r,hn⟩;rw [dif_pos hx];have h1:=hx.choose_spec.choose_spec;have a:=hg _ (max n hx.choose) _ (Nat.le_max_left _ _) hn;have b:=hg _ (max n hx.choose) _ (Nat.le_max_right _ _) h1;rw [a] at b;exact b.symm
noncomputable def RUN (T:zch):zak:=fun f a=>lim fun n=>run T n f a
theorem zyn {a:List PV} {r:List PV×List PV}:RUN T f a=some r↔∃ n,run T n f a=some r :=
 ym4 (g:=fun n=>run T n f a) fun _ _ _ h hr=>zhh T h _ _ _ hr
noncomputable def zuu (F:St->Option (Ex×St)) (st:St):Option (Ex×St):=lim fun n=>zd5 F n st
theorem z8n {F:St->Option (Ex×St)} {r:Ex×St}:zuu F st=some r↔∃ n,zd5 F n st=some r :=
 ym4 (g:=fun n=>zd5 F n st) fun n n' r h hr=>zys (fun _ _ h=>h) n n' st r h hr
theorem qae (F:St->Option (Ex×St)) (st:St):zuu F st=(F st).bind (Ex.go (zuu F)):=by
 refine Option.ext fun r => ?_;rw [z8n];constructor
 ·rintro ⟨n,hn⟩;cases n with
  | zero=>cases hn
  | succ n =>
   simp only [zd5] at hn;exact zge hn (fun _ h=>h) (fun q _ hq=>ydh (fun st r h=>z8n.mpr ⟨n,h⟩) hq)
 ·intro h;obtain ⟨⟨e,st'⟩,hq,hr⟩:=bA h;cases e with
  | normal =>
   obtain ⟨n,hn⟩:=z8n.mp (show zuu F st'=some r from hr);exact ⟨n+1,by simp only [zd5]; rw [hq]; exact hn⟩
  | exit i=>exact ⟨1,by simp only [zd5]; rw [hq]; exact hr⟩
  | ret=>exact ⟨1,by simp only [zd5]; rw [hq]; exact hr⟩
noncomputable def evL (modes:Nat->List Bool) (R:zak):IC->St->Option (Ex×St)
 | .skip,st=>some (.normal,st)
 | .reg ops,st=>(zdl modes R ops { st with E:=fun _ => .undef }).map fun st=>(.normal,st)
 | .regD ops,st=>(evD modes R ops [] [] { st with E:=fun _ => .undef }).map fun st=>(.normal,st)
 | .seq a b,st=>(evL modes R a st).bind (Ex.go (evL modes R b))
 | .cond c x y,st=>(zg1 (c.get st)).bind fun t=>if t then evL modes R x st else evL modes R y st
 | .block id c,st=>(evL modes R c st).map (Ex.out id)
 | .loop c,st=>zuu (evL modes R c) st
 | .exit id,st=>some (.exit id,st)
 | .ret,st=>some (.ret,st)
theorem qac {a:List PV×List PV} {fl:Bool} (h:zg5 fl (RUN T) st f args a=some r) : ∃ n,zg5 fl (run T n) st f args a=some r:=by
 unfold zg5 at h ⊢;split at h
 ·rename_i c;obtain ⟨x,hx,h⟩:=bA h;obtain ⟨n,hn⟩:=zyn.mp hx;exact ⟨n,by rw [if_pos c,hn]; exact h⟩
 ·cases h
theorem ysl {modes:Nat->List Bool} (h:zfb modes (RUN T) st f args=some r) : ∃ n,zfb modes (run T n) st f args=some r:=by
 obtain ⟨a,ha,h⟩:=bA h;obtain ⟨n,hn⟩:=qac h;exact ⟨n,Option.bind_eq_some_iff.mpr ⟨a,ha,hn⟩⟩
theorem yob {modes:Nat->List Bool} (h:zds modes (RUN T) st f args=some r) : ∃ n,zds modes (run T n) st f args=some r:=by
 unfold zds zgm at h ⊢;cases hd:zee st (modes f) args with
 | none=>rw [hd] at h; exact ysl h
 | some d =>
  rw [hd] at h;simp only [zjm] at h ⊢;split at h
  ·cases h
  ·rename_i c;obtain ⟨q,hq,h⟩:=bA h;obtain ⟨n,hn⟩:=ysl hq;exact ⟨n,by rw [if_neg c,hn]; exact h⟩
theorem ys9 {modes:Nat->List Bool} {o:IOp} (h:zai modes (RUN T) st o=some r) : ∃ n,zai modes (run T n) st o=some r:=by
 cases o
 case call f args=>exact yob h
 case callv g args =>
  simp only [zai] at h ⊢;cases hg:g.get st <;> rw [hg] at h <;> first | exact yob h | cases h
 all_goals exact ⟨0,h⟩
theorem ydk {modes:Nat->List Bool} : ∀ (os:List zac) (st st':St),zdl modes (RUN T) os st=some st'->∃ n,zdl modes (run T n) os st=some st'
 | [],_,_,h=>⟨0,h⟩
 | o::os,st,st',h=>by
  unfold zdl at h ⊢;obtain ⟨t,ht,h⟩:=bA h;cases t with
  | true =>
   obtain ⟨x,hx,h⟩:=bA h;obtain ⟨n,hn⟩:=ys9 hx;obtain ⟨m,hm⟩:=ydk os _ _ h;refine ⟨max n m,?_⟩;rw [ht];simp only [Option.bind_some,if_true];rw [yd7 (zhh T (Nat.le_max_left n m)) hn];exact z79 (zhh T (Nat.le_max_right n m)) os _ _ hm
  | false =>
   obtain ⟨m,hm⟩:=ydk os _ _ h;exact ⟨m,by rw [ht]; exact hm⟩
theorem qf3 {modes:Nat->List Bool} {o:zac} (h:evG modes (RUN T) st o=some r) : ∃ n,evG modes (run T n) st o=some r:=by
 unfold evG at h ⊢;obtain ⟨t,ht,h⟩:=bA h;cases t with
 | true=>obtain ⟨n,hn⟩:=ys9 h; exact ⟨n,by rw [ht]; exact hn⟩
 | false=>exact ⟨0,by rw [ht]; exact h⟩
theorem yc3 {modes:Nat->List Bool} : ∀ (os:List (zac×Nat×Nat)) (todo:List (zac×PV×Nat)) (past:List St) (st r:St),evD modes (RUN T) os todo past st=some r->∃ n,evD modes (run T n) os todo past st=some r
 | [],_,_,_,_,h=>⟨0,h⟩
 | (o,b,w)::os,todo,past,st,r,h=>by
  simp only [evD] at h;obtain ⟨q,hq,h⟩:=bA h;obtain ⟨n,hn⟩:=qf3 hq;split at h
  ·rename_i c;split at h
   ·rename_i c2;obtain ⟨m,hm⟩:=yc3 os _ _ _ _ h;refine ⟨max n m,?_⟩;simp only [evD];rw [yc5 (zhh T (Nat.le_max_left n m)) hn];simp only [Option.bind_some];rw [if_pos c,if_pos c2];exact zyx (zhh T (Nat.le_max_right n m)) os _ _ _ _ hm
   ·cases h
  ·rename_i c;split at h
   ·rename_i c2;obtain ⟨m,hm⟩:=yc3 os _ _ _ _ h;refine ⟨max n m,?_⟩;simp only [evD];rw [yc5 (zhh T (Nat.le_max_left n m)) hn];simp only [Option.bind_some];rw [if_neg c,if_pos c2];exact zyx (zhh T (Nat.le_max_right n m)) os _ _ _ _ hm
   ·cases h
theorem zp4 {modes:Nat->List Bool} : ∀ (c:IC) (st:St) (r:Ex×St),evL modes (RUN T) c st=some r->∃ n,evC modes (run T n) n c st=some r
 | .skip,_,_,h=>⟨0,h⟩
 | .reg ops,st,r,h=>by
  simp only [evL,bB] at h;obtain ⟨s,hs,hr⟩:=h;obtain ⟨n,hn⟩:=ydk ops _ _ hs;exact ⟨n,by simp only [evC,hn,Option.map_some,hr]⟩
 | .regD ops,st,r,h=>by
  simp only [evL,bB] at h;obtain ⟨s,hs,hr⟩:=h;obtain ⟨n,hn⟩:=yc3 ops _ _ _ _ hs;exact ⟨n,by simp only [evC,hn,Option.map_some,hr]⟩
 | .seq a b,st,r,h=>by
  simp only [evL] at h;obtain ⟨⟨e,s⟩,hs,h⟩:=bA h;obtain ⟨n,hn⟩:=zp4 a _ _ hs;cases e with
  | normal =>
   obtain ⟨m,hm⟩:=zp4 b _ _ (show evL modes (RUN T) b s=some r from h);refine ⟨max n m,?_⟩;simp only [evC];rw [zhl (zhh T (Nat.le_max_left n m)) (Nat.le_max_left n m) a _ _ hn];exact zhl (zhh T (Nat.le_max_right n m)) (Nat.le_max_right n m) b _ _ hm
  | exit i=>exact ⟨n,by simp only [evC]; rw [hn]; exact h⟩
  | ret=>exact ⟨n,by simp only [evC]; rw [hn]; exact h⟩
 | .cond c x y,st,r,h=>by
  simp only [evL] at h;obtain ⟨t,ht,h⟩:=bA h;cases t with
  | true=>obtain ⟨n,hn⟩:=zp4 x _ _ (show evL modes (RUN T) x st=some r from h); exact ⟨n,by simp only [evC,ht,Option.bind_some,if_true]; exact hn⟩
  | false=>obtain ⟨n,hn⟩:=zp4 y _ _ (show evL modes (RUN T) y st=some r from h); exact ⟨n,by simp only [evC,ht,Option.bind_some,Bool.false_eq_true,if_false]; exact hn⟩
 | .block id c,st,r,h=>by
  simp only [evL,bB] at h;obtain ⟨s,hs,hr⟩:=h;obtain ⟨n,hn⟩:=zp4 c _ _ hs;exact ⟨n,by simp only [evC,hn,Option.map_some,hr]⟩
 | .loop c,st,r,h=>by
  obtain ⟨k,hk⟩:=z8n.mp (show zuu (evL modes (RUN T) c) st=some r from h);have go : ∀ (k:Nat) (st:St),zd5 (evL modes (RUN T) c) k st=some r->∃ n,zd5 (evC modes (run T n) n c) k st=some r:=by
   intro k
   induction k with
   | zero=>intro st h; cases h
   | succ k ih =>
    intro st h;simp only [zd5] at h;obtain ⟨⟨e,s⟩,hs,h⟩:=bA h;obtain ⟨n,hn⟩:=zp4 c _ _ hs;cases e with
    | normal =>
     obtain ⟨m,hm⟩:=ih s h;refine ⟨max n m,?_⟩;simp only [zd5];rw [zhl (zhh T (Nat.le_max_left n m)) (Nat.le_max_left n m) c _ _ hn];exact zys (fun st r h=>zhl (zhh T (Nat.le_max_right n m)) (Nat.le_max_right n m) c st r h) k k _ _ (Nat.le_refl _) hm
    | exit i=>exact ⟨n,by simp only [zd5]; rw [hn]; exact h⟩
    | ret=>exact ⟨n,by simp only [zd5]; rw [hn]; exact h⟩
  obtain ⟨n,hn⟩:=go k st hk;exact ⟨max n k,zys (fun st r h=>zhl (zhh T (Nat.le_max_left n k)) (Nat.le_max_left n k) c st r h) k (max n k) st r (Nat.le_max_right _ _) hn⟩
 | .exit _,_,_,h=>⟨0,h⟩
 | .ret,_,_,h=>⟨0,h⟩
noncomputable def zx2 (modes:Nat->List Bool) (R:zak) (fn:IFn) (args:List PV):Option (List PV×List PV) :=
 (zkp args).bind fun st=>(evL modes R fn.body st).bind (Ex.fin (zfv fn st.nx))
theorem ysr {fn:IFn} (hT:T f=some (.code fn)) {args:List PV} {r:List PV×List PV} (h:zx2 (zad T) (RUN T) fn args=some r):RUN T f args=some r:=by
 unfold zx2 at h;obtain ⟨st,hst,h⟩:=bA h;obtain ⟨q,hq,h⟩:=bA h;obtain ⟨n,hn⟩:=zp4 _ _ _ hq;refine zyn.mpr ⟨n+1,?_⟩;rw [run,hT];simp only [Option.bind_some,zps,hst,hn];exact h
theorem ycy {m:List Bool} {g:List PV->Option (List PV×List PV)} (hT:T f=some (.known m g)) {args:List PV} {r:List PV×List PV} (h:g args=some r):RUN T f args=some r :=
 zyn.mpr ⟨1,by rw [run,hT]; exact h⟩
theorem yq9 {T:zch} {f:Nat} {g:List Value->Option (List Value)} (hT:T f=some (.ext g)) {xs ys:List Value} (h:g xs=some ys):RUN T f (xs.map .v)=some (ys.map .v,[]):=by
 have e : ∀ l:List Value,zm3 (l.map .v)=some l:=by
  intro l
  induction l with
  | nil=>rfl
  | cons x l ih=>simp only [List.map_cons,zm3,ih,Option.map_some]
 exact zyn.mpr ⟨1,by rw [run,hT]; simp only [Option.bind_some,ycm,e,h,Option.map_some]⟩
end Go.Pe
namespace Go.Pe
open Go
def zdg (P:Program) (t:TypeId):Option Nat:=(P.info? t).map (·.size)
def zfq (P:Program) (t:TypeId):Option Bool:=(P.underlying t).map fun | .struct _=>true | .array _ _=>true | _=>false
def ytx (P:Program):Nat->TypeId->Option (List Nat)
 | 0,_=>none
 | n+1,t =>
  match P.underlying t with
  | some (.struct fs)=>(fs.toList.mapM fun f=>ytx P n f.type).map List.flatten
  | some (.slice e)=>(zdg P e).map fun s=>[s]
  | some (.array _ _)=>none
  | some _=>some [0]
  | none=>none
def zpy (P:Program) (t:TypeId):Option (List Nat):=(ytx P 8 t).bind fun l=>if zdg P t=some l.length then some l else none
def zpj:Value->Option PV
 | .slice none 0 0=>some .e0
 | x=>if okV x then some (.v x) else none
def ydx:Value->Nat->Option PV
 | .slice none 0 0,sz=>some (.own sz [])
 | x,_=>if okV x then some (.v x) else none
def zpk:List Value->List Nat->Option (List PV)
 | x::xs,s::ss=>(ydx x s).bind fun c=>(zpk xs ss).map (c :: ·)
 | [],[]=>some []
 | _,_=>none
def zpn (P:Program) (t:TypeId):Option (List PV):=((P.info? t).bind (·.zero)).bind fun z=>z.cells.toList.mapM zpj
def zpx (P:Program) (t:TypeId):Option (List PV):=((P.info? t).bind (·.zero)).bind fun z=>(zpy P t).bind fun l=>zpk z.cells.toList l
def zao (vars:List Nat):Operand->Option Opd
 | .tmp k=>some (if vars.contains k then .V k else .E k)
 | .const (.slice none 0 0)=>some (.C .e0)
 | .const x=>if okV x then some (.C (.v x)) else none
 | .func f=>some (.C (.fn f []))
 | .global _=>none
def zgu (vars:List Nat):Option Operand->Option (Option Opd)
 | none=>some none
 | some x=>(zao vars x).map some
def zh7 (P:Program):Nat->TypeId->Option (List Kd)
 | 0,_=>none
 | n+1,t =>
  match P.underlying t with
  | some .bool=>some [.b]
  | some (.int k)=>some [.i k]
  | some .string=>some [.s]
  | some (.struct fs)=>if P.stoodInHeld t then none else kindsFs (fun t=>zh7 P n t) P 0 fs.toList
  | _=>none
where kindsFs (f:TypeId->Option (List Kd)) (P:Program):Nat->List Field->Option (List Kd)
 | _,[]=>some []
 | off, fd :: fs => if fd.name != "_" && fd.offset == off then
   (f fd.type).bind fun l=>if zdg P fd.type=some l.length then (kindsFs f P (off+l.length) fs).map (l ++ ·) else none
  else none
def zi6 (P:Program) (vars:List Nat):List Operand->List TypeId->Option (List (List Nat×Opd))
 | x::xs,t::ts=>(zao vars x).bind fun y=>(zi6 P vars xs ts).map fun r=>((zpy P t).getD [],y)::r
 | [],[]=>some []
 | _,_=>none
def yb4:BinOp->Bool
 | .eql=>true
 | .neq=>true
 | _=>false
def zvf:BinOp->Bool
 | .neq=>true
 | _=>false
def zyr (P:Program) (op:BinOp) (t:TypeId) (x y:Opd):Option IOp :=
 match P.underlying t with
 | some .bool=>if yb4 op then some (.eqb (zvf op) [.b] x y) else none
 | some (.struct _)=>if yb4 op && !P.eqGuardType P.depth t then (zh7 P 4 t).bind fun ks=>if 2<=ks.length then some (.eqb (zvf op) ks x y) else none else none
 | some (.int _)=>some (.bin op x y)
 | some .string=>some (.bin op x y)
 | _=>none
def zpq (i:TypeInfo):Bool:=match i.zero with
 | some z=>z.cells.size == i.size
 | none=>false
def zvg (vars:List Nat) (places:List (Nat×Nat)):List (Nat×Operand)->Option (List (Nat×Nat×Opd))
 | []=>some []
 | q::qs=>(places[q.1]?).bind fun p=>(zao vars q.2).bind fun x=>(zvg vars places qs).map ((p.1,p.2,x) :: ·)
def zjj (vars:List Nat):List (Nat×Operand)->Option (List (Nat×Opd))
 | []=>some []
 | q::qs=>(zao vars q.2).bind fun x=>(zjj vars qs).map ((q.1,x) :: ·)
def zbw (P:Program) (vars:List Nat) (o:Op):Option IOp :=
 match o with
 | .move x=>(zao vars x).map .mv
 | .assign x=>(zao vars x).map .mv
 | .pick c a b=>(zao vars c).bind fun c=>(zao vars a).bind fun a=>(zao vars b).map fun b => .pick c a b
 | .alloc t=>(zpn P t).map .alloc
 | .box _ x=>(zao vars x).map .box
 | .build t parts =>
  match P.underlying t with
  | some (.struct fs)=>(zpn P t).bind fun z=>(fs.toList.mapM fun f=>(P.info? f.type).map fun i=>(f.offset,i.size)).bind fun places =>
   (zvg vars places parts.toList).map fun ps => .build z ps
  | _=>none
 | .buildSlice t n parts =>
  match P.underlying t with
  | some (.slice e)=>(zdg P e).bind fun s=>(zpx P e).bind fun z =>
   (zjj vars parts.toList).bind fun ps =>
    if n*s<=16777216/\z.length=s/\0<s then some (.bslice n s z ps) else none
  | _=>none
 | .load t a=>(zfq P t).bind fun ag=>(zdg P t).bind fun s=>(zao vars a).bind fun a=>if ag || s == 1 then some (.load ag s a) else none
 | .store t a x=>(zpy P t).bind fun l=>(zao vars a).bind fun a=>(zao vars x).map fun x => .store l a x
 | .nilCheck x=>(zao vars x).map .nilc
 | .binOp op t x y _=>(zao vars x).bind fun x=>(zao vars y).bind fun y=>zyr P op t x y
 | .unOp op _ x=>(zao vars x).map fun x => .un op x
 | .convert src dst x =>
  match P.underlying src,P.underlying dst with
  | some (.int _),some (.int k)=>(zao vars x).map fun x => .convI k x
  | some (.slice e),some .string=>match P.underlying e with
   | some (.int .u8)=>(zao vars x).map .toS
   | _=>none
  | _,_=>none
 | .makeFunc (.func f) first caps=>if first.size=0 then (caps.toList.mapM (zao vars)).map fun cs => .mkfn f cs else none
 | .makeSlice t l c =>
  match P.underlying t with
  | some (.slice e)=>(P.info? e).bind fun i=>(zpx P e).bind fun z=>(zao vars l).bind fun l=>(zao vars c).bind fun c =>
    if z.length=i.size/\0<i.size/\i.size<=i.bytes then some (.mksl i.bytes i.size z l c) else none
  | _=>none
 | .slice t x lo hi mx =>
  match P.underlying t with
  | some (.slice e)=>(zdg P e).bind fun s=>(zao vars x).bind fun x=>(zgu vars lo).bind fun lo=>(zgu vars hi).bind fun hi=>(zgu vars mx).map fun mx => .slice s x lo hi mx
  | some .string=>if mx.isNone then (zao vars x).bind fun x=>(zgu vars lo).bind fun lo=>(zgu vars hi).map fun hi => .sliceS x lo hi else none
  | _=>none
 | .fieldAddr s x f =>
  match P.underlying s with
  | some (.struct fs)=>(fs[f]?).bind fun f=>(zdg P f.type).bind fun z=>(zao vars x).bind fun x=>if z≠0 then some (.faddr f.offset x) else none
  | _=>none
 | .indexAddr t x i =>
  match P.underlying t with
  | some (.slice e)=>(zdg P e).bind fun s=>(zao vars x).bind fun x=>(zao vars i).map fun i => .iaddr s x i
  | _=>none
 | .index t x i =>
  match P.underlying t with
  | some .string=>(zao vars x).bind fun x=>(zao vars i).map fun i => .idx x i
  | _=>none
 | .extract x i=>(zao vars x).map fun x => .ext i x
 | .call c =>
  match c.callee with
  | .value (.func f)=>(zi6 P vars c.args.toList c.argTypes.toList).map fun l => .call f l
  | .value g=>(zao vars g).bind fun g=>(zi6 P vars c.args.toList c.argTypes.toList).map fun l => .callv g l
  | .builtin .len =>
   match c.args.toList,c.argTypes.toList with
   | [x],[t]=>match P.underlying t with
    | some (.slice _)=>(zao vars x).map .len
    | some .string=>(zao vars x).map .lenS
    | _=>none
   | _,_=>none
  | .builtin .append =>
   match c.args.toList,c.argTypes.toList with
   | [s,x],[t,u]=>match P.underlying t,P.underlying u with
    | some (.slice e),some (.slice _)=>(P.info? e).bind fun i=>(zao vars s).bind fun s=>(zao vars x).bind fun x=>if 0<i.size/\i.size<=i.bytes/\zpq i=true then some (.app i.bytes i.size s x) else none
    | some (.slice e),some .string=>(P.info? e).bind fun i=>(zao vars s).bind fun s=>(zao vars x).bind fun x=>if i.size=1/\i.bytes=1/\zpq i=true then some (.appS s x) else none
    | _,_=>none
   | _,_=>none
  | .builtin .max =>
   match c.args.toList with
   | [x,y]=>(zao vars x).bind fun x=>(zao vars y).map fun y => .mx true x y
   | _=>none
  | .builtin .min =>
   match c.args.toList with
   | [x,y]=>(zao vars x).bind fun x=>(zao vars y).map fun y => .mx false x y
   | _=>none
  | _=>none
 | _=>none
def zig (vars:List Nat) (nt:Nat):Option Tmp->Option (Option Dst)
 | none=>some none
 | some k=>if k<nt then some (some (if vars.contains k then .V k else .E k)) else none
def zye (vars:List Nat) (ops:Array Oper):Option (Nat×Bool)->Option (Option (Opd×Bool))
 | none=>some none
 | some (j,want)=>((ops[j]?).bind (·.dst)).map fun k=>some (if vars.contains k then .V k else .E k,want)
def zu5 (P:Program) (vars:List Nat) (nt:Nat) (ops:Array Oper) (o:Oper):Option zac :=
 (zbw P vars o.op).bind fun op=>(zig vars nt o.dst).bind fun d=>(zye vars ops o.guard).map fun g => { dst:=d,op:=op,guard:=g }
def zih (P:Program) (vars:List Nat) (nt:Nat) (ops:Array Oper):List Oper->Option (List zac)
 | []=>some []
 | o::os=>(zu5 P vars nt ops o).bind fun x=>(zih P vars nt ops os).map (x :: ·)
def zmw (ms:List Nat):List Edge->Nat
 | []=>0
 | e::es=>if Region.binds .any e then (2 ^ e.on ||| ms.getD e.on 0) ||| zmw ms es else zmw ms es
def zb5:List Oper->List Nat->List Nat
 | [],ms=>ms
 | o::os,ms=>zb5 os (ms++[zmw ms o.after.toList])
def zeq (ms:List Nat) (i j:Nat):Bool:=(ms.getD i 0).testBit j
def zf8:IOp->Bool
 | .mv _=>true
 | .pick .. => true
 | .build .. => true
 | .bin .. => true
 | .eqb .. => true
 | .un .. => true
 | .convI .. => true
 | .mkfn .. => true
 | .sliceS .. => true
 | .idx .. => true
 | .ext .. => true
 | .lenS .. => true
 | .mx .. => true
 | _=>false
def zp0:Option Opd->List Opd
 | none=>[]
 | some x=>[x]
def IOp.opds:IOp->List Opd
 | .mv x=>[x]
 | .pick c a b=>[c,a,b]
 | .alloc _=>[]
 | .box x=>[x]
 | .build _ ps=>ps.map fun q=>q.2.2
 | .bslice _ _ _ ps=>ps.map fun q=>q.2
 | .allocL _=>[]
 | .mvL x=>[x]
 | .bsliceL _ _ _ ps=>ps.map fun q=>q.2
 | .load _ _ a=>[a]
 | .store _ a x=>[a,x]
 | .nilc x=>[x]
 | .bin _ x y=>[x,y]
 | .eqb _ _ x y=>[x,y]
 | .un _ x=>[x]
 | .convI _ x=>[x]
 | .toS x=>[x]
 | .mkfn _ caps=>caps
 | .mksl _ _ _ l c=>[l,c]
 | .slice _ x lo hi m=>x::(zp0 lo++zp0 hi++zp0 m)
 | .sliceS x lo hi=>x::(zp0 lo++zp0 hi)
 | .faddr _ x=>[x]
 | .iaddr _ x i=>[x,i]
 | .idx x i=>[x,i]
 | .ext _ x=>[x]
 | .call _ args=>args.map fun q=>q.2
 | .callv g args=>g::args.map fun q=>q.2
 | .len x=>[x]
 | .lenS x=>[x]
 | .app _ _ s x=>[s,x]
 | .appS s x=>[s,x]
 | .mx _ x y=>[x,y]
def zup:Option (Opd×Bool)->List Opd
 | none=>[]
 | some (y,_)=>[y]
def zac.opds (o:zac):List Opd:=zup o.guard++o.op.opds
def Dst.code:Dst->Nat
 | .V k=>2*k
 | .E k=>2*k+1
def zyd (o:zac):Option Nat:=o.dst.map Dst.code
def Opd.code:Opd->Option Nat
 | .V k=>some (2*k)
 | .E k=>some (2*k+1)
 | .C _=>none
def zex (ios:List zac) (j:Nat):Bool:=match ios[j]? with
 | some o => !quiet o.op
 | none=>false
def zeo:IOp->Bool
 | .allocL _=>true
 | .bsliceL .. => true
 | _=>false
def zf5:IOp->IOp
 | .alloc z => .allocL z
 | .bslice n sz z ps => .bsliceL n sz z ps
 | o=>o
def z77:IOp->Bool
 | .alloc _=>true
 | .bslice .. => true
 | _=>false
def z9k (ms:List Nat) (ios:List zac):List zac:=ios.zipIdx.map fun q =>
 if z77 q.1.op && (List.range q.2).any (fun j=>zex ios j && !zeq ms q.2 j) then { q.1 with op:=zf5 q.1.op } else q.1
def lzB (ios:List zac) (j:Nat):Bool:=match ios[j]? with
 | some o=>zeo o.op
 | none=>false
def zld (ios:List zac) (k:Nat):Bool:=zex ios k && !lzB ios k
def bOf (ms:List Nat) (ios:List zac) (o:zac) (i:Nat):Nat :=
 if quiet o.op && !zf8 o.op then (List.range i).countP (zex ios)-(List.range ios.length).countP (fun j=>zex ios j && zeq ms i j) else 0
def upB (ms:List Nat) (ios:List zac) (i j:Nat):Bool := !zeq ms j i && (!lzB ios j || (List.range ios.length).any fun k=>decide (j<k) && zld ios k && !zeq ms k i)
def wOf (ms:List Nat) (ios:List zac) (o:zac) (i:Nat):Nat :=
 if quiet o.op && !zf8 o.op then (List.range ios.length).countP (fun j=>zex ios j && upB ms ios i j)-(List.range i).countP (zex ios) else 0
def bws (ms:List Nat) (ios:List zac):List (zac×Nat×Nat):=ios.zipIdx.map fun q=>(q.1,bOf ms ios q.1 q.2,wOf ms ios q.1 q.2)
def zpg (md:Region.Mode) (rk:Nat->Nat) (ops:List Oper):Bool :=
 ops.zipIdx.all fun q=>q.1.after.toList.all fun e => !Region.binds md e || (decide (e.on<ops.length) && decide (rk e.on<rk q.2))
def yon (e:Edge):Bool:=match e.ground with
 | .gcOnly _=>true
 | _=>false
def yqz (ops:List Oper):Bool:=ops.any fun o=>o.after.toList.any yon
def yt4 (es:List (List Nat)):Nat->List Nat->List Nat
 | 0,done=>done
 | n+1,done=>match (List.range es.length).find? (fun i => !done.contains i && (es.getD i []).all done.contains) with
  | some i=>yt4 es n (done++[i])
  | none=>done
def qg1 (ops:List Oper):Nat->Nat :=
 fun i=>(yt4 (ops.map fun o=>(o.after.toList.filter (Region.binds .gc)).map (·.on)) ops.length []).idxOf i
def yna (ms:List Nat) (ios:List zac):Bool :=
 ios.zipIdx.all fun q=>q.1.opds.all fun y=>match y.code with
  | some c=>ios.zipIdx.all fun p => !(zyd p.1 == some c) || (zeq ms q.2 p.2 || (zf8 q.1.op && zeq ms p.2 q.2))
  | none=>true
def yrx (ms:List Nat) (ios:List zac):Bool :=
 (List.range ios.length).all fun j => !zld ios j || (List.range j).all fun i => !zex ios i || zeq ms j i
def yba (ms:List Nat) (ios:List zac):Bool :=
 (List.range ios.length).all fun j => !lzB ios j || ((List.range ios.length).any (fun k=>decide (j<k) && zld ios k) &&
  (List.range ios.length).all fun i => !zeq ms i j || (!lzB ios i && (zex ios i || (List.range ios.length).any fun k=>decide (j<k) && zld ios k && zeq ms i k)))
def dOk (rk:Nat->Nat) (ops:List Oper) (ios:List zac) (ms:List Nat):Bool :=
 (List.range ms.length).all (fun i=>decide (ms.getD i 0<2 ^ i)) && zez (ios.filterMap zyd) && yna ms ios && yrx ms ios && yba ms ios &&
  zpg .text rk ops && (!yqz ops || zpg .gc (qg1 ops) ops)
def qfz:IOp->IOp
 | .mv x => .mvL x
 | o=>o
def qfh:IOp->Bool
 | .mv _=>true
 | _=>false
def z7x (b:Bool) (ms:List Nat) (ios:List zac):List zac:=ios.zipIdx.map fun q =>
 if b && qfh q.1.op && (List.range q.2).any (fun j=>lzB ios j && zeq ms q.2 j) && (List.range q.2).all (fun j => !zex ios j || zeq ms q.2 j) then { q.1 with op:=qfz q.1.op } else q.1
def zjb (b:Bool) (ms:List Nat) (ios:List zac):List zac:=z7x b ms (z9k ms ios)
def z9m (P:Program) (vars:List Nat) (nt:Nat) (b:Bool) (rk:Nat->Nat) (ops:Array Oper):Option IC :=
 (zih P vars nt ops ops.toList).bind fun ios =>
  if dOk rk ops.toList (zjb b (zb5 ops.toList []) ios) (zb5 ops.toList []) then some (.regD (bws (zb5 ops.toList []) (zjb b (zb5 ops.toList []) ios))) else none
def yoi (ord:List Nat) (e:Edge):Edge := { e with on:=ord.idxOf e.on }
def z71 (ord:List Nat) (o:Oper):Oper := { o with after:=o.after.map (yoi ord),guard:=o.guard.map fun g=>(ord.idxOf g.1,g.2) }
def zf2 (ops:Array Oper) (ord:List Nat):Array Oper:=(ord.map fun i=>z71 ord (ops.getD i default)).toArray
def z8r (n:Nat) (ord:List Nat):Bool:=ord.length == n && (List.range n).all ord.contains && ord.all (fun i=>decide (i<n)) && (List.range n).all (fun k=>ord.idxOf (ord.getD k 0) == k)
def yd0 (ops:List Oper) (es:List (List Nat)) (late:Oper->Bool):Nat->List Nat->List Nat
 | 0,done=>done
 | n+1,done =>
  let rdy:=(List.range ops.length).filter fun i => !done.contains i && (es.getD i []).all done.contains
  match rdy.find? (fun i => !((ops[i]?).map late).getD false) with
  | some i=>yd0 ops es late n (done++[i])
  | none=>match rdy with
   | i::_=>yd0 ops es late n (done++[i])
   | []=>done
def qeg (o:Oper):Bool:=match o.op with
 | .buildSlice .. => true
 | _=>false
def yde (ops:List Oper):List Nat:=yd0 ops (ops.map fun o=>(o.after.toList.filter (Region.binds .any)).map (·.on)) qeg ops.length []
def ycs (P:Program) (vars:List Nat) (nt:Nat) (ops:Array Oper):Option IC :=
 match z9m P vars nt false id ops with
 | some x=>some x
 | none=>if z8r ops.size (yde ops.toList) then z9m P vars nt true (fun k=>(yde ops.toList).getD k 0) (zf2 ops (yde ops.toList)) else none
def zek (P:Program) (vars:List Nat) (nt:Nat):Code->Option IC
 | .skip=>some .skip
 | .region _ ops draw=>if draw then ycs P vars nt ops else (zih P vars nt ops ops.toList).map .reg
 | .seq a b=>(zek P vars nt a).bind fun a=>(zek P vars nt b).map fun b => .seq a b
 | .cond c x y=>(zao vars c).bind fun c=>(zek P vars nt x).bind fun x=>(zek P vars nt y).map fun y => .cond c x y
 | .block id c=>(zek P vars nt c).map fun c => .block id c
 | .loop c=>(zek P vars nt c).map .loop
 | .exit id=>some (.exit id)
 | .ret=>some .ret
 | _=>none
def z73 (P:Program) (vars:List Nat) (r:ResultVar) (t:TypeId):Option RV :=
 match r with
 | .tmp k=>(zpy P t).bind fun l=>if vars.contains k then some (.tmp l k) else none
 | .cell k u=>(zpy P u).bind fun l=>(zfq P u).bind fun ag=>if vars.contains k && (ag || l.length == 1) then some (.cell l k ag) else none
def zjl (P:Program) (vars:List Nat):List ResultVar->List TypeId->Option (List RV)
 | r::rs,t::ts=>(z73 P vars r t).bind fun x=>(zjl P vars rs ts).map (x :: ·)
 | [],[]=>some []
 | _,_=>none
end Go.Pe
namespace Go.Pe
open Go
variable {st:St} {k:IntKind} {x:Value} {m:Nat->List Bool} {R:zak} {b:Int} {i s o ep lo ce e n j f sz id io:Nat} {l:List (Nat×PV)} {es:List (List PV)} {cs caps:List PV} {p:Option (Nat×Nat)} {args xs:List (List Nat×PV)} {r:List RV} {ms:List Bool} {d:Sub} {ag:Bool}
abbrev ki (n:Int):Opd := .C (.v (.int .i64 n))
abbrev kb (b:Bool):Opd := .C (.v (.bool b))
abbrev iv (n:Int):PV := .v (.int .i64 n)
abbrev oE (n:Nat) (o:IOp):zac:=⟨some (.E n),o,none⟩
abbrev mV (n k:Nat):zac:=⟨some (.E n),.mv (.V k),none⟩
abbrev vE (n k:Nat):zac:=⟨some (.V n),.mv (.E k),none⟩
abbrev xE (n i k:Nat):zac:=⟨some (.E n),.ext i (.E k),none⟩
abbrev oV (n:Nat) (o:IOp):zac:=⟨some (.V n),o,none⟩
abbrev oN (o:IOp):zac:=⟨none,o,none⟩
abbrev bv (b:Bool):PV := .v (.bool b)
abbrev zaa (ic:IC) (rv:List RV) (ms:List Bool):Fun := .code ⟨ms,rv,ic⟩
@[simp] theorem q3j (k:Nat):Opd.get st (.V k)=st.V k:=rfl
@[simp] theorem qrp (k:Nat):Opd.get st (.E k)=st.E k:=rfl
@[simp] theorem qxn (x:PV):Opd.get st (.C x)=x:=rfl
@[simp] theorem qvs (x:PV):st.put none x=st:=rfl
@[simp] theorem y9w (st:St) (k:Nat) (x:PV):st.put (some (.V k)) x = { st with V:=upd st.V k x }:=rfl
@[simp] theorem y9x (st:St) (k:Nat) (x:PV):st.put (some (.E k)) x = { st with E:=upd st.E k x }:=rfl
@[simp] theorem zar {α:Type} (f:Nat->α) (k:Nat) (x:α) (i:Nat):upd f k x i=if i=k then x else f i:=rfl
@[simp] theorem qrb (x:Opd):zai m R st (.mv x)=some (x.get st,st):=rfl
@[simp] theorem q0x (c a b:Opd):zai m R st (.pick c a b)=(zg1 (c.get st)).map fun t=>(if t then a.get st else b.get st,st):=rfl
@[simp] theorem qw8 (z:List PV):zai m R st (.alloc z)=some (zb9 st z):=rfl
@[simp] theorem qa3 (m:Nat->List Bool) (R:zak) (st:St) (x:Opd):zai m R st (.box x)=if (cellsOf (x.get st)).all zcz then some (zb9 st (cellsOf (x.get st))) else none:=rfl
@[simp] theorem qt8 (z:List PV) (ps:List (Nat×Nat×Opd)):zai m R st (.build z ps)=(zgr z (ps.map fun q=>(q.1,q.2.1,q.2.2.get st))).map fun cs=>(.agg cs,st):=rfl
@[simp] theorem qdm (m:Nat->List Bool) (R:zak) (st:St) (n sz:Nat) (z:List PV) (ps:List (Nat×Opd)):zai m R st (.bslice n sz z ps)=if (zc7 st (zb8 st ps)).any fun q=>(cellsOf q.2).any isF then (zie z (List.replicate n (z.map fz)) (zc7 st (zb8 st ps))).map fun es=>zhu (zdb st (zb8 st ps)) sz es else (zda (zdb st (zb8 st ps)) z (List.replicate n z) (zc7 st (zb8 st ps))).map fun q=>newRow q.2 sz q.1:=rfl
@[simp] theorem qtk:zc7 st []=[]/\zdb st []=st:=⟨rfl,rfl⟩
@[simp] theorem qrf:zc7 st ((i,.v x)::l)=(i,.v x)::l:=by cases l <;> rfl
@[simp] theorem qx8:zdb st ((i,.v x)::l)=st:=by cases l <;> rfl
@[simp] theorem q0o:zc7 st ((i,.e0)::l)=(i,.e0)::l:=by cases l <;> rfl
@[simp] theorem qv4:zdb st ((i,.e0)::l)=st:=by cases l <;> rfl
@[simp] theorem q0c:zc7 st ((i,.sl s es)::l)=(i,.sl s es)::l:=by cases l <;> rfl
@[simp] theorem q38:zdb st ((i,.sl s es)::l)=st:=by cases l <;> rfl
@[simp] theorem q5a:zc7 st ((i,.agg cs)::l)=(i,.agg cs)::l:=by cases l <;> rfl
@[simp] theorem qyj:zdb st ((i,.agg cs)::l)=st:=by cases l <;> rfl
@[simp] theorem qrg (o ep lo len:Nat):zc7 st ((i,.ref o none ep lo len)::l)=(i,.ref o none ep lo len)::l:=by cases l <;> rfl
@[simp] theorem q2c (o ep lo len:Nat):zdb st ((i,.ref o none ep lo len)::l)=st:=by cases l <;> rfl
@[simp] theorem q12:zc7 st ((i,.own s es)::l)=(i,.own s es)::l:=by cases l <;> rfl
@[simp] theorem qrq:zdb st ((i,.own s es)::l)=st:=by cases l <;> rfl
@[simp] theorem qz1 (p q:Nat×PV):zc7 st (p::q::l)=p::q::l:=by
 obtain ⟨i,x⟩:=p; cases x <;> first | rfl | (rename_i o p _ _ _; cases p <;> rfl)
@[simp] theorem qs8 (p q:Nat×PV):zdb st (p::q::l)=st:=by
 obtain ⟨i,x⟩:=p; cases x <;> first | rfl | (rename_i o p _ _ _; cases p <;> rfl)
@[simp] theorem q31 (i o a b ep lo len:Nat):zc7 st [(i,.ref o (some (a,b)) ep lo len)]=(zkq st.ep a b ep lo len (st.S o)).elim [(i,.ref o (some (a,b)) ep lo len)] fun r=>[(i,.sl r.1.1 r.1.2)]:=rfl
@[simp] theorem qvm (i o a b ep lo len:Nat):zdb st [(i,.ref o (some (a,b)) ep lo len)]=(zkq st.ep a b ep lo len (st.S o)).elim st fun r => { st with S:=upd st.S o (some r.2),ep:=st.ep+1 }:=rfl
@[simp] theorem qyw (ce a b ep lo len s:Nat):zkq ce a b ep lo len (some (.row s es))=if ep=ce then (zbd es a b).map fun r=>((r.1,cut r.2 lo len),.rowF s (es.map fun e=>e.map fz)) else none:=rfl
@[simp] theorem quc (S:Nat->Option Ob):yb7 S o=zf4 (S o):=rfl
@[simp] theorem q13:zf4 none=none:=rfl
@[simp] theorem q4w:zf4 (some (.row s es))=some (.row s es):=rfl
@[simp] theorem q4s:zf4 (some (.rowF s es))=some (.rowF s es):=rfl
@[simp] theorem qxb:zf4 (some (.box cs))=some (.box cs):=rfl
@[simp] theorem qwf:zf4 (some (.shadow s es e))=none:=rfl
@[simp] theorem qsj (x:Opd):zai m R st (.mvL x)=some (x.get st,st):=rfl
@[simp] theorem qp3 (z:List PV):zai m R st (.allocL z)=some (zb9 st z):=rfl
@[simp] theorem qgj (m:Nat->List Bool) (R:zak) (st:St) (n sz:Nat) (z:List PV) (ps:List (Nat×Opd)):zai m R st (.bsliceL n sz z ps)=(zda st z (List.replicate n z) (zb8 st ps)).map fun q=>newRow q.2 sz q.1:=rfl
@[simp] theorem qaa (m:Nat->List Bool) (R:zak) (st:St) (ag:Bool) (sz:Nat) (a:Opd):zai m R st (.load ag sz a)=(loadCells st sz (a.get st)).bind fun cs=>(zlc ag cs).map fun x=>(x,st):=rfl
@[simp] theorem qea (m:Nat->List Bool) (R:zak) (st:St) (szs:List Nat) (a x:Opd):zai m R st (.store szs a x)=(storeAt st szs (a.get st) (x.get st)).map fun st=>(.undef,st):=rfl
@[simp] theorem qur (x:Opd):zai m R st (.nilc x)=(ziu st (x.get st)).map fun r=>(r,st):=rfl
@[simp] theorem qrh (op:BinOp) (x y:Opd):zai m R st (.bin op x y)=(zmr op (x.get st) (y.get st)).map fun r=>(r,st):=rfl
@[simp] theorem qsr (n:Bool) (ks:List Kd) (x y:Opd):zai m R st (.eqb n ks x y)=(eqP ks (x.get st) (y.get st)).map fun b=>(.v (.bool (b != n)),st):=rfl
@[simp] theorem qyz (op:UnOp) (x:Opd):zai m R st (.un op x)=(unP op (x.get st)).map fun r=>(r,st):=rfl
@[simp] theorem qyg (x:Opd):zai m R st (.convI k x)=(zhi (x.get st)).map fun n=>(.v (.int k (k.wrap n)),st):=rfl
@[simp] theorem qgb (m:Nat->List Bool) (R:zak) (st:St) (x:Opd):zai m R st (.toS x)=(zfj st (x.get st)).bind fun r=>(zlb r.2).map fun l=>(.v (.string ⟨l.toArray⟩),st):=rfl
@[simp] theorem qe0 (m:Nat->List Bool) (R:zak) (st:St) (f:Nat) (caps:List Opd):zai m R st (.mkfn f caps)=if (caps.map (Opd.get st)).all zpb then some (.fn f (caps.map (Opd.get st)),st) else none:=rfl
@[simp] theorem qzh:zpb (.ptr o p ep i j)=true:=rfl
@[simp] theorem qxh:zpb (.fptr cs j)=true:=rfl
@[simp] theorem qb3 (m:Nat->List Bool) (R:zak) (st:St) (b sz:Nat) (z:List PV) (l c:Opd):zai m R st (.mksl b sz z l c)=(zb4 (l.get st)).bind fun n=>(zb4 (c.get st)).bind fun m=>if n<=m/\zag b m then some (newRow st sz (List.replicate n z)) else none:=rfl
@[simp] theorem qhh (m:Nat->List Bool) (R:zak) (st:St) (sz:Nat) (x:Opd) (lo hi mx:Option Opd):zai m R st (.slice sz x lo hi mx)=(zbq st lo).bind fun l=>(zbq st hi).bind fun h=>(zbq st mx).bind fun m=>(zk3 st sz (x.get st) l h m).map fun r=>(r,st):=rfl
@[simp] theorem qu4 (off:Nat) (x:Opd):zai m R st (.faddr off x)=(zic st off (x.get st)).map fun r=>(r,st):=rfl
@[simp] theorem qcu (m:Nat->List Bool) (R:zak) (st:St) (sz:Nat) (x i:Opd):zai m R st (.iaddr sz x i)=(zb4 (i.get st)).bind fun k=>(iaddr st sz k (x.get st)).map fun r=>(r,st):=rfl
@[simp] theorem qbq (m:Nat->List Bool) (R:zak) (st:St) (x i:Opd):zai m R st (.idx x i)=(zcw (x.get st)).bind fun s=>(zb4 (i.get st)).bind fun k=>(s[k]?).map fun b=>(.v (.int .u8 (b.toNat:Int)),st):=rfl
@[simp] theorem qox (x:Opd):zai m R st (.ext i x)=(zm0 i (x.get st)).map fun r=>(r,st):=rfl
@[simp] theorem qx2 (args:List (List Nat×Opd)):zai m R st (.call f args)=zds m R st f (args.map fun q=>(q.1,q.2.get st)):=rfl
@[simp] theorem qqk (g:Opd) (args:List (List Nat×Opd)):zai m R st (.callv g args)=zp2 m R st (args.map fun q=>(q.1,q.2.get st)) (g.get st):=rfl
@[simp] theorem qup:zp2 m R st args (.fn f caps)=zds m R st f (args++caps.map fun c=>([],c)):=rfl
@[simp] theorem qpd (x:Opd):zai m R st (.len x)=(lenOf st (x.get st)).map fun (n:Nat)=>(.v (.int .i64 (n:Int)),st):=rfl
@[simp] theorem qrw (b sz:Nat) (s x:Opd):zai m R st (.app b sz s x)=zkn st b sz (s.get st) (x.get st):=rfl
@[simp] theorem qvp (big:Bool) (x y:Opd):zai m R st (.mx big x y)=(mxP big (x.get st) (y.get st)).map fun r=>(r,st):=rfl
@[simp] theorem q2i:zdl m R [] st=some st:=rfl
@[simp] theorem qbt (m:Nat->List Bool) (R:zak) (st:St) (d:Option Dst) (op:IOp) (os:List zac):zdl m R (⟨d,op,none⟩::os) st=(zai m R st op).bind fun r=>zdl m R os (r.2.put d r.1):=by simp [zdl,zcv]
@[simp] theorem qd3 (m:Nat->List Bool) (R:zak) (st:St) (d:Option Dst) (op:IOp) (g:Opd) (w:Bool) (os:List zac):zdl m R (⟨d,op,some (g,w)⟩::os) st=(zia w (g.get st)).bind fun t=>if t then (zai m R st op).bind fun r=>zdl m R os (r.2.put d r.1) else zdl m R os (st.put d (.v Go.undef)):=rfl
@[simp] theorem qol (w b:Bool):zia w (.v (.bool b))=some (b == w):=rfl
@[simp] theorem q01 (w:Bool):zia w (.v Go.undef)=some false:=rfl
@[simp] theorem qpm:evL m R .skip st=some (.normal,st):=rfl
@[simp] theorem qgm (m:Nat->List Bool) (R:zak) (st:St) (ops:List zac):evL m R (.reg ops) st=(zdl m R ops { st with E:=fun _ => .undef }).map fun st=>(.normal,st):=rfl
@[simp] theorem yrq (m:Nat->List Bool) (R:zak) (st:St) (a b:IC):evL m R (.seq a b) st=(evL m R a st).bind (Ex.go (evL m R b)):=rfl
@[simp] theorem qhw (m:Nat->List Bool) (R:zak) (st:St) (c:Opd) (x y:IC):evL m R (.cond c x y) st=(zg1 (c.get st)).bind fun t=>if t then evL m R x st else evL m R y st:=rfl
@[simp] theorem qfu (m:Nat->List Bool) (R:zak) (st:St) (id:Nat) (c:IC):evL m R (.block id c) st=(evL m R c st).map (Ex.out id):=rfl
theorem z7w (m:Nat->List Bool) (R:zak) (st:St) (c:IC):evL m R (.loop c) st=(evL m R c st).bind (Ex.go (evL m R (.loop c))):=qae _ _
@[simp] theorem qrk:evL m R (.exit id) st=some (.exit id,st):=rfl
@[simp] theorem qya:evL m R .ret st=some (.ret,st):=rfl
@[simp] theorem qvw (k:St->Option (Ex×St)):Ex.go k (.normal,st)=k st:=rfl
@[simp] theorem q1s (k:St->Option (Ex×St)):Ex.go k (.exit i,st)=some (.exit i,st):=rfl
@[simp] theorem q37 (k:St->Option (Ex×St)):Ex.go k (.ret,st)=some (.ret,st):=rfl
@[simp] theorem qs6:Ex.out id (.exit i,st)=(if i=id then .normal else .exit i,st):=rfl
@[simp] theorem q3b:Ex.out id (.normal,st)=(.normal,st):=rfl
@[simp] theorem qsy:Ex.out id (.ret,st)=(.ret,st):=rfl
@[simp] theorem qs7 (k:St->Option (List PV×List PV)):Ex.fin k (.normal,st)=k st:=rfl
@[simp] theorem q1l (k:St->Option (List PV×List PV)):Ex.fin k (.ret,st)=k st:=rfl
@[simp] theorem q3a (b:Bool):zg1 (.v (.bool b))=some b:=rfl
@[simp] theorem qqv (n:Int):zhi (.v (.int k n))=some n:=rfl
@[simp] theorem q0b (s:ByteArray):zcw (.v (.string s))=some s:=rfl
@[simp] theorem qeb (k:IntKind) (n:Nat):zb4 (.v (.int k (n:Int)))=some n:=by simp [zb4,zhi]
@[simp] theorem q22:zb4 (.v (.int k 0))=some 0:=by simp [zb4,zhi]
@[simp] theorem qra (op:BinOp) (a b:Value):zmr op (.v a) (.v b)=(zbc op a b).map .v:=rfl
@[simp] theorem qsn (op:UnOp) (a:Value):unP op (.v a)=(unV op a).map .v:=rfl
@[simp] theorem ybq (k:IntKind) (a b:Int):zbc .add (.int k a) (.int k b)=some (.int k (k.wrap (a+b))):=by simp [zbc]
@[simp] theorem q4g (a b:Int):zbc .sub (.int k a) (.int k b)=some (.int k (k.wrap (a-b))):=by simp [zbc]
@[simp] theorem ycz (k:IntKind) (a b:Int):zbc .mul (.int k a) (.int k b)=some (.int k (k.wrap (a*b))):=by simp [zbc]
@[simp] theorem q1z (a b:Int):zbc .eql (.int k a) (.int k b)=some (.bool (decide (a=b))):=by simp [zbc]; rfl
@[simp] theorem qtd (a b:Int):zbc .neq (.int k a) (.int k b)=some (.bool (!decide (a=b))):=by simp [zbc]; rfl
@[simp] theorem q06 (a b:Int):zbc .lss (.int k a) (.int k b)=some (.bool (decide (a<b))):=by simp [zbc]
@[simp] theorem que (a b:Int):zbc .leq (.int k a) (.int k b)=some (.bool (decide (a<=b))):=by simp [zbc]
@[simp] theorem qx0 (a b:Int):zbc .gtr (.int k a) (.int k b)=some (.bool (decide (a > b))):=by simp [zbc]
@[simp] theorem q4m (a b:Int):zbc .geq (.int k a) (.int k b)=some (.bool (decide (a ≥ b))):=by simp [zbc]
@[simp] theorem yb9 (k:IntKind) (a b:Int):zbc .and (.int k a) (.int k b)=some (.int k (k.wrap (BitVec.ofInt k.bits a &&& BitVec.ofInt k.bits b).toNat)):=by simp [zbc]
@[simp] theorem qth (a b:Int):zbc .or (.int k a) (.int k b)=some (.int k (k.wrap (BitVec.ofInt k.bits a ||| BitVec.ofInt k.bits b).toNat)):=by simp [zbc]
@[simp] theorem qy0 (a b:Int):zbc .xor (.int k a) (.int k b)=some (.int k (k.wrap (BitVec.ofInt k.bits a ^^^ BitVec.ofInt k.bits b).toNat)):=by simp [zbc]
@[simp] theorem quf (a b:Int):zbc .quo (.int k a) (.int k b)=if b≠0 then some (.int k (k.wrap (a.tdiv b))) else none:=by simp [zbc]
@[simp] theorem qpl (a b:Int):zbc .rem (.int k a) (.int k b)=if b≠0 then some (.int k (a.tmod b)) else none:=by simp [zbc]
@[simp] theorem yny (k k':IntKind) (a b:Int):zbc .shl (.int k a) (.int k' b)=if 0<=b then some (.int k (k.wrap (a*2 ^ min b.toNat k.bits))) else none:=by simp [zbc]
@[simp] theorem ydv (k k':IntKind) (a b:Int):zbc .shr (.int k a) (.int k' b)=if 0<=b then some (.int k (a.fdiv (2 ^ min b.toNat k.bits))) else none:=by simp [zbc]
@[simp] theorem q2t (a b:ByteArray):zbc .add (.string a) (.string b)=if ((a.size+b.size:Nat):Int)<=IntKind.i64.max then some (.string (a++b)) else none:=by simp [zbc]
@[simp] theorem qw5 (a b:ByteArray):zbc .eql (.string a) (.string b)=some (.bool (a.toList == b.toList)):=by simp [zbc]
@[simp] theorem q07 (a b:ByteArray):zbc .neq (.string a) (.string b)=some (.bool !(a.toList == b.toList)):=by simp [zbc]
@[simp] theorem qo6 (a:Int):unV .neg (.int k a)=some (.int k (k.wrap (0-a))):=rfl
@[simp] theorem qt0 (b:Bool):unV .not (.bool b)=some (.bool !b):=rfl
@[simp] theorem qqd:newRow st sz es=(.ref st.nx none st.ep 0 es.length,{ st with S:=upd st.S st.nx (some (.row sz es)),nx:=st.nx+1 }):=rfl
@[simp] theorem qqf:zhu st sz es=(.ref st.nx none st.ep 0 es.length,{ st with S:=upd st.S st.nx (some (.rowF sz es)),nx:=st.nx+1 }):=rfl
@[simp] theorem qp5:zb9 st cs=(.ptr st.nx none st.ep 0 0,{ st with S:=upd st.S st.nx (some (.box cs)),nx:=st.nx+1 }):=rfl
@[simp] theorem qu8:zfd st o p ep=zav st.ep (st.S o) p ep:=rfl
@[simp] theorem zjc (ce sz:Nat) (es:List (List PV)) (ep:Nat):zav ce (some (.row sz es)) none ep=some (sz,es):=rfl
@[simp] theorem zfn (ce sz:Nat) (es:List (List PV)) (ep:Nat) (i j:Nat):zav ce (some (.row sz es)) (some (i,j)) ep=if ep=ce then zbd es i j else none:=rfl
@[simp] theorem ya4 (ce sz:Nat) (es:List (List PV)) (ep:Nat):zav ce (some (.rowF sz es)) none ep=some (sz,es):=rfl
@[simp] theorem zyg (ce sz:Nat) (es:List (List PV)) (ep:Nat) (e:Nat):zav ce (some (.shadow sz es e)) none ep=if e=ce then some (sz,es) else none:=rfl
@[simp] theorem qqz:zav ce none p ep=none:=rfl
@[simp] theorem qsk (lo len:Nat):cut es lo len=if lo=0/\len=es.length then es else (es.drop lo).take len:=rfl
@[simp] theorem qvi:zfj st (.sl sz es)=some (sz,es):=rfl
@[simp] theorem quw (ep lo len:Nat):zfj st (.ref o p ep lo len)=(zfd st o p ep).map fun r=>(r.1,cut r.2 lo len):=rfl
@[simp] theorem qq9:fz (.v x) = .v x:=rfl
@[simp] theorem q3z:fz (.own sz es) = .sl sz es:=rfl
@[simp] theorem qsp:fz (.sl sz es) = .sl sz es:=rfl
@[simp] theorem qv7:rd o ep i j (.v x) = .v x:=rfl
@[simp] theorem qto:rd o ep i j (.own sz es) = .ref o (some (i,j)) ep 0 es.length:=rfl
@[simp] theorem qtc:zht o ep i j []=[]:=rfl
@[simp] theorem q3i (c:PV):zht o ep i j (c::cs)=rd o ep i j c::zht o ep i (j+1) cs:=rfl
@[simp] theorem qwl:rdV (.v x) = .v x:=rfl
@[simp] theorem q1o:seg cs j sz=if j+sz<=cs.length then some ((cs.drop j).take sz) else none:=rfl
@[simp] theorem ymq (cs:List PV):zlc true cs=some (.agg cs):=rfl
@[simp] theorem ynt (c:PV):zlc false [c]=some c:=rfl
@[simp] theorem qg9 (st:St) (sz:Nat) (cs:List PV) (j:Nat):loadCells st sz (.fptr cs j)=(seg cs j sz).map (·.map fz):=rfl
@[simp] theorem qf2 (st:St) (sz o:Nat) (p:Option (Nat×Nat)) (ep i j:Nat):loadCells st sz (.ptr o p ep i j)=zir st.ep o sz (st.S o) p ep i j:=rfl
@[simp] theorem qaj (ce o sz:Nat) (cs:List PV) (ep i j:Nat):zir ce o sz (some (.box cs)) none ep i j=if i=0 then seg cs j sz else none:=rfl
@[simp] theorem qaz (ce o sz:Nat) (s:Nat) (es:List (List PV)) (ep i j:Nat):zir ce o sz (some (.row s es)) none ep i j=(es[i]?).bind fun cs=>(seg cs j sz).map (zht o ce i j):=rfl
@[simp] theorem qbk (ce o sz:Nat) (s:Nat) (es:List (List PV)) (a b ep i j:Nat):zir ce o sz (some (.row s es)) (some (a,b)) ep i j=if ep=ce then (zbd es a b).bind fun r=>(r.2[i]?).bind fun cs=>(seg cs j sz).map (·.map rdV) else none:=rfl
@[simp] theorem qd0 (ce o sz:Nat) (s:Nat) (es:List (List PV)) (ep i j:Nat):zir ce o sz (some (.rowF s es)) none ep i j=(es[i]?).bind fun cs=>(seg cs j sz).map (·.map fz):=rfl
@[simp] theorem qhu (ce o sz:Nat) (s:Nat) (es:List (List PV)) (e ep i j:Nat):zir ce o sz (some (.shadow s es e)) none ep i j=if e=ce then (es[i]?).bind fun cs=>(seg cs j sz).map (·.map rdV) else none:=rfl
@[simp] theorem qoy:cellsOf (.agg cs)=cs:=rfl
@[simp] theorem q3u:cellsOf (.v x)=[.v x]:=rfl
@[simp] theorem qso  : cellsOf (.e0)=[.e0]:=rfl
@[simp] theorem qsb:cellsOf (.sl sz es)=[.sl sz es]:=rfl
@[simp] theorem qqm (ep lo len:Nat):cellsOf (.ref o p ep lo len)=[.ref o p ep lo len]:=rfl
@[simp] theorem yd6 (st:St) (sz:Nat) (x:Value):zfh st sz (.v x)=if okV x then some (.v x,st) else none:=rfl
@[simp] theorem qfa (st:St) (sz:Nat):zfh st sz .e0=some (.own sz [],st):=rfl
@[simp] theorem qha (st:St) (sz o:Nat) (p:Option (Nat×Nat)) (ep lo len:Nat):zfh st sz (.ref o p ep lo len)=zf3 st o (st.S o) p lo len:=rfl
@[simp] theorem qdi (st:St) (o s:Nat) (es:List (List PV)) (lo len:Nat):zf3 st o (some (.row s es)) none lo len=if lo=0/\len=es.length then some (.own s es,{ st with S:=upd st.S o (some (.shadow s es st.ep)) }) else none:=rfl
@[simp] theorem yby (st:St) (sz:Nat) (szs:List Nat) (c:PV) (cs:List PV):zdi st (sz::szs) (c::cs)=(zfh st sz c).bind fun r=>(zdi r.2 szs cs).bind fun q=>some (r.1::q.1,q.2):=rfl
@[simp] theorem q4p:zdi st [] []=some ([],st):=rfl
@[simp] theorem qzs:toF sz (.v x)=if okV x then some (.v x) else none:=rfl
@[simp] theorem qq8:toF sz .e0=some (.sl sz []):=rfl
@[simp] theorem qxx:toF sz (.sl s es)=some (.sl s es):=rfl
@[simp] theorem qqr (szs:List Nat) (c:PV):ze2 (sz::szs) (c::cs)=(toF sz c).bind fun x=>(ze2 szs cs).bind fun xs=>some (x::xs):=rfl
@[simp] theorem qoq  : ze2 [] []=some []:=rfl
@[simp] theorem qx6 (b:Bool):okV (.bool b)=true:=rfl
@[simp] theorem q08 (n:Int):okV (.int k n)=true:=rfl
@[simp] theorem qzz (s:ByteArray):okV (.string s)=true:=rfl
@[simp] theorem qs9:zcz (.v x)=okV x:=rfl
@[simp] theorem qpy  : zcz .e0=true:=rfl
@[simp] theorem q46:zcz (.sl sz es)=true:=rfl
@[simp] theorem qvb (ep lo len:Nat):zcz (.ref o p ep lo len)=true:=rfl
@[simp] theorem qqu:zen (.v x)=okV x:=rfl
@[simp] theorem q1v:isF (.v x)=false:=rfl
@[simp] theorem qt4  : isF .e0=false:=rfl
@[simp] theorem q2f:isF (.sl sz es)=true:=rfl
@[simp] theorem qre:isF (.own sz es)=false:=rfl
@[simp] theorem qz6 (ep lo len:Nat):isF (.ref o p ep lo len)=false:=rfl
@[simp] theorem qo2:isV (.v x)=true:=rfl
@[simp] theorem q3n  : isV .e0=false:=rfl
@[simp] theorem q1x:isV (.sl sz es)=false:=rfl
@[simp] theorem qo1:isV (.own sz es)=false:=rfl
@[simp] theorem qwj (ep lo len:Nat):isV (.ref o p ep lo len)=false:=rfl
@[simp] theorem qqw:zdo (.v x)=okV x:=by simp [zdo,zen,isF]
@[simp] theorem qtq:zdo (.sl sz es)=true:=rfl
@[simp] theorem q3f (xs:List PV):over cs j xs=cs.take j++xs++cs.drop (j+xs.length):=rfl
@[simp] theorem qxp (szs:List Nat) (a x:PV):storeAt st szs a x=zvk st szs (cellsOf x) a:=rfl
@[simp] theorem qty (szs:List Nat) (xs:List PV):zvk st szs xs (.ptr o p ep i j)=if xs.length=szs.length then zfi st szs xs o (st.S o) p ep i j else none:=rfl
@[simp] theorem q1p (szs:List Nat) (xs:List PV):zfi st szs xs o (some (.box cs)) none ep i j=if i=0/\j+xs.length<=cs.length/\xs.all zcz then some { st with S:=upd st.S o (some (.box (over cs j xs))) } else none:=rfl
@[simp] theorem q10 (szs:List Nat) (xs:List PV):zfi st szs xs o (some (.row s es)) none ep i j=(match zjh xs with | some d=>zx8 st o i j d s es | none=>(zdi st szs xs).bind fun r=>zil r.2 o i j r.1 (r.2.S o)):=rfl
@[simp] theorem q15:zjh [.v x]=none:=rfl
@[simp] theorem q3p:zjh [.e0]=none:=rfl
@[simp] theorem qys (o ep lo len:Nat):zjh [.ref o none ep lo len]=none:=rfl
@[simp] theorem qyp (q:Nat×Nat) (ep lo len:Nat):zjh [.ref o (some q) ep lo len]=some (o,q,ep,lo,len):=rfl
@[simp] theorem qq2 (a b:PV) (l:List PV):zjh (a::b::l)=none:=by
 cases a with
 | ref o p ep lo len=>cases p <;> rfl
 | _=>rfl
@[simp] theorem qpb (o2:Nat) (q:Nat×Nat) (ep lo len:Nat):zx8 st o i j (o2,q,ep,lo,len) s es=if o2=o/\q=(i,j)/\ep=st.ep then (zbd es i j).bind fun r=>if lo+len<=r.2.length then some { st with S:=upd st.S o (some (.row s (zbx es i j (.own r.1 (cut r.2 lo len))))),ep:=st.ep+1 } else none else none:=rfl
@[simp] theorem qtl (szs:List Nat) (xs:List PV) (a b ep i j:Nat):zfi st szs xs o (some (.row s es)) (some (a,b)) ep i j=if ep=st.ep/\xs.all zen then (zbd es a b).bind fun q=>(q.2[i]?).bind fun cs=>if j+xs.length<=cs.length then some { st with S:=upd st.S o (some (.row s (zbx es a b (.own q.1 (q.2.set i (over cs j xs)))))),ep:=st.ep+1 } else none else none:=rfl
@[simp] theorem qtf (szs:List Nat) (xs:List PV):zfi st szs xs o (some (.rowF s es)) none ep i j=(ze2 szs xs).bind fun ys=>(es[i]?).bind fun cs=>if j+ys.length<=cs.length then some { st with S:=upd st.S o (some (.rowF s (es.set i (over cs j ys)))) } else none:=rfl
@[simp] theorem quj (ys:List PV):zil st o i j ys (some (.row s es))=(es[i]?).bind fun cs=>if j+ys.length<=cs.length then some { st with S:=upd st.S o (some (.row s (es.set i (over cs j ys)))),ep:=if ys.all isV && ((cs.drop j).take ys.length).all isV then st.ep else st.ep+1 } else none:=rfl
@[simp] theorem qz3:zpr (.own sz es)=sz:=rfl
@[simp] theorem qv5:zpr (.v x)=0:=rfl
@[simp] theorem qua (z:List PV):zda st z es []=some (es,st):=rfl
@[simp] theorem qxl (z:List PV) (x:PV) (r:List (Nat×PV)):zda st z es ((i,x)::r)=(zdi st (z.map zpr) (cellsOf x)).bind fun q=>if i<es.length then zda q.2 z (es.set i q.1) r else none:=rfl
@[simp] theorem q3r (z:List PV):zie z es []=some es:=rfl
@[simp] theorem qvk (z:List PV) (x:PV) (r:List (Nat×PV)):zie z es ((i,x)::r)=(ze2 (z.map zpr) (cellsOf x)).bind fun ys=>if i<es.length then zie z (es.set i ys) r else none:=rfl
@[simp] theorem q0y:zgr cs []=some cs:=rfl
@[simp] theorem qzl (off sz:Nat) (x:PV) (r:List (Nat×Nat×PV)):zgr cs ((off,sz,x)::r)=if (cellsOf x).length=sz/\off+sz<=cs.length/\(cellsOf x).all zcz then zgr (over cs off (cellsOf x)) r else none:=rfl
@[simp] theorem qdo (k:IntKind) (a b:Int):eqV (.i k) (.int k a) (.int k b)=some (decide (a=b)):=by simp [eqV]; rfl
@[simp] theorem qu9 (a b:Bool):eqV .b (.bool a) (.bool b)=some (a == b):=rfl
@[simp] theorem qro (a b:ByteArray):eqV .s (.string a) (.string b)=some (a == b):=rfl
@[simp] theorem quz  : zb6 [] [] []=some true:=rfl
@[simp] theorem qpg (k:Kd) (ks:List Kd) (x y:Value) (xs ys:List PV):zb6 (k::ks) (.v x::xs) (.v y::ys)=(eqV k x y).bind fun b=>if b then zb6 ks xs ys else some false:=rfl
@[simp] theorem q3h:lenOf st .e0=some 0:=rfl
@[simp] theorem qv6:lenOf st (.sl sz es)=some es.length:=rfl
@[simp] theorem qhz (st:St) (o:Nat) (p:Option (Nat×Nat)) (ep lo len:Nat):lenOf st (.ref o p ep lo len)=if (zfd st o p ep).isSome then some len else none:=rfl
@[simp] theorem q0n:iaddr st sz i (.sl s es)=if s=sz then (es[i]?).map fun cs => .fptr cs 0 else none:=rfl
@[simp] theorem q03 (ep lo len:Nat):iaddr st sz i (.ref o p ep lo len)=(zfd st o p ep).bind fun r=>if r.1=sz/\i<len then some (.ptr o p ep (lo+i) 0) else none:=rfl
@[simp] theorem q3c:ziu st (.ptr o p ep i j)=if zh9 st.ep (st.S o) p ep i then some (.ptr o p ep i j) else none:=rfl
@[simp] theorem q1r:ziu st (.fptr cs j)=some (.fptr cs j):=rfl
@[simp] theorem q36:ziu st (.fn f caps)=some (.fn f caps):=rfl
@[simp] theorem qot (off o:Nat):zic st off (.ptr o p ep i j)=if zh9 st.ep (st.S o) p ep i then some (.ptr o p ep i (j+off)) else none:=rfl
@[simp] theorem qse (off:Nat):zic st off (.fptr cs j)=some (.fptr cs (j+off)):=rfl
@[simp] theorem qh9 (ce:Nat) (cs:List PV) (ep i:Nat):zh9 ce (some (.box cs)) none ep i=(i == 0):=rfl
@[simp] theorem y9y (ce sz:Nat) (es:List (List PV)) (p:Option (Nat×Nat)) (ep i:Nat):zh9 ce (some (.row sz es)) p ep i=(zav ce (some (.row sz es)) p ep).isSome:=by cases p <;> rfl
@[simp] theorem qaw (ce sz:Nat) (es:List (List PV)) (p:Option (Nat×Nat)) (ep i:Nat):zh9 ce (some (.rowF sz es)) p ep i=(zav ce (some (.rowF sz es)) p ep).isSome:=by cases p <;> rfl
@[simp] theorem qd4 (ce sz:Nat) (es:List (List PV)) (e:Nat) (p:Option (Nat×Nat)) (ep i:Nat):zh9 ce (some (.shadow sz es e)) p ep i=(zav ce (some (.shadow sz es e)) p ep).isSome:=by cases p <;> rfl
@[simp] theorem qze (vs:List PV):zm0 i (.tup vs)=vs[i]?:=rfl
@[simp] theorem q30 (a b:Int):mxP true (.v (.int k a)) (.v (.int k b))=some (.v (.int k (max a b))):=by
 simp only [mxP,if_true]
 congr 3
 omega
@[simp] theorem q1w (a b:Int):mxP false (.v (.int k a)) (.v (.int k b))=some (.v (.int k (min a b))):=by
 simp only [mxP,if_true]
 congr 3
 simp;omega
@[simp] theorem qyn:zb8 st []=[]:=rfl
@[simp] theorem q4i (x:Opd) (r:List (Nat×Opd)):zb8 st ((i,x)::r)=(i,x.get st)::zb8 st r:=rfl
@[simp] theorem qq1:zbq st none=some none:=rfl
@[simp] theorem qcl (st:St) (y:Opd):zbq st (some y)=(zb4 (y.get st)).map some:=rfl
@[simp] theorem q4b:zf6 st sz .e0=some ([],false,st):=rfl
@[simp] theorem q2q (ep lo len:Nat):zf6 st sz (.ref o p ep lo len)=zgi st sz o (st.S o) p ep lo len:=rfl
@[simp] theorem qtb (ep lo len:Nat):zgi st sz o (some (.row s es)) none ep lo len=if s=sz/\lo+len=es.length then some (es.drop lo,false,{ st with S:=upd st.S o none }) else none:=rfl
@[simp] theorem qwm (i j ep lo len:Nat):zgi st sz o (some (.row s es)) (some (i,j)) ep lo len=if ep=st.ep then (zbd es i j).bind fun r=>if r.1=sz/\lo+len=r.2.length then some (r.2.drop lo,false,{ st with S:=upd st.S o (some (.row s (zbx es i j .undef))),ep:=st.ep+1 }) else none else none:=rfl
@[simp] theorem q0t (ep lo len:Nat):zgi st sz o (some (.rowF s es)) none ep lo len=if s=sz/\lo+len=es.length then some (es.drop lo,true,{ st with S:=upd st.S o none }) else none:=rfl
@[simp] theorem qut (s:PV) (t:ByteArray):appS st s t=(zf6 st 1 s).bind fun b=>if zag 1 (b.1.length+t.size) then zgx b.2.2 1 (b.1++zij t) b.2.1 none else none:=rfl
@[simp] theorem qwa (x:Opd):zai m R st (.lenS x)=(zcw (x.get st)).map fun s=>(.v (.int .i64 (s.size:Int)),st):=rfl
@[simp] theorem q2l (s x:Opd):zai m R st (.appS s x)=(zcw (x.get st)).bind fun t=>appS st (s.get st) t:=rfl
@[simp] theorem qw9 (x:Opd) (lo hi:Option Opd):zai m R st (.sliceS x lo hi)=(zcw (x.get st)).bind fun s=>(zbq st lo).bind fun l=>(zbq st hi).bind fun h=>(sliceS s l h).map fun r=>(r,st):=rfl
@[simp] theorem qa6 (s:ByteArray) (lo hi:Option Nat):sliceS s lo hi=if lo.getD 0<=hi.getD s.size/\hi.getD s.size<=s.size then some (.v (.string (s.extract (lo.getD 0) (hi.getD s.size)))) else none:=rfl
@[simp] theorem qtn (sz l h:Nat):zuo st sz l h .e0=some .e0:=rfl
@[simp] theorem qba (st:St) (sz l h s:Nat) (es:List (List PV)):zuo st sz l h (.sl s es)=if s=sz then some (.sl s ((es.drop l).take (h-l))) else none:=rfl
@[simp] theorem qdw (st:St) (sz l h o:Nat) (p:Option (Nat×Nat)) (ep lo n:Nat):zuo st sz l h (.ref o p ep lo n)=(zfd st o p ep).bind fun r=>if r.1=sz then some (.ref o p ep (lo+l) (h-l)) else none:=rfl
@[simp] theorem qc8 (st:St) (sz:Nat) (x:PV) (lo hi:Option Nat):zk3 st sz x lo hi none=(lenOf st x).bind fun n=>if lo.getD 0<=hi.getD n/\hi.getD n<=n then zuo st sz (lo.getD 0) (hi.getD n) x else none:=rfl
@[simp] theorem qa8 (st:St) (sz:Nat) (x:PV) (lo hi:Option Nat) (m:Nat):zk3 st sz x lo hi (some m)=(lenOf st x).bind fun n=>if m=0/\hi=some 0/\lo.getD 0=0/\0<=n then some .e0 else none:=rfl
@[simp] theorem qzu:zgb st sz .e0=some ([],none,st):=rfl
@[simp] theorem qp7:zgb st sz (.sl s es)=if s=sz/\zcf es then some (es,none,st) else none:=rfl
@[simp] theorem qwt (ep lo len:Nat):zgb st sz (.ref o p ep lo len)=(zfd st o p ep).bind fun r=>if r.1=sz then if zcf (cut r.2 lo len) then some (cut r.2 lo len,none,st) else zg4 st o (st.S o) p lo len else none:=rfl
@[simp] theorem qum (lo len:Nat):zg4 st o (some (.row s es)) none lo len=if lo=0/\len=es.length then some (es,some false,{ st with S:=upd st.S o none }) else none:=rfl
@[simp] theorem qxv (lo len:Nat):zg4 st o (some (.rowF s es)) none lo len=some (cut es lo len,some true,st):=rfl
@[simp] theorem qzy:zgx st sz es false none=some (newRow st sz es):=rfl
@[simp] theorem q33:zgx st sz es false (some false)=some (newRow st sz es):=rfl
@[simp] theorem qr0:zgx st sz es true none=some (zhu st sz es):=rfl
@[simp] theorem qxj:zgx st sz es true (some true)=some (zhu st sz es):=rfl
@[simp] theorem q17 (b sz:Nat) (s x:PV):zkn st b sz s x=(zgb st sz x).bind fun m=>(zf6 m.2.2 sz s).bind fun q=>if zag b (q.1.length+m.1.length) then zgx q.2.2 sz (q.1++m.1) q.2.1 m.2.1 else none:=rfl
@[simp] theorem qt7  : zcf []=true:=rfl
@[simp] theorem qsc (e:List PV):zcf (e::es)=(e.all isV && zcf es):=rfl
@[simp] theorem q1m:zca st sz (.v x)=some (.v x):=rfl
@[simp] theorem qst:zca st sz .e0=some (.sl sz []):=rfl
@[simp] theorem qss:zca st sz (.sl s es)=some (.sl s es):=rfl
@[simp] theorem qqj (ep lo len:Nat):zca st sz (.ref o p ep lo len)=(zfd st o p ep).map fun r => .sl r.1 (cut r.2 lo len):=rfl
@[simp] theorem q2z:zca st sz (.fptr cs j)=some (.fptr cs j):=rfl
@[simp] theorem qwb:zca st sz (.ptr o p ep i j)=zjg (st.S o) p i j:=rfl
@[simp] theorem qwe:zjg (some (.box cs)) none i j=if i=0/\cs.all zdo then some (.fptr cs j) else none:=rfl
@[simp] theorem q2a (szs:List Nat) (c:PV):zfa st (sz::szs) (c::cs)=(zca st sz c).bind fun x=>(zfa st szs cs).bind fun xs=>some (x::xs):=rfl
@[simp] theorem qoz (c:PV):zfa st [] (c::cs)=(zca st 0 c).bind fun x=>(zfa st [] cs).bind fun xs=>some (x::xs):=rfl
@[simp] theorem qqh (szs:List Nat):zfa st szs []=some []:=by cases szs <;> rfl
@[simp] theorem qwg (szs:List Nat):zcp st szs (.agg cs)=(zfa st szs cs).map .agg:=rfl
@[simp] theorem q3t (szs:List Nat):zcp st szs (.fn f caps)=(zfa st [] caps).map (.fn f):=rfl
@[simp] theorem qyi (szs:List Nat):zcp st szs (.v x)=zca st (szs.headD 0) (.v x):=rfl
@[simp] theorem qrj (szs:List Nat):zfx st szs (.v x)=zdn st (szs.headD 0) (.v x):=rfl
@[simp] theorem q0u (szs:List Nat)  : zcp st szs (.e0)=zca st (szs.headD 0) (.e0):=rfl
@[simp] theorem qpi (szs:List Nat)  : zfx st szs (.e0)=zdn st (szs.headD 0) (.e0):=rfl
@[simp] theorem qsw (szs:List Nat):zcp st szs (.sl sz es)=zca st (szs.headD 0) (.sl sz es):=rfl
@[simp] theorem qp6 (szs:List Nat) (ep lo len:Nat):zcp st szs (.ref o p ep lo len)=zca st (szs.headD 0) (.ref o p ep lo len):=rfl
@[simp] theorem q42 (szs:List Nat) (ep lo len:Nat):zfx st szs (.ref o p ep lo len)=zdn st (szs.headD 0) (.ref o p ep lo len):=rfl
@[simp] theorem qxf (szs:List Nat):zcp st szs (.fptr cs j)=zca st (szs.headD 0) (.fptr cs j):=rfl
@[simp] theorem qxu (szs:List Nat):zcp st szs (.ptr o p ep i j)=zca st (szs.headD 0) (.ptr o p ep i j):=rfl
@[simp] theorem qqp (szs:List Nat):zfx st szs (.ptr o p ep i j)=zdn st (szs.headD 0) (.ptr o p ep i j):=rfl
@[simp] theorem q39 (szs:List Nat):zfx st szs (.agg cs)=(zgh st szs cs).map fun q=>(.agg q.1,q.2):=rfl
@[simp] theorem q4o:zdn st sz (.v x)=some (.v x,[]):=rfl
@[simp] theorem qw2:zdn st sz .e0=some (.own sz [],[.e0]):=rfl
@[simp] theorem qqe (ep lo len:Nat):zdn st sz (.ref o none ep lo len)=zmo o ep lo len (st.S o):=rfl
@[simp] theorem q24:zdn st sz (.ptr o p ep i j)=zks o ep (st.S o) p i j:=rfl
@[simp] theorem q2o (o ep lo len s:Nat):zmo o ep lo len (some (.row s es))=if lo=0/\len=es.length then some (.own s es,[.ref o none ep lo len]) else none:=rfl
@[simp] theorem qon:zks o ep (some (.box cs)) none i j=if i=0/\j=0/\cs.all zdo then some (.bx cs,[.ptr o none ep 0 0]) else none:=rfl
@[simp] theorem qvn (szs:List Nat) (c:PV):zgh st (sz::szs) (c::cs)=(zdn st sz c).bind fun r=>(zgh st szs cs).bind fun q=>some (r.1::q.1,r.2++q.2):=rfl
@[simp] theorem q1i (szs:List Nat):zgh st szs []=some ([],[]):=by cases szs <;> rfl
@[simp] theorem qt5:zcy st ms []=some ([],[]):=by cases ms <;> rfl
@[simp] theorem qy2 (szs:List Nat) (x:PV):zcy st [] ((szs,x)::xs)=(zcp st szs x).bind fun y=>(zcy st [] xs).bind fun q=>some (y::q.1,q.2):=rfl
@[simp] theorem q28 (szs:List Nat) (x:PV):zcy st (true::ms) ((szs,x)::xs)=(zfx st szs x).bind fun r=>(zcy st ms xs).bind fun q=>some (r.1::q.1,r.2++q.2):=rfl
@[simp] theorem qx1 (szs:List Nat) (x:PV):zcy st (false::ms) ((szs,x)::xs)=(zcp st szs x).bind fun y=>(zcy st ms xs).bind fun q=>some (y::q.1,q.2):=by simp only [zcy,Bool.false_eq_true,if_false]; cases zcp st szs x <;> rfl
@[simp] theorem qrr:root (.v x)=[]:=rfl
@[simp] theorem qps:zd0 (.v x)=[]:=rfl
@[simp] theorem qr2  : root (.e0)=[]:=rfl
@[simp] theorem qv8  : zd0 (.e0)=[]:=rfl
@[simp] theorem qv1:root (.sl sz es)=[]:=rfl
@[simp] theorem qxq:zd0 (.sl sz es)=[]:=rfl
@[simp] theorem qxz (ep lo len:Nat):root (.ref o p ep lo len)=[o]:=rfl
@[simp] theorem q0e (ep lo len:Nat):zd0 (.ref o p ep lo len)=[o]:=rfl
@[simp] theorem qyo:root (.ptr o p ep i j)=[o]:=rfl
@[simp] theorem q45:zd0 (.ptr o p ep i j)=[o]:=rfl
@[simp] theorem qwu:root (.fptr cs j)=[]:=rfl
@[simp] theorem qwc:zd0 (.fptr cs j)=[]:=rfl
@[simp] theorem qo7:zd0 (.agg cs)=cs.flatMap root:=rfl
@[simp] theorem qyc:zd0 (.fn f cs)=cs.flatMap root:=rfl
@[simp] theorem q4c  : zez []=true:=rfl
@[simp] theorem qqq (x:Nat) (xs:List Nat):zez (x::xs)=(!xs.any (fun y=>decide (y=x)) && zez xs):=rfl
@[simp] theorem qpp:ze7 (.own sz es)=true:=rfl
@[simp] theorem qwv:ze7 (.bx cs)=false:=rfl
@[simp] theorem qtp (o len s:Nat) (es':List (List PV)):putRow st o len s es' (some (.row sz es)) none=if es'.length=len/\s=sz/\es.length=len then some { st with S:=upd st.S o (some (.row sz es')) } else none:=rfl
@[simp] theorem q4n (cs' cs:List PV):zp3 st o cs' (some (.box cs))=if cs'.length=cs.length then some { st with S:=upd st.S o (some (.box cs')) } else none:=rfl
@[simp] theorem qyx:ze7 .undef=true:=rfl
@[simp] theorem qq5:zcx st .e0 .undef=some st:=rfl
@[simp] theorem quv (ep lo len:Nat):zcx st (.ref o p ep lo len) .undef=zpw st o (st.S o):=rfl
@[simp] theorem q1k:zpw st o (some (.row sz es))=some { st with S:=upd st.S o none }:=rfl
@[simp] theorem qpc:zcx st .e0 (.own sz es)=if es.length=0 then some st else none:=rfl
@[simp] theorem qxr (ep lo len s:Nat) (es':List (List PV)):zcx st (.ref o p ep lo len) (.own s es')=putRow st o len s es' (st.S o) p:=rfl
@[simp] theorem qpu (cs':List PV):zcx st (.ptr o p ep i j) (.bx cs')=zp3 st o cs' (st.S o):=rfl
@[simp] theorem qww:zer st [] []=some st:=rfl
@[simp] theorem qo8 (t:PV) (ts:List PV) (o:PV) (os:List PV):zer st (t::ts) (o::os)=(zcx st t o).bind fun st=>zer st ts os:=rfl
@[simp] theorem q3y (z:Bool):zdm st z (.v x)=some (.v x,st):=rfl
@[simp] theorem q0i (z:Bool):zdm st z (.sl sz es)=if z then none else some (.sl sz es,st):=rfl
@[simp] theorem qzj (z:Bool):zdm st z (.own sz es)=some (newRow st sz es):=rfl
@[simp] theorem q2w (z:Bool):zdm st z (.bx cs)=if z && cs.any isF then none else some (zb9 st cs):=rfl
@[simp] theorem qz5 (z:Bool):zgk st z []=some ([],st):=rfl
@[simp] theorem qyf (z:Bool) (c:PV):zgk st z (c::cs)=(zdm st z c).bind fun r=>(zgk r.2 z cs).bind fun q=>some (r.1::q.1,q.2):=rfl
@[simp] theorem qov (z:Bool):zfo st z (.agg cs)=(zgk st z cs).map fun q=>(.agg q.1,q.2):=rfl
@[simp] theorem qyl (z:Bool):zfo st z (.v x)=zdm st z (.v x):=rfl
@[simp] theorem qp1 (z:Bool):zfo st z (.sl sz es)=zdm st z (.sl sz es):=rfl
@[simp] theorem qpe (z:Bool):zfo st z (.own sz es)=zdm st z (.own sz es):=rfl
@[simp] theorem q0a (z:Bool):zfo st z (.bx cs)=zdm st z (.bx cs):=rfl
@[simp] theorem qzb (z:Bool):zfw st z []=some ([],st):=rfl
@[simp] theorem q2k (z:Bool) (c:PV):zfw st z (c::cs)=(zfo st z c).bind fun r=>(zfw r.2 z cs).bind fun q=>some (r.1::q.1,q.2):=rfl
@[simp] theorem qts (x:PV):zp1 [x]=x:=rfl
@[simp] theorem qpx  : zp1 [] = .tup []:=rfl
@[simp] theorem q0v (x y:PV) (r:List PV):zp1 (x::y::r) = .tup (x::y::r):=rfl
@[simp] theorem q00  : zei []=[]:=rfl
@[simp] theorem qwh (szs:List Nat) (x:PV) (r:List (List Nat×PV)):zei ((szs,x)::r)=zd0 x++zei r:=rfl
@[simp] theorem q1n (all:List Nat):zxz [] all=true:=rfl
@[simp] theorem q1y (r all:List Nat):zxz (o::r) all=(decide ((all.filter fun y=>decide (y=o)).length=1) && zxz r all):=rfl
@[simp] theorem qr3:zk0 (some (.row sz es))=false:=rfl
@[simp] theorem q4h:zk0 (some (.rowF sz es))=false:=rfl
@[simp] theorem q35:zk0 (some (.box cs))=false:=rfl
@[simp] theorem qud:zk0 (some (.shadow sz es e))=true:=rfl
@[simp] theorem qqo  : zk0 none=false:=rfl
@[simp] theorem q3g:zif st []=true:=rfl
@[simp] theorem qza (os:List Nat):zif st (o::os)=(!zk0 (st.S o) && zif st os):=rfl
@[simp] theorem q0g  : zx1 []=true:=rfl
@[simp] theorem q32 (x:PV) (xs:List PV):zx1 (x::xs)=false:=rfl
@[simp] theorem qos (k:Kd) (x y:Value):eqP [k] (.v x) (.v y)=eqV k x y:=rfl
@[simp] theorem q0p (fl:Bool):zg9 fl false st=st:=rfl
@[simp] theorem qr4:zg9 false true st = { st with ep:=st.ep+1 }:=rfl
@[simp] theorem q1d:zg9 true true st = { st with S:=yb7 st.S }:=rfl
@[simp] theorem qpz:zx6 (.own s es)=zcf es:=rfl
@[simp] theorem qwq:zx6 (.bx cs)=true:=rfl
@[simp] theorem q3v:z84 (.bx cs)=cs.any isF:=rfl
@[simp] theorem qsv:z84 (.own sz es)=false:=rfl
@[simp] theorem qyd (hs:List PV):zhv args hs=((zei args).length != (hs.flatMap root).length):=rfl
@[simp] theorem qq4:zfb m R st f args=(zcy st (m f) args).bind fun a=>if zxz (a.2.flatMap root) (zei args) && (zx1 a.2 || zif st (zei args)) then (R f a.1).bind fun r=>if zhv args a.2 && r.2.any z84 || decide (args.length<(m f).length) && !r.2.all zx6 then none else (zer st a.2 r.2).bind fun st1=>(zfw (zg9 (decide (args.length<(m f).length)) (r.2.any ze7) st1) (zhv args a.2) r.1).map fun q=>(zp1 q.1,q.2) else none:=rfl
@[simp] theorem qom:zds m R st f args=zgm (zee st (m f) args) (zfb m R st f args) (zjm m R st f args):=rfl
@[simp] theorem qve {α β:Type} (y:Option β) (k:α->Option β):zgm none y k=y:=rfl
@[simp] theorem qo4 {α β:Type} (x:α) (y:Option β) (k:α->Option β):zgm (some x) y k=k x:=rfl
@[simp] theorem q3m (q:List Nat×PV):zee st (true::ms) (q::xs)=zgm (zgw st (cellsOf q.2)) (zee st ms xs) some:=rfl
@[simp] theorem qxk (q:List Nat×PV):zee st (false::ms) (q::xs)=zee st ms xs:=rfl
@[simp] theorem qs4:zee st [] xs=none:=by cases xs <;> rfl
@[simp] theorem qr9:zee st ms []=none:=by cases ms with | nil=>rfl | cons b ms=>cases b <;> rfl
@[simp] theorem q0k:cellsOf (.ptr o p ep i j)=[.ptr o p ep i j]:=rfl
@[simp] theorem qun:cellsOf (.fptr cs j)=[.fptr cs j]:=rfl
@[simp] theorem q4u:cellsOf (.fn f cs)=[.fn f cs]:=rfl
@[simp] theorem qus:zgw st []=none:=rfl
@[simp] theorem q44 (c:PV):zgw st (c::cs)=zgm (zft st c) (zgw st cs) some:=rfl
@[simp] theorem q4z:zft st (.v x)=none:=rfl
@[simp] theorem qvj:zft st .e0=none:=rfl
@[simp] theorem qyr:zft st .undef=none:=rfl
@[simp] theorem q0r:zft st (.sl sz es)=none:=rfl
@[simp] theorem qva:zft st (.fptr cs j)=none:=rfl
@[simp] theorem qxe:zft st (.ptr o p ep i j)=none:=rfl
@[simp] theorem q2r:zft st (.fn f cs)=none:=rfl
@[simp] theorem qsz (o ep lo len:Nat):zft st (.ref o none ep lo len)=none:=rfl
@[simp] theorem qzo (o i j ep lo len:Nat):zft st (.ref o (some (i,j)) ep lo len)=ziq st.ep o i j ep lo len (st.S o):=rfl
@[simp] theorem q2u (ce o i j ep lo len sz:Nat):ziq ce o i j ep lo len (some (.row sz es))=if ep=ce then (zbd es i j).bind fun r=>if lo=0/\len=r.2.length then some ⟨o,i,j,sz,es,r.1,r.2⟩ else none else none:=rfl
@[simp] theorem q2m (ce o i j ep lo len:Nat):ziq ce o i j ep lo len (some (.box cs))=none:=rfl
@[simp] theorem qv2 (ce o i j ep lo len sz:Nat):ziq ce o i j ep lo len (some (.rowF sz es))=none:=rfl
@[simp] theorem qp9 (ce o i j ep lo len:Nat):ziq ce o i j ep lo len none=none:=rfl
@[simp] theorem qxa (ep lo len:Nat):zgj d n e (.ref o p ep lo len)=if o=d.o/\p=some (d.i,d.j)/\ep=e then .ref n none (e+1) lo len else .ref o p ep lo len:=rfl
@[simp] theorem qv3:zgj d n e (.v x) = .v x:=rfl
@[simp] theorem qr5:zgj d n e .e0 = .e0:=rfl
@[simp] theorem qyt:zgj d n e (.sl sz es) = .sl sz es:=rfl
@[simp] theorem q0s:zgj d n e (.ptr o p ep i j) = .ptr o p ep i j:=rfl
@[simp] theorem qwx:zgj d n e (.fptr cs j) = .fptr cs j:=rfl
@[simp] theorem qpa:zhn d n e (.agg cs) = .agg (cs.map (zgj d n e)):=rfl
@[simp] theorem qyy:zhn d n e (.fn f cs) = .fn f cs:=rfl
@[simp] theorem q4v:zhn d n e (.v x) = .v x:=rfl
@[simp] theorem qsi:zhn d n e .e0 = .e0:=rfl
@[simp] theorem qwr:zhn d n e (.sl sz es) = .sl sz es:=rfl
@[simp] theorem qy8:zhn d n e (.ptr o p ep i j) = .ptr o p ep i j:=rfl
@[simp] theorem qqs:zhn d n e (.fptr cs j) = .fptr cs j:=rfl
@[simp] theorem qxg (ep lo len:Nat):zhn d n e (.ref o p ep lo len)=zgj d n e (.ref o p ep lo len):=rfl
@[simp] theorem q23:zk5 d n e args=args.map fun q=>(q.1,zhn d n e q.2):=rfl
@[simp] theorem qw6:zcd st d = { st with S:=upd (upd st.S d.o (some (.row d.sz (zbx d.es d.i d.j .undef)))) st.nx (some (.row d.s2 d.es2)),nx:=st.nx+1,ep:=st.ep+1 }:=rfl
@[simp] theorem q4e:zpm st n d=zp6 st n d.o d.i d.j (st.S n) (st.S d.o):=rfl
@[simp] theorem q3o (es es':List (List PV)):zp6 st n o i j (some (.row s es')) (some (.row sz es))=some { st with S:=upd (upd st.S n none) o (some (.row sz (zbx es i j (.own s es')))),ep:=st.ep+1 }:=rfl
@[simp] theorem q3q:zjm m R st f args d=if (zei (zk5 d st.nx st.ep args)).any (fun o=>o=d.o) then none else (zfb m R (zcd st d) f (zk5 d st.nx st.ep args)).bind fun r=>(zpm r.2 st.nx d).map fun s=>(r.1,s):=rfl
@[simp] theorem qvo:zc0 st (.v x)=some (.v x,st):=rfl
@[simp] theorem qrs:zc0 st (.sl sz es)=some (.sl sz es,st):=rfl
@[simp] theorem qqb:zc0 st (.fptr cs j)=some (.fptr cs j,st):=rfl
@[simp] theorem qv0:zc0 st (.own sz es)=some (newRow st sz es):=rfl
@[simp] theorem q1j:zc0 st (.bx cs)=some (zb9 st cs):=rfl
@[simp] theorem qwp:zc0 st (.fn f caps)=some (.fn f caps,st):=rfl
@[simp] theorem q40:zky st []=some ([],st):=rfl
@[simp] theorem qug (c:PV):zky st (c::cs)=(zc0 st c).bind fun r=>(zky r.2 cs).bind fun q=>some (r.1::q.1,q.2):=rfl
@[simp] theorem qvt:zg0 st (.agg cs)=(zky st cs).map fun q=>(.agg q.1,q.2):=rfl
@[simp] theorem qw0:zg0 st (.v x)=zc0 st (.v x):=rfl
@[simp] theorem qxc:zg0 st (.sl sz es)=zc0 st (.sl sz es):=rfl
@[simp] theorem qsh:zg0 st (.own sz es)=zc0 st (.own sz es):=rfl
@[simp] theorem qs2:zg0 st (.bx cs)=zc0 st (.bx cs):=rfl
@[simp] theorem qti:zg0 st (.fptr cs j)=zc0 st (.fptr cs j):=rfl
@[simp] theorem qvr:zg0 st (.fn f caps)=zc0 st (.fn f caps):=rfl
@[simp] theorem qx5:zko st []=some ([],st):=rfl
@[simp] theorem q1f (c:PV):zko st (c::cs)=(zg0 st c).bind fun r=>(zko r.2 cs).bind fun q=>some (r.1::q.1,q.2):=rfl
@[simp] theorem q43  : st0 = { V:=fun _ => .undef,E:=fun _ => .undef,S:=fun _=>none,nx:=0,ep:=0 }:=rfl
@[simp] theorem qqt (args:List PV):zkp args=(zko st0 args).map fun q => { q.2 with V:=fun k=>q.1.getD k .undef }:=rfl
@[simp] theorem qvx:zdk st io sz (.v x)=some (.v x):=rfl
@[simp] theorem qxw:zdk st io sz .e0=some (.own sz []):=rfl
@[simp] theorem qru:zdk st io sz (.sl s es)=some (.sl s es):=rfl
@[simp] theorem qtz (ep lo len:Nat):zdk st io sz (.ref o p ep lo len)=zk9 io o (st.S o) p lo len:=rfl
@[simp] theorem qpt:zdk st io sz (.ptr o p ep i j)=zkw io o (st.S o) p i j:=rfl
@[simp] theorem qsx (lo len:Nat):zk9 io o (some (.row s es)) none lo len=if io<=o then some (.own s (cut es lo len)) else none:=rfl
@[simp] theorem qoo:zkw io o (some (.box cs)) none i j=if io<=o/\i=0/\j=0/\cs.all zdo then some (.bx cs) else none:=rfl
@[simp] theorem q1h (szs:List Nat) (c:PV):zjo st io (sz::szs) (c::cs)=(zdk st io sz c).bind fun x=>(zjo st io szs cs).bind fun xs=>some (x::xs):=rfl
@[simp] theorem qql (szs:List Nat):zjo st io szs []=some []:=by cases szs <;> rfl
@[simp] theorem q4x (szs:List Nat):zgz st io szs (.agg cs)=(zjo st io szs cs).map .agg:=rfl
@[simp] theorem qwi (szs:List Nat):zgz st io szs (.v x)=zdk st io (szs.headD 0) (.v x):=rfl
@[simp] theorem qu6 (szs:List Nat)  : zgz st io szs (.e0)=zdk st io (szs.headD 0) (.e0):=rfl
@[simp] theorem qs0 (szs:List Nat):zgz st io szs (.sl sz es)=zdk st io (szs.headD 0) (.sl sz es):=rfl
@[simp] theorem qpw (szs:List Nat) (ep lo len:Nat):zgz st io szs (.ref o p ep lo len)=zdk st io (szs.headD 0) (.ref o p ep lo len):=rfl
@[simp] theorem qws (szs:List Nat):zgz st io szs (.ptr o p ep i j)=zdk st io (szs.headD 0) (.ptr o p ep i j):=rfl
@[simp] theorem q29 (szs:List Nat) (k:Nat):zpa st (.tmp szs k)=some (st.V k):=rfl
@[simp] theorem qpr (szs:List Nat) (k:Nat):zpa st (.cell szs k ag)=(loadCells st szs.length (st.V k)).bind (zlc ag):=rfl
@[simp] theorem q1c (szs:List Nat) (k:Nat):RV.szs (.tmp szs k)=szs:=rfl
@[simp] theorem q09 (szs:List Nat) (k:Nat):RV.szs (.cell szs k ag)=szs:=rfl
@[simp] theorem qx7:zjw st []=some []:=rfl
@[simp] theorem q04 (r:RV) (rs:List RV):zjw st (r::rs)=(zpa st r).bind fun x=>(zjw st rs).bind fun xs=>some ((r.szs,x)::xs):=rfl
@[simp] theorem qrt:zk1 st io []=some []:=rfl
@[simp] theorem q2j (szs:List Nat) (x:PV) (r:List (List Nat×PV)):zk1 st io ((szs,x)::r)=(zgz st io szs x).bind fun y=>(zk1 st io r).bind fun ys=>some (y::ys):=rfl
@[simp] theorem qvf:ziw (some (.row sz es))=some (.own sz es):=rfl
@[simp] theorem qu5:ziw (some (.box cs))=if cs.all zdo then some (.bx cs) else none:=rfl
@[simp] theorem q0l:zkx st 0=some []:=rfl
@[simp] theorem qqc:zkx st 1=(ziw (st.S 0)).map fun x=>[x]:=rfl
@[simp] theorem qp8:zkx st 2=((ziw (st.S 0)).map fun x=>[x]).bind fun l=>(ziw (st.S 1)).map fun x=>l++[x]:=rfl
@[simp] theorem qtu:zuq []=false:=rfl
@[simp] theorem qor (szs:List Nat) (k:Nat):zuq (.tmp szs k::r)=false:=rfl
@[simp] theorem qwd (szs:List Nat) (k:Nat):zuq (.cell szs k ag::r)=false:=rfl
@[simp] theorem qz4:zuq (.pl::r)=true:=rfl
@[simp] theorem qsf:zmn []=[]:=rfl
@[simp] theorem q3d (szs:List Nat) (k:Nat):zmn (.tmp szs k::r) = .tmp szs k::r:=rfl
@[simp] theorem qou (szs:List Nat) (k:Nat):zmn (.cell szs k ag::r) = .cell szs k ag::r:=rfl
@[simp] theorem q1u:zmn (.pl::r)=r:=rfl
@[simp] theorem quq (q:Nat×Nat) (ep lo len:Nat):zkt d n e (.ref o (some q) ep lo len)=if o=d.o/\ep=e then (if q=(d.i,d.j) then .ref n none (e+1) lo len else .ref o (some q) (e+1) lo len) else .ref o (some q) ep lo len:=rfl
@[simp] theorem qsa (n e o ep lo len:Nat):zkt d n e (.ref o none ep lo len) = .ref o none ep lo len:=rfl
@[simp] theorem q16:zkt d n e (.v x) = .v x:=rfl
@[simp] theorem qxy:zkt d n e .e0 = .e0:=rfl
@[simp] theorem q0j:zve d n e (.agg cs) = .agg (cs.map (zkt d n e)):=rfl
@[simp] theorem q21:zve d n e (.v x) = .v x:=rfl
@[simp] theorem qpf:zju (n+1) st xs=match zgw st (xs.flatMap fun x=>cellsOf x.2) with
  | some d=>zju n (zcd st d) (xs.map fun q=>(q.1,zve d st.nx st.ep q.2))
  | none=>(st,xs):=rfl
@[simp] theorem quh:zju 0 st xs=(st,xs):=rfl
@[simp] theorem qq6:zy9 io (st,xs)=if zez (xs.flatMap fun x=>zd0 x.2) then (zk1 st io xs).bind fun ys=>(zkx st io).map fun os=>(ys,os) else none:=rfl
@[simp] theorem qop (rv:List RV) (ic:IC):zfv ⟨ms,rv,ic⟩ io st=(zjw st (zmn rv)).bind fun xs=>zy9 io (if zuq rv then zju 2 st xs else (st,xs)):=rfl
@[simp] theorem q4l (rv:List RV) (ic:IC) (args:List PV):zx2 m R ⟨ms,rv,ic⟩ args=(zkp args).bind fun st=>(evL m R ic st).bind (Ex.fin (zfv ⟨ms,rv,ic⟩ st.nx)):=rfl
def zvb:List Value->Option (List Value)
 | [.int .u64 x,.int .u64 y,.int .u64 c]=>if 0<=x/\0<=y/\0<=c/\c<=1 then some [.int .u64 ((x+y+c) % 18446744073709551616),.int .u64 ((x+y+c) / 18446744073709551616)] else none
 | _=>none
def zu7:List Value->Option (List Value)
 | [.int .u64 x,.int .u64 y,.int .u64 b]=>if 0<=x/\0<=y/\x<18446744073709551616/\y<18446744073709551616/\0<=b/\b<=1 then some [.int .u64 ((x-y-b) % 18446744073709551616),.int .u64 (if x<y+b then 1 else 0)] else none
 | _=>none
theorem ybk {T:zch} {f:Nat} (hT:T f=some (.ext zvb)) {x y c:Int} (hx:0<=x) (hy:0<=y) (hc:0<=c) (hc1:c<=1) :
  RUN T f [.v (.int .u64 x),.v (.int .u64 y),.v (.int .u64 c)]=some ([.v (.int .u64 ((x+y+c) % 18446744073709551616)),.v (.int .u64 ((x+y+c) / 18446744073709551616))],[]) :=
 yq9 hT (xs:=[.int .u64 x,.int .u64 y,.int .u64 c]) (if_pos ⟨hx,hy,hc,hc1⟩)
theorem ypy {T:zch} {f:Nat} (hT:T f=some (.ext zu7)) {x y c:Int} (hx:0<=x) (hy:0<=y) (hx1:x<18446744073709551616) (hy1:y<18446744073709551616) (hc:0<=c) (hc1:c<=1) :
  RUN T f [.v (.int .u64 x),.v (.int .u64 y),.v (.int .u64 c)]=some ([.v (.int .u64 ((x-y-c) % 18446744073709551616)),.v (.int .u64 (if x<y+c then 1 else 0))],[]) :=
 yq9 hT (xs:=[.int .u64 x,.int .u64 y,.int .u64 c]) (if_pos ⟨hx,hy,hx1,hy1,hc,hc1⟩)
theorem zaf {T:zch} {ic:IC} {rv:List RV} (h:T f=some (zaa ic rv ms)):zad T f=ms:=by simp [zad,h,Fun.modes]
theorem zy3 {T:zch} {g:List PV->Option (List PV×List PV)} (h:T f=some (.known ms g)):zad T f=ms:=by simp [zad,h,Fun.modes]
end Go.Pe
namespace Go.Pe
open Go
variable {X:Prop} {s:St} {i x y g:Opd} {id b n sz f bk fw:Nat} {r todo:List (zac×PV×Nat)} {d:Option Dst} {op:IOp} {os:List (zac×Nat×Nat)} {w:PV} {past:List St} {o:zac} {ps:List (Nat×Nat×Opd)} {ag:Bool} {ks:List Kd} {k:IntKind} {caps:List Opd} {lo hi mx:Option Opd} {args:List (List Nat×Opd)} {Q:Ex->St->Prop}
universe u
structure Dm {α:Sort u} (a:α):Type where mk ::
def W (m:Nat->List Bool) (R:zak) (c:IC) (st:St) (Q:Ex->St->Prop) (_:Dm Q:=⟨⟩):Prop := ∃ e s,evL m R c st=some (e,s)/\Q e s
def WO (m:Nat->List Bool) (R:zak) (ops:List zac) (st:St) (K:St->Prop) (_:Dm K:=⟨⟩):Prop := ∃ s,zdl m R ops st=some s/\K s
def WD (m:Nat->List Bool) (R:zak) (ops:List (zac×Nat×Nat)) (todo:List (zac×PV×Nat)) (past:List St) (st:St) (K:St->Prop) (_:Dm K:=⟨⟩) (_:Dm past:=⟨⟩):Prop := ∃ s,evD m R ops todo past st=some s/\K s
def WI (m:Nat->List Bool) (R:zak) (op:IOp) (st:St) (K:PV->St->Prop) (_:Dm K:=⟨⟩):Prop := ∃ x s,zai m R st op=some (x,s)/\K x s
def Ob' {α:Type} (o:Option α) (K:α->Prop) (_:Dm K:=⟨⟩):Prop := ∃ a,o=some a/\K a
def Br (t:Bool) (X Y:Prop) (_:Dm X:=⟨⟩) (_:Dm Y:=⟨⟩):Prop:=(t=true->X)/\(t=false->Y)
def Cd (p X:Prop) (_:Dm X:=⟨⟩):Prop:=p/\X
def Nx (K:St->Prop) (Q:Ex->St->Prop) (_:Dm K) (_:Dm Q):Ex->St->Prop
 | .normal,s=>K s
 | e,s=>Q e s
def Bl (id:Nat) (Q:Ex->St->Prop) (_:Dm Q):Ex->St->Prop
 | .exit i,s=>if i=id then Q .normal s else Q (.exit i) s
 | e,s=>Q e s
def Fin (rv:List RV) (io:Nat) (r:List PV×List PV) (_:Dm rv) (_:Dm r) (e:Ex) (s:St):Prop:=(e = .normal\/e = .ret)/\zfv ⟨[],rv,.skip⟩ io s=some r
section
variable {m:Nat->List Bool} {R:zak}
@[simp] theorem yr7 {α:Type} {a:α} {K:α->Prop}:Ob' (some a) K=K a:=by simp [Ob']
@[simp] theorem qrc {α:Type} {K:α->Prop}:Ob' none K=False:=by simp [Ob']
@[simp] theorem q4t {α:Type} {p:Prop} [Decidable p] {a b:α} {K:α->Prop}:Ob' (if p then some a else some b) K=K (if p then a else b):=by split <;> simp
@[simp] theorem yoj {α:Type} {p:Prop} [Decidable p] {a:Option α} {K:α->Prop}:Ob' (if p then a else none) K=Cd p (Ob' a K):=by
 unfold Cd; split <;> simp_all
@[simp] theorem qh1 {α β:Type} {o:Option α} {f:α->Option β} {K:β->Prop}:Ob' (o.bind f) K=Ob' o (fun a=>Ob' (f a) K):=by cases o <;> simp
@[simp] theorem qab {α β:Type} {o:Option α} {f:α->β} {K:β->Prop}:Ob' (o.map f) K=Ob' o (fun a=>K (f a)):=by cases o <;> simp
@[simp] theorem qt6 {X Y:Prop}:Br true X Y=X:=by simp [Br]
@[simp] theorem qtr {X Y:Prop}:Br false X Y=Y:=by simp [Br]
@[simp] theorem qxm:Cd True X=X:=by simp [Cd]
@[simp] theorem qyb:Cd False X=False:=by simp [Cd]
theorem zat {t:Bool} {X Y:Prop} (h1:t=true->X) (h2:t=false->Y):Br t X Y:=⟨h1,h2⟩
end
section
variable {m:Nat->List Bool} {R:zak} {st:St} {Q:Ex->St->Prop} {K:St->Prop}
@[simp] theorem qs5:Nx K Q ⟨⟩ ⟨⟩ .normal s=K s:=rfl
@[simp] theorem qqg:Nx K Q ⟨⟩ ⟨⟩ .ret s=Q .ret s:=rfl
@[simp] theorem q0d {i:Nat}:Nx K Q ⟨⟩ ⟨⟩ (.exit i) s=Q (.exit i) s:=rfl
@[simp] theorem qqn:Bl id Q ⟨⟩ .normal s=Q .normal s:=rfl
@[simp] theorem qo9:Bl id Q ⟨⟩ .ret s=Q .ret s:=rfl
@[simp] theorem qzt:Bl id Q ⟨⟩ (.exit id) s=Q .normal s:=by simp [Bl]
@[simp] theorem qub:Bl 0 Q ⟨⟩ (.exit 1) s=Q (.exit 1) s:=by simp [Bl]
@[simp] theorem qw3:Bl 1 Q ⟨⟩ (.exit 0) s=Q (.exit 0) s:=by simp [Bl]
@[simp] theorem qr1 {rv:List RV} {io:Nat} {r:List PV×List PV}:Fin rv io r ⟨⟩ ⟨⟩ .normal s=(zfv ⟨[],rv,.skip⟩ io s=some r):=by simp [Fin]
@[simp] theorem qqx {rv:List RV} {io:Nat} {r:List PV×List PV}:Fin rv io r ⟨⟩ ⟨⟩ .ret s=(zfv ⟨[],rv,.skip⟩ io s=some r):=by simp [Fin]
theorem yb1 {c:IC} {e:Ex} (h:evL m R c st=some (e,s)):W m R c st Q=Q e s:=by
 simp only [W,h,bC,Prod.mk.injEq,eq_iff_iff];constructor
 ·rintro ⟨e,s,⟨rfl,rfl⟩,h⟩; exact h
 ·intro h; exact ⟨_,_,⟨rfl,rfl⟩,h⟩
@[simp] theorem qvu:W m R .skip st Q=Q .normal st:=yb1 rfl
@[simp] theorem q3e:W m R .ret st Q=Q .ret st:=yb1 rfl
@[simp] theorem q4r:W m R (.exit id) st Q=Q (.exit id) st:=yb1 rfl
@[simp] theorem q41 {ops:List zac}:W m R (.reg ops) st Q=WO m R ops { st with E:=fun _ => .undef } (Q .normal):=by
 simp only [W,WO,qgm,bB,eq_iff_iff];constructor
 ·rintro ⟨e,s,⟨s',h1,h2⟩,h3⟩; cases h2; exact ⟨_,h1,h3⟩
 ·rintro ⟨s,h1,h2⟩; exact ⟨_,s,⟨s,h1,rfl⟩,h2⟩
@[simp] theorem qo5 {ops:List (zac×Nat×Nat)}:W m R (.regD ops) st Q=WD m R ops [] [] { st with E:=fun _ => .undef } (Q .normal):=by
 simp only [W,WD,evL,bB,eq_iff_iff];constructor
 ·rintro ⟨e,s,⟨s',h1,h2⟩,h3⟩; cases h2; exact ⟨_,h1,h3⟩
 ·rintro ⟨s,h1,h2⟩; exact ⟨_,s,⟨s,h1,rfl⟩,h2⟩
@[simp] theorem qdx {a b:IC}:W m R (.seq a b) st Q=W m R a st (Nx (fun s=>W m R b s Q) Q ⟨⟩ ⟨⟩):=by
 simp only [W,yrq,Option.bind_eq_some_iff,eq_iff_iff];constructor
 ·rintro ⟨e,s,⟨⟨e1,s1⟩,h1,h2⟩,h3⟩;refine ⟨e1,s1,h1,?_⟩;cases e1 with
  | normal=>exact ⟨e,s,h2,h3⟩
  | exit i=>cases h2; exact h3
  | ret=>cases h2; exact h3
 ·rintro ⟨e1,s1,h1,h2⟩;cases e1 with
  | normal=>obtain ⟨e,s,h3,h4⟩:=h2; exact ⟨e,s,⟨_,h1,h3⟩,h4⟩
  | exit i=>exact ⟨_,_,⟨_,h1,rfl⟩,h2⟩
  | ret=>exact ⟨_,_,⟨_,h1,rfl⟩,h2⟩
@[simp] theorem qri {c:Opd} {x y:IC}:W m R (.cond c x y) st Q=Ob' (zg1 (c.get st)) fun t=>Br t (W m R x st Q) (W m R y st Q):=by
 simp only [W,qhw,Option.bind_eq_some_iff,Ob',Br,eq_iff_iff];constructor
 ·rintro ⟨e,s,⟨t,h1,h2⟩,h3⟩;refine ⟨t,h1,fun ht => ?_,fun ht => ?_⟩ <;> subst ht
  ·exact ⟨e,s,by simpa using h2,h3⟩
  ·exact ⟨e,s,by simpa using h2,h3⟩
 ·rintro ⟨t,h1,h2,h3⟩;cases t with
  | true=>obtain ⟨e,s,h4,h5⟩:=h2 rfl; exact ⟨e,s,⟨true,h1,by simpa using h4⟩,h5⟩
  | false=>obtain ⟨e,s,h4,h5⟩:=h3 rfl; exact ⟨e,s,⟨false,h1,by simpa using h4⟩,h5⟩
@[simp] theorem qw7 {c:IC}:W m R (.block id c) st Q=W m R c st (Bl id Q ⟨⟩):=by
 simp only [W,qfu,bB,eq_iff_iff];constructor
 ·rintro ⟨e,s,⟨⟨e1,s1⟩,h1,h2⟩,h3⟩;refine ⟨e1,s1,h1,?_⟩;cases e1 with
  | normal=>cases h2; exact h3
  | exit i=>simp only [Ex.out] at h2; simp only [Bl]; cases h2; split at h3 <;> simp_all
  | ret=>cases h2; exact h3
 ·rintro ⟨e1,s1,h1,h2⟩;refine ⟨_,_,⟨_,h1,rfl⟩,?_⟩;cases e1 with
  | normal=>exact h2
  | exit i=>simp only [Ex.out]; simp only [Bl] at h2; split <;> simp_all
  | ret=>exact h2
@[simp] theorem qvl:WO m R [] st K=K st:=by simp [WO]
@[simp] theorem qs3 {os:List zac}:WO m R (⟨d,op,none⟩::os) st K=WI m R op st (fun x s=>WO m R os (s.put d x) K):=by
 simp only [WO,WI,qbt,Option.bind_eq_some_iff,eq_iff_iff];constructor
 ·rintro ⟨s,⟨⟨x,s1⟩,h1,h2⟩,h3⟩; exact ⟨x,s1,h1,s,h2,h3⟩
 ·rintro ⟨x,s1,h1,s,h2,h3⟩; exact ⟨s,⟨(x,s1),h1,h2⟩,h3⟩
@[simp] theorem qzf {w:Bool} {os:List zac}:WO m R (⟨d,op,some (g,w)⟩::os) st K=Ob' (zia w (g.get st)) fun t=>Br t (WI m R op st (fun x s=>WO m R os (s.put d x) K)) (WO m R os (st.put d (.v Go.undef)) K):=by
 simp only [WO,WI,qd3,Option.bind_eq_some_iff,Ob',Br,eq_iff_iff];constructor
 ·rintro ⟨s,⟨t,h1,h2⟩,h3⟩;refine ⟨t,h1,fun ht => ?_,fun ht => ?_⟩ <;> subst ht
  ·simp only [if_true,Option.bind_eq_some_iff] at h2;obtain ⟨⟨x,s1⟩,h4,h5⟩:=h2;exact ⟨x,s1,h4,s,h5,h3⟩
  ·exact ⟨s,by simpa using h2,h3⟩
 ·rintro ⟨t,h1,h2,h3⟩;cases t with
  | true=>obtain ⟨x,s1,h4,s,h5,h6⟩:=h2 rfl; exact ⟨s,⟨true,h1,by simp [h4,h5]⟩,h6⟩
  | false=>obtain ⟨s,h4,h5⟩:=h3 rfl; exact ⟨s,⟨false,h1,by simpa using h4⟩,h5⟩
@[simp] theorem qxs:WD m R [] todo past st K=K st:=by simp [WD,evD]
theorem ydo:evG m R st ⟨d,op,none⟩=zai m R st op:=rfl
theorem yod {w:Bool}:evG m R st ⟨d,op,some (g,w)⟩=(zia w (g.get st)).bind fun t=>if t then zai m R st op else some (.v Go.undef,st):=rfl
def WQ (m:Nat->List Bool) (R:zak) (os:List (zac×Nat×Nat)) (todo:List (zac×PV×Nat)) (past:List St) (st:St) (K:St->Prop) (o:zac) (b w:Nat) (x:PV) (s:St) (_:Dm K:=⟨⟩) (_:Dm past:=⟨⟩):Prop :=
 if quiet o.op then Cd (za3 st.V st.E o x b past) (WD m R os (if w=0 then todo else (o,x,w)::todo) past (st.put o.dst x) K) else Cd (zce s todo) (WD m R os (zc8 todo) (st::past) (s.put o.dst x) K)
theorem yo5 {b w:Nat}:WD m R ((o,b,w)::os) todo past st K↔∃ x s,evG m R st o=some (x,s)/\WQ m R os todo past st K o b w x s:=by
 simp only [WD,evD,Option.bind_eq_some_iff,WQ,Cd];constructor
 ·rintro ⟨s,⟨⟨x,s1⟩,h1,h2⟩,h3⟩;refine ⟨x,s1,h1,?_⟩;split at h2
  ·rename_i hq; rw [if_pos hq];split at h2
   ·rename_i hc; exact ⟨hc,s,h2,h3⟩
   ·cases h2
  ·rename_i hq; rw [if_neg hq];split at h2
   ·rename_i hc; exact ⟨hc,s,h2,h3⟩
   ·cases h2
 ·rintro ⟨x,s1,h1,h2⟩;split at h2
  ·rename_i hq;obtain ⟨hc,s,h2,h3⟩:=h2;exact ⟨s,⟨(x,s1),h1,by rw [if_pos hq,if_pos hc]; exact h2⟩,h3⟩
  ·rename_i hq;obtain ⟨hc,s,h2,h3⟩:=h2;exact ⟨s,⟨(x,s1),h1,by rw [if_neg hq,if_pos hc]; exact h2⟩,h3⟩
@[simp] theorem qxd {b w:Nat}:WD m R ((⟨d,op,none⟩,b,w)::os) todo past st K=WI m R op st (fun x s=>WQ m R os todo past st K ⟨d,op,none⟩ b w x s):=by
 rw [eq_iff_iff,yo5]; simp only [WI,ydo]
@[simp] theorem qq3 {v:Bool} {b w:Nat}:WD m R ((⟨d,op,some (g,v)⟩,b,w)::os) todo past st K =
  Ob' (zia v (g.get st)) fun t=>Br t (WI m R op st (fun x s=>WQ m R os todo past st K ⟨d,op,some (g,v)⟩ b w x s)) (WQ m R os todo past st K ⟨d,op,some (g,v)⟩ b w (.v Go.undef) st):=by
 rw [eq_iff_iff,yo5];simp only [WI,yod,Option.bind_eq_some_iff,Ob',Br];constructor
 ·rintro ⟨x,s,⟨t,h1,h2⟩,h3⟩;refine ⟨t,h1,fun ht => ?_,fun ht => ?_⟩ <;> subst ht
  ·exact ⟨x,s,by simpa using h2,h3⟩
  ·simp at h2; obtain ⟨rfl,rfl⟩:=h2; exact h3
 ·rintro ⟨t,h1,h2,h3⟩;cases t with
  | true=>obtain ⟨x,s,h4,h5⟩:=h2 rfl; exact ⟨x,s,⟨true,h1,by simpa using h4⟩,h5⟩
  | false=>exact ⟨_,_,⟨false,h1,rfl⟩,h3 rfl⟩
theorem zdu {g:Option (Opd×Bool)} {b w:Nat} {x:PV} (h:quiet op=true):WQ m R os todo past st K ⟨d,op,g⟩ b w x s=Cd (za3 st.V st.E ⟨d,op,g⟩ x b past) (WD m R os (if w=0 then todo else (⟨d,op,g⟩,x,w)::todo) past (st.put d x) K):=by
 simp only [WQ,h,if_true]
theorem zho {g:Option (Opd×Bool)} {b w:Nat} {x:PV} (h:quiet op=false):WQ m R os todo past st K ⟨d,op,g⟩ b w x s=Cd (zce s todo) (WD m R os (zc8 todo) (st::past) (s.put d x) K):=by
 simp only [WQ,h,Bool.false_eq_true,if_false]
theorem zeh {g:Option (Opd×Bool)} {x:PV} (h:quiet op=true):WQ m R os todo past st K ⟨d,op,g⟩ 0 0 x s=WD m R os todo past (st.put d x) K:=by
 rw [zdu h]; simp [Cd,za3]
theorem zel {g:Option (Opd×Bool)} {b w:Nat} {x:PV} (h:quiet op=true):WQ m R os todo past st K ⟨d,op,g⟩ b (w+1) x s=Cd (za3 st.V st.E ⟨d,op,g⟩ x b past) (WD m R os ((⟨d,op,g⟩,x,w+1)::todo) past (st.put d x) K):=by
 rw [zdu h]; simp
@[simp] theorem q34 {V E:Nat->PV} {x:PV} {ms:List St}:za3 V E o x 0 ms=True:=by simp [za3]
@[simp] theorem qqa {V E:Nat->PV} {x:PV}:za3 V E o x n []=True:=by cases n <;> simp [za3]
@[simp] theorem qp2 {V E:Nat->PV} {x:PV} {ms:List St}:za3 V E ⟨d,op,none⟩ x (n+1) (s::ms)=(WI (fun _=>[]) (fun _ _=>none) op { s with V:=V,E:=E } (fun y _=>y=x)/\za3 V E ⟨d,op,none⟩ x n ms):=by
 simp only [za3,yv,ydo,WI,bB,eq_iff_iff];constructor
 ·rintro ⟨⟨⟨y,s'⟩,h1,h2⟩,h3⟩; exact ⟨⟨y,s',h1,h2⟩,h3⟩
 ·rintro ⟨⟨y,s',h1,h2⟩,h3⟩; exact ⟨⟨(y,s'),h1,h2⟩,h3⟩
@[simp] theorem q0m:zce s []=True:=by simp [zce]
@[simp] theorem qzv {x:PV}:zce s ((o,x,0)::r)=zce s r:=by simp [zce]
@[simp] theorem q4q {x:PV}:zce s ((⟨d,op,none⟩,x,n+1)::r)=(WI (fun _=>[]) (fun _ _=>none) op s (fun y _=>y=x)/\zce s r):=by
 simp only [zce,yv,ydo,WI,bB,eq_iff_iff];constructor
 ·rintro ⟨⟨⟨y,s'⟩,h1,h2⟩,h3⟩; exact ⟨⟨y,s',h1,h2⟩,h3⟩
 ·rintro ⟨⟨y,s',h1,h2⟩,h3⟩; exact ⟨⟨(y,s'),h1,h2⟩,h3⟩
@[simp] theorem qzg:zc8 []=[]:=rfl
@[simp] theorem qyu {x:PV}:zc8 ((o,x,0)::r)=zc8 r:=rfl
@[simp] theorem qyv {x:PV}:zc8 ((o,x,n+1)::r)=(o,x,n)::zc8 r:=rfl
theorem z8m {K:PV->St->Prop} {x:PV} (h:zai m R st op=some (x,s)):WI m R op st K=K x s:=by
 simp only [WI,h,bC,Prod.mk.injEq,eq_iff_iff];constructor
 ·rintro ⟨a,b,⟨rfl,rfl⟩,h⟩; exact h
 ·intro h; exact ⟨_,_,⟨rfl,rfl⟩,h⟩
theorem zhg {op:IOp} {K:PV->St->Prop} {α:Type} {o:Option α} {f:α->PV} (h:zai m R st op=o.map fun a=>(f a,st)):WI m R op st K=Ob' o fun a=>K (f a) st:=by
 simp only [WI,h,bB,Prod.mk.injEq,Ob',eq_iff_iff];constructor
 ·rintro ⟨x,s,⟨a,h1,rfl,rfl⟩,h3⟩; exact ⟨a,h1,h3⟩
 ·rintro ⟨a,h1,h2⟩; exact ⟨_,_,⟨a,h1,rfl,rfl⟩,h2⟩
theorem zfu {op:IOp} {K:PV->St->Prop} {o:Option (PV×St)} (h:zai m R st op=o):WI m R op st K=Ob' o fun r=>K r.1 r.2:=by
 simp only [WI,h,Ob',eq_iff_iff];constructor
 ·rintro ⟨x,s,h1,h2⟩; exact ⟨(x,s),h1,h2⟩
 ·rintro ⟨⟨x,s⟩,h1,h2⟩; exact ⟨x,s,h1,h2⟩
end
section
variable {m:Nat->List Bool} {R:zak} {st:St} {K:PV->St->Prop}
@[simp] theorem qx9:WI m R (.mv x) st K=K (x.get st) st:=z8m rfl
@[simp] theorem qo3 {c a b:Opd}:WI m R (.pick c a b) st K=Ob' (zg1 (c.get st)) fun t=>K (if t then a.get st else b.get st) st:=zhg rfl
@[simp] theorem qwk {z:List PV}:WI m R (.alloc z) st K=K (zb9 st z).1 (zb9 st z).2:=z8m rfl
@[simp] theorem qsu:WI m R (.box x) st K=Cd ((cellsOf (x.get st)).all zcz=true) (K (zb9 st (cellsOf (x.get st))).1 (zb9 st (cellsOf (x.get st))).2):=by
 rw [zfu (qa3 m R st x),yoj,yr7]
@[simp] theorem q2d {z:List PV}:WI m R (.build z ps) st K=Ob' (zgr z (ps.map fun q=>(q.1,q.2.1,q.2.2.get st))) fun cs=>K (.agg cs) st:=zhg rfl
@[simp] theorem qwy {z:List PV} {ps:List (Nat×Opd)}:WI m R (.bslice n sz z ps) st K=Ob' (if (zc7 st (zb8 st ps)).any fun q=>(cellsOf q.2).any isF then
   (zie z (List.replicate n (z.map fz)) (zc7 st (zb8 st ps))).map fun es=>zhu (zdb st (zb8 st ps)) sz es
  else (zda (zdb st (zb8 st ps)) z (List.replicate n z) (zc7 st (zb8 st ps))).map fun q=>newRow q.2 sz q.1) fun r=>K r.1 r.2:=zfu (qdm m R st n sz z ps)
@[simp] theorem qpv:WI m R (.mvL x) st K=K (x.get st) st:=z8m rfl
@[simp] theorem qxt {z:List PV}:WI m R (.allocL z) st K=K (zb9 st z).1 (zb9 st z).2:=z8m rfl
@[simp] theorem qzw {z:List PV} {ps:List (Nat×Opd)}:WI m R (.bsliceL n sz z ps) st K=Ob' (zda st z (List.replicate n z) (zb8 st ps)) fun q=>K (newRow q.2 sz q.1).1 (newRow q.2 sz q.1).2:=by
 rw [zfu (qgj m R st n sz z ps),eq_iff_iff];simp only [Ob',bB];constructor
 ·rintro ⟨r,⟨q,h1,rfl⟩,h3⟩; exact ⟨q,h1,h3⟩
 ·rintro ⟨q,h1,h3⟩; exact ⟨_,⟨q,h1,rfl⟩,h3⟩
@[simp] theorem q4y {a:Opd}:WI m R (.load ag sz a) st K=Ob' (loadCells st sz (a.get st)) fun cs=>Ob' (zlc ag cs) fun x=>K x st:=by
 rw [zfu (qaa m R st ag sz a),eq_iff_iff];simp only [Ob',Option.bind_eq_some_iff,bB];constructor
 ·rintro ⟨r,⟨cs,h1,x,h2,rfl⟩,h3⟩; exact ⟨cs,h1,x,h2,h3⟩
 ·rintro ⟨cs,h1,x,h2,h3⟩; exact ⟨_,⟨cs,h1,x,h2,rfl⟩,h3⟩
@[simp] theorem qph {szs:List Nat} {a x:Opd}:WI m R (.store szs a x) st K=Ob' (storeAt st szs (a.get st) (x.get st)) fun s=>K .undef s:=by
 rw [zfu (qea m R st szs a x),qab]
@[simp] theorem q48:WI m R (.nilc x) st K=Ob' (ziu st (x.get st)) fun r=>K r st:=zhg (f:=id) rfl
@[simp] theorem qwn {op:BinOp}:WI m R (.bin op x y) st K=Ob' (zmr op (x.get st) (y.get st)) fun r=>K r st:=zhg (f:=id) rfl
@[simp] theorem qv9 {n:Bool}:WI m R (.eqb n ks x y) st K=Ob' (eqP ks (x.get st) (y.get st)) fun b=>K (.v (.bool (b != n))) st:=zhg rfl
@[simp] theorem q27 {op:UnOp}:WI m R (.un op x) st K=Ob' (unP op (x.get st)) fun r=>K r st:=zhg (f:=id) rfl
@[simp] theorem qvc:WI m R (.convI k x) st K=Ob' (zhi (x.get st)) fun n=>K (.v (.int k (k.wrap n))) st:=zhg rfl
@[simp] theorem qvh:WI m R (.toS x) st K=Ob' (zfj st (x.get st)) fun r=>Ob' (zlb r.2) fun l=>K (.v (.string ⟨l.toArray⟩)) st:=by
 rw [zfu (qgb m R st x),eq_iff_iff];simp only [Ob',Option.bind_eq_some_iff,bB];constructor
 ·rintro ⟨r,⟨cs,h1,x,h2,rfl⟩,h3⟩; exact ⟨cs,h1,x,h2,h3⟩
 ·rintro ⟨cs,h1,x,h2,h3⟩; exact ⟨_,⟨cs,h1,x,h2,rfl⟩,h3⟩
@[simp] theorem qz2:WI m R (.mkfn f caps) st K=Cd ((caps.map (Opd.get st)).all zpb=true) (K (.fn f (caps.map (Opd.get st))) st):=by
 rw [zfu (qe0 m R st f caps),yoj,yr7]
@[simp] theorem qta {z:List PV} {l c:Opd}:WI m R (.mksl b sz z l c) st K=Ob' (zb4 (l.get st)) fun n=>Ob' (zb4 (c.get st)) fun k=>Cd (n<=k/\zag b k=true) (K (newRow st sz (List.replicate n z)).1 (newRow st sz (List.replicate n z)).2):=by
 rw [zfu (qb3 m R st b sz z l c),eq_iff_iff];simp only [Ob',Cd,Option.bind_eq_some_iff];constructor
 ·rintro ⟨r,⟨n,h1,k,h2,h3⟩,h4⟩;split at h3
  ·rename_i hc; cases h3; exact ⟨n,h1,k,h2,hc,h4⟩
  ·cases h3
 ·rintro ⟨n,h1,k,h2,hc,h4⟩; exact ⟨_,⟨n,h1,k,h2,if_pos hc⟩,h4⟩
@[simp] theorem qsq:WI m R (.slice sz x lo hi mx) st K=Ob' (zbq st lo) fun l=>Ob' (zbq st hi) fun h=>Ob' (zbq st mx) fun k=>Ob' (zk3 st sz (x.get st) l h k) fun r=>K r st:=by
 rw [zfu (qhh m R st sz x lo hi mx),eq_iff_iff];simp only [Ob',Option.bind_eq_some_iff,bB];constructor
 ·rintro ⟨r,⟨l,h1,h,h2,k,h3,q,h4,rfl⟩,h5⟩; exact ⟨l,h1,h,h2,k,h3,q,h4,h5⟩
 ·rintro ⟨l,h1,h,h2,k,h3,q,h4,h5⟩; exact ⟨_,⟨l,h1,h,h2,k,h3,q,h4,rfl⟩,h5⟩
@[simp] theorem qq0:WI m R (.sliceS x lo hi) st K=Ob' (zcw (x.get st)) fun s=>Ob' (zbq st lo) fun l=>Ob' (zbq st hi) fun h=>Ob' (sliceS s l h) fun r=>K r st:=by
 rw [zfu (o:=(zcw (x.get st)).bind fun s=>(zbq st lo).bind fun l=>(zbq st hi).bind fun h=>(sliceS s l h).map fun r=>(r,st)) rfl,eq_iff_iff];simp only [Ob',Option.bind_eq_some_iff,bB];constructor
 ·rintro ⟨r,⟨l,h1,h,h2,k,h3,q,h4,rfl⟩,h5⟩; exact ⟨l,h1,h,h2,k,h3,q,h4,h5⟩
 ·rintro ⟨l,h1,h,h2,k,h3,q,h4,h5⟩; exact ⟨_,⟨l,h1,h,h2,k,h3,q,h4,rfl⟩,h5⟩
@[simp] theorem qqy {off:Nat}:WI m R (.faddr off x) st K=Ob' (zic st off (x.get st)) fun r=>K r st:=zhg (f:=id) rfl
@[simp] theorem q4d:WI m R (.iaddr sz x i) st K=Ob' (zb4 (i.get st)) fun k=>Ob' (iaddr st sz k (x.get st)) fun r=>K r st:=by
 rw [zfu (qcu m R st sz x i),eq_iff_iff];simp only [Ob',Option.bind_eq_some_iff,bB];constructor
 ·rintro ⟨r,⟨cs,h1,x,h2,rfl⟩,h3⟩; exact ⟨cs,h1,x,h2,h3⟩
 ·rintro ⟨cs,h1,x,h2,h3⟩; exact ⟨_,⟨cs,h1,x,h2,rfl⟩,h3⟩
@[simp] theorem q11:WI m R (.idx x i) st K=Ob' (zcw (x.get st)) fun s=>Ob' (zb4 (i.get st)) fun k=>Ob' (s[k]?) fun b=>K (.v (.int .u8 (b.toNat:Int))) st:=by
 rw [zfu (qbq m R st x i),eq_iff_iff];simp only [Ob',Option.bind_eq_some_iff,bB];constructor
 ·rintro ⟨r,⟨l,h1,h,h2,k,h3,rfl⟩,h5⟩; exact ⟨l,h1,h,h2,k,h3,h5⟩
 ·rintro ⟨l,h1,h,h2,k,h3,h5⟩; exact ⟨_,⟨l,h1,h,h2,k,h3,rfl⟩,h5⟩
@[simp] theorem qry {i:Nat}:WI m R (.ext i x) st K=Ob' (zm0 i (x.get st)) fun r=>K r st:=zhg (f:=id) rfl
@[simp] theorem q3w:WI m R (.call f args) st K=Ob' (zds m R st f (args.map fun q=>(q.1,q.2.get st))) fun r=>K r.1 r.2:=zfu rfl
@[simp] theorem qu0:WI m R (.callv g args) st K=Ob' (zp2 m R st (args.map fun q=>(q.1,q.2.get st)) (g.get st)) fun r=>K r.1 r.2:=zfu rfl
@[simp] theorem qsm:WI m R (.len x) st K=Ob' (lenOf st (x.get st)) fun n=>K (.v (.int .i64 ((n:Nat):Int))) st:=zhg rfl
@[simp] theorem qyq:WI m R (.lenS x) st K=Ob' (zcw (x.get st)) fun s=>K (.v (.int .i64 (s.size:Int))) st:=zhg rfl
@[simp] theorem q0z {s x:Opd}:WI m R (.app b sz s x) st K=Ob' (zkn st b sz (s.get st) (x.get st)) fun r=>K r.1 r.2:=zfu rfl
@[simp] theorem q1t {s x:Opd}:WI m R (.appS s x) st K=Ob' (zcw (x.get st)) fun t=>Ob' (appS st (s.get st) t) fun r=>K r.1 r.2:=by
 rw [zfu (o:=(zcw (x.get st)).bind fun t=>appS st (s.get st) t) rfl,qh1]
@[simp] theorem qt3 {b:Bool}:WI m R (.mx b x y) st K=Ob' (mxP b (x.get st) (y.get st)) fun r=>K r st:=zhg (f:=id) rfl
end
section
variable {m:Nat->List Bool} {R:zak} {st:St} {K:St->Prop} {os:List (zac×Nat×Nat)} {todo:List (zac×PV×Nat)} {past:List St} {d:Option Dst} {g:Option (Opd×Bool)}
@[simp] theorem qt2:WQ m R os todo past st K ⟨d,.mv x,g⟩ 0 0 w s=WD m R os todo past (st.put d w) K:=zeh rfl
@[simp] theorem q2h:WQ m R os todo past st K ⟨d,.mv x,g⟩ bk (fw+1) w s=Cd (za3 st.V st.E ⟨d,.mv x,g⟩ w bk past) (WD m R os ((⟨d,.mv x,g⟩,w,fw+1)::todo) past (st.put d w) K):=zel rfl
@[simp] theorem qvz:WQ m R os todo past st K ⟨d,.mv x,g⟩ (bk+1) 0 w s=Cd (za3 st.V st.E ⟨d,.mv x,g⟩ w (bk+1) past) (WD m R os todo past (st.put d w) K):=by rw [zdu rfl]; rfl
@[simp] theorem qvd (c a b:Opd):WQ m R os todo past st K ⟨d,.pick c a b,g⟩ 0 0 w s=WD m R os todo past (st.put d w) K:=zeh rfl
@[simp] theorem qzk (c a b:Opd):WQ m R os todo past st K ⟨d,.pick c a b,g⟩ bk (fw+1) w s=Cd (za3 st.V st.E ⟨d,.pick c a b,g⟩ w bk past) (WD m R os ((⟨d,.pick c a b,g⟩,w,fw+1)::todo) past (st.put d w) K):=zel rfl
@[simp] theorem q0q (c a b:Opd):WQ m R os todo past st K ⟨d,.pick c a b,g⟩ (bk+1) 0 w s=Cd (za3 st.V st.E ⟨d,.pick c a b,g⟩ w (bk+1) past) (WD m R os todo past (st.put d w) K):=by rw [zdu rfl]; rfl
@[simp] theorem q4k (z:List PV):WQ m R os todo past st K ⟨d,.build z ps,g⟩ 0 0 w s=WD m R os todo past (st.put d w) K:=zeh rfl
@[simp] theorem q47 (z:List PV):WQ m R os todo past st K ⟨d,.build z ps,g⟩ bk (fw+1) w s=Cd (za3 st.V st.E ⟨d,.build z ps,g⟩ w bk past) (WD m R os ((⟨d,.build z ps,g⟩,w,fw+1)::todo) past (st.put d w) K):=zel rfl
@[simp] theorem qxi (z:List PV):WQ m R os todo past st K ⟨d,.build z ps,g⟩ (bk+1) 0 w s=Cd (za3 st.V st.E ⟨d,.build z ps,g⟩ w (bk+1) past) (WD m R os todo past (st.put d w) K):=by rw [zdu rfl]; rfl
@[simp] theorem q2x (a:Opd):WQ m R os todo past st K ⟨d,.load ag sz a,g⟩ 0 0 w s=WD m R os todo past (st.put d w) K:=zeh rfl
@[simp] theorem qzm (a:Opd):WQ m R os todo past st K ⟨d,.load ag sz a,g⟩ bk (fw+1) w s=Cd (za3 st.V st.E ⟨d,.load ag sz a,g⟩ w bk past) (WD m R os ((⟨d,.load ag sz a,g⟩,w,fw+1)::todo) past (st.put d w) K):=zel rfl
@[simp] theorem q26 (a:Opd):WQ m R os todo past st K ⟨d,.load ag sz a,g⟩ (bk+1) 0 w s=Cd (za3 st.V st.E ⟨d,.load ag sz a,g⟩ w (bk+1) past) (WD m R os todo past (st.put d w) K):=by rw [zdu rfl]; rfl
@[simp] theorem qsg:WQ m R os todo past st K ⟨d,.nilc x,g⟩ 0 0 w s=WD m R os todo past (st.put d w) K:=zeh rfl
@[simp] theorem q2v:WQ m R os todo past st K ⟨d,.nilc x,g⟩ bk (fw+1) w s=Cd (za3 st.V st.E ⟨d,.nilc x,g⟩ w bk past) (WD m R os ((⟨d,.nilc x,g⟩,w,fw+1)::todo) past (st.put d w) K):=zel rfl
@[simp] theorem qrz:WQ m R os todo past st K ⟨d,.nilc x,g⟩ (bk+1) 0 w s=Cd (za3 st.V st.E ⟨d,.nilc x,g⟩ w (bk+1) past) (WD m R os todo past (st.put d w) K):=by rw [zdu rfl]; rfl
@[simp] theorem q14 (op:BinOp):WQ m R os todo past st K ⟨d,.bin op x y,g⟩ 0 0 w s=WD m R os todo past (st.put d w) K:=zeh rfl
@[simp] theorem qzc (op:BinOp):WQ m R os todo past st K ⟨d,.bin op x y,g⟩ bk (fw+1) w s=Cd (za3 st.V st.E ⟨d,.bin op x y,g⟩ w bk past) (WD m R os ((⟨d,.bin op x y,g⟩,w,fw+1)::todo) past (st.put d w) K):=zel rfl
@[simp] theorem qrm (op:BinOp):WQ m R os todo past st K ⟨d,.bin op x y,g⟩ (bk+1) 0 w s=Cd (za3 st.V st.E ⟨d,.bin op x y,g⟩ w (bk+1) past) (WD m R os todo past (st.put d w) K):=by rw [zdu rfl]; rfl
@[simp] theorem qu2 (n:Bool):WQ m R os todo past st K ⟨d,.eqb n ks x y,g⟩ 0 0 w s=WD m R os todo past (st.put d w) K:=zeh rfl
@[simp] theorem q3x (n:Bool):WQ m R os todo past st K ⟨d,.eqb n ks x y,g⟩ bk (fw+1) w s=Cd (za3 st.V st.E ⟨d,.eqb n ks x y,g⟩ w bk past) (WD m R os ((⟨d,.eqb n ks x y,g⟩,w,fw+1)::todo) past (st.put d w) K):=zel rfl
@[simp] theorem qwo (n:Bool):WQ m R os todo past st K ⟨d,.eqb n ks x y,g⟩ (bk+1) 0 w s=Cd (za3 st.V st.E ⟨d,.eqb n ks x y,g⟩ w (bk+1) past) (WD m R os todo past (st.put d w) K):=by rw [zdu rfl]; rfl
@[simp] theorem q2p (op:UnOp):WQ m R os todo past st K ⟨d,.un op x,g⟩ 0 0 w s=WD m R os todo past (st.put d w) K:=zeh rfl
@[simp] theorem qzp (op:UnOp):WQ m R os todo past st K ⟨d,.un op x,g⟩ bk (fw+1) w s=Cd (za3 st.V st.E ⟨d,.un op x,g⟩ w bk past) (WD m R os ((⟨d,.un op x,g⟩,w,fw+1)::todo) past (st.put d w) K):=zel rfl
@[simp] theorem q19 (op:UnOp):WQ m R os todo past st K ⟨d,.un op x,g⟩ (bk+1) 0 w s=Cd (za3 st.V st.E ⟨d,.un op x,g⟩ w (bk+1) past) (WD m R os todo past (st.put d w) K):=by rw [zdu rfl]; rfl
@[simp] theorem qx3:WQ m R os todo past st K ⟨d,.convI k x,g⟩ 0 0 w s=WD m R os todo past (st.put d w) K:=zeh rfl
@[simp] theorem qy6:WQ m R os todo past st K ⟨d,.convI k x,g⟩ bk (fw+1) w s=Cd (za3 st.V st.E ⟨d,.convI k x,g⟩ w bk past) (WD m R os ((⟨d,.convI k x,g⟩,w,fw+1)::todo) past (st.put d w) K):=zel rfl
@[simp] theorem q1g:WQ m R os todo past st K ⟨d,.convI k x,g⟩ (bk+1) 0 w s=Cd (za3 st.V st.E ⟨d,.convI k x,g⟩ w (bk+1) past) (WD m R os todo past (st.put d w) K):=by rw [zdu rfl]; rfl
@[simp] theorem q0w:WQ m R os todo past st K ⟨d,.toS x,g⟩ 0 0 w s=WD m R os todo past (st.put d w) K:=zeh rfl
@[simp] theorem qz8:WQ m R os todo past st K ⟨d,.toS x,g⟩ bk (fw+1) w s=Cd (za3 st.V st.E ⟨d,.toS x,g⟩ w bk past) (WD m R os ((⟨d,.toS x,g⟩,w,fw+1)::todo) past (st.put d w) K):=zel rfl
@[simp] theorem qrx:WQ m R os todo past st K ⟨d,.toS x,g⟩ (bk+1) 0 w s=Cd (za3 st.V st.E ⟨d,.toS x,g⟩ w (bk+1) past) (WD m R os todo past (st.put d w) K):=by rw [zdu rfl]; rfl
@[simp] theorem q2s:WQ m R os todo past st K ⟨d,.mkfn f caps,g⟩ 0 0 w s=WD m R os todo past (st.put d w) K:=zeh rfl
@[simp] theorem qtj:WQ m R os todo past st K ⟨d,.mkfn f caps,g⟩ bk (fw+1) w s=Cd (za3 st.V st.E ⟨d,.mkfn f caps,g⟩ w bk past) (WD m R os ((⟨d,.mkfn f caps,g⟩,w,fw+1)::todo) past (st.put d w) K):=zel rfl
@[simp] theorem q1b:WQ m R os todo past st K ⟨d,.mkfn f caps,g⟩ (bk+1) 0 w s=Cd (za3 st.V st.E ⟨d,.mkfn f caps,g⟩ w (bk+1) past) (WD m R os todo past (st.put d w) K):=by rw [zdu rfl]; rfl
@[simp] theorem qz0:WQ m R os todo past st K ⟨d,.slice sz x lo hi mx,g⟩ 0 0 w s=WD m R os todo past (st.put d w) K:=zeh rfl
@[simp] theorem qw4:WQ m R os todo past st K ⟨d,.slice sz x lo hi mx,g⟩ bk (fw+1) w s=Cd (za3 st.V st.E ⟨d,.slice sz x lo hi mx,g⟩ w bk past) (WD m R os ((⟨d,.slice sz x lo hi mx,g⟩,w,fw+1)::todo) past (st.put d w) K):=zel rfl
@[simp] theorem qzx:WQ m R os todo past st K ⟨d,.slice sz x lo hi mx,g⟩ (bk+1) 0 w s=Cd (za3 st.V st.E ⟨d,.slice sz x lo hi mx,g⟩ w (bk+1) past) (WD m R os todo past (st.put d w) K):=by rw [zdu rfl]; rfl
@[simp] theorem q4j:WQ m R os todo past st K ⟨d,.sliceS x lo hi,g⟩ 0 0 w s=WD m R os todo past (st.put d w) K:=zeh rfl
@[simp] theorem qr6:WQ m R os todo past st K ⟨d,.sliceS x lo hi,g⟩ bk (fw+1) w s=Cd (za3 st.V st.E ⟨d,.sliceS x lo hi,g⟩ w bk past) (WD m R os ((⟨d,.sliceS x lo hi,g⟩,w,fw+1)::todo) past (st.put d w) K):=zel rfl
@[simp] theorem q20:WQ m R os todo past st K ⟨d,.sliceS x lo hi,g⟩ (bk+1) 0 w s=Cd (za3 st.V st.E ⟨d,.sliceS x lo hi,g⟩ w (bk+1) past) (WD m R os todo past (st.put d w) K):=by rw [zdu rfl]; rfl
@[simp] theorem qok (off:Nat):WQ m R os todo past st K ⟨d,.faddr off x,g⟩ 0 0 w s=WD m R os todo past (st.put d w) K:=zeh rfl
@[simp] theorem qz9 (off:Nat):WQ m R os todo past st K ⟨d,.faddr off x,g⟩ bk (fw+1) w s=Cd (za3 st.V st.E ⟨d,.faddr off x,g⟩ w bk past) (WD m R os ((⟨d,.faddr off x,g⟩,w,fw+1)::todo) past (st.put d w) K):=zel rfl
@[simp] theorem qtt (off:Nat):WQ m R os todo past st K ⟨d,.faddr off x,g⟩ (bk+1) 0 w s=Cd (za3 st.V st.E ⟨d,.faddr off x,g⟩ w (bk+1) past) (WD m R os todo past (st.put d w) K):=by rw [zdu rfl]; rfl
@[simp] theorem qye:WQ m R os todo past st K ⟨d,.iaddr sz x i,g⟩ 0 0 w s=WD m R os todo past (st.put d w) K:=zeh rfl
@[simp] theorem qzn:WQ m R os todo past st K ⟨d,.iaddr sz x i,g⟩ bk (fw+1) w s=Cd (za3 st.V st.E ⟨d,.iaddr sz x i,g⟩ w bk past) (WD m R os ((⟨d,.iaddr sz x i,g⟩,w,fw+1)::todo) past (st.put d w) K):=zel rfl
@[simp] theorem qpq:WQ m R os todo past st K ⟨d,.iaddr sz x i,g⟩ (bk+1) 0 w s=Cd (za3 st.V st.E ⟨d,.iaddr sz x i,g⟩ w (bk+1) past) (WD m R os todo past (st.put d w) K):=by rw [zdu rfl]; rfl
@[simp] theorem q2n:WQ m R os todo past st K ⟨d,.idx x i,g⟩ 0 0 w s=WD m R os todo past (st.put d w) K:=zeh rfl
@[simp] theorem qs1:WQ m R os todo past st K ⟨d,.idx x i,g⟩ bk (fw+1) w s=Cd (za3 st.V st.E ⟨d,.idx x i,g⟩ w bk past) (WD m R os ((⟨d,.idx x i,g⟩,w,fw+1)::todo) past (st.put d w) K):=zel rfl
@[simp] theorem qpn:WQ m R os todo past st K ⟨d,.idx x i,g⟩ (bk+1) 0 w s=Cd (za3 st.V st.E ⟨d,.idx x i,g⟩ w (bk+1) past) (WD m R os todo past (st.put d w) K):=by rw [zdu rfl]; rfl
@[simp] theorem qxo (i:Nat):WQ m R os todo past st K ⟨d,.ext i x,g⟩ 0 0 w s=WD m R os todo past (st.put d w) K:=zeh rfl
@[simp] theorem q0f (i:Nat):WQ m R os todo past st K ⟨d,.ext i x,g⟩ bk (fw+1) w s=Cd (za3 st.V st.E ⟨d,.ext i x,g⟩ w bk past) (WD m R os ((⟨d,.ext i x,g⟩,w,fw+1)::todo) past (st.put d w) K):=zel rfl
@[simp] theorem qrl (i:Nat):WQ m R os todo past st K ⟨d,.ext i x,g⟩ (bk+1) 0 w s=Cd (za3 st.V st.E ⟨d,.ext i x,g⟩ w (bk+1) past) (WD m R os todo past (st.put d w) K):=by rw [zdu rfl]; rfl
@[simp] theorem qvy:WQ m R os todo past st K ⟨d,.len x,g⟩ 0 0 w s=WD m R os todo past (st.put d w) K:=zeh rfl
@[simp] theorem qtm:WQ m R os todo past st K ⟨d,.len x,g⟩ bk (fw+1) w s=Cd (za3 st.V st.E ⟨d,.len x,g⟩ w bk past) (WD m R os ((⟨d,.len x,g⟩,w,fw+1)::todo) past (st.put d w) K):=zel rfl
@[simp] theorem q49:WQ m R os todo past st K ⟨d,.len x,g⟩ (bk+1) 0 w s=Cd (za3 st.V st.E ⟨d,.len x,g⟩ w (bk+1) past) (WD m R os todo past (st.put d w) K):=by rw [zdu rfl]; rfl
@[simp] theorem qtv:WQ m R os todo past st K ⟨d,.lenS x,g⟩ 0 0 w s=WD m R os todo past (st.put d w) K:=zeh rfl
@[simp] theorem qte:WQ m R os todo past st K ⟨d,.lenS x,g⟩ bk (fw+1) w s=Cd (za3 st.V st.E ⟨d,.lenS x,g⟩ w bk past) (WD m R os ((⟨d,.lenS x,g⟩,w,fw+1)::todo) past (st.put d w) K):=zel rfl
@[simp] theorem qzi:WQ m R os todo past st K ⟨d,.lenS x,g⟩ (bk+1) 0 w s=Cd (za3 st.V st.E ⟨d,.lenS x,g⟩ w (bk+1) past) (WD m R os todo past (st.put d w) K):=by rw [zdu rfl]; rfl
@[simp] theorem q3l (b:Bool):WQ m R os todo past st K ⟨d,.mx b x y,g⟩ 0 0 w s=WD m R os todo past (st.put d w) K:=zeh rfl
@[simp] theorem qrn (b:Bool):WQ m R os todo past st K ⟨d,.mx b x y,g⟩ bk (fw+1) w s=Cd (za3 st.V st.E ⟨d,.mx b x y,g⟩ w bk past) (WD m R os ((⟨d,.mx b x y,g⟩,w,fw+1)::todo) past (st.put d w) K):=zel rfl
@[simp] theorem qpj (b:Bool):WQ m R os todo past st K ⟨d,.mx b x y,g⟩ (bk+1) 0 w s=Cd (za3 st.V st.E ⟨d,.mx b x y,g⟩ w (bk+1) past) (WD m R os todo past (st.put d w) K):=by rw [zdu rfl]; rfl
@[simp] theorem qt1 (z:List PV):WQ m R os todo past st K ⟨d,.alloc z,g⟩ bk fw w s=Cd (zce s todo) (WD m R os (zc8 todo) (st::past) (s.put d w) K):=zho rfl
@[simp] theorem q2e:WQ m R os todo past st K ⟨d,.box x,g⟩ bk fw w s=Cd (zce s todo) (WD m R os (zc8 todo) (st::past) (s.put d w) K):=zho rfl
@[simp] theorem qy9 (z:List PV) (ps:List (Nat×Opd)):WQ m R os todo past st K ⟨d,.bslice n sz z ps,g⟩ bk fw w s=Cd (zce s todo) (WD m R os (zc8 todo) (st::past) (s.put d w) K):=zho rfl
@[simp] theorem qyh (z:List PV):WQ m R os todo past st K ⟨d,.allocL z,g⟩ bk fw w s=Cd (zce s todo) (WD m R os (zc8 todo) (st::past) (s.put d w) K):=zho rfl
@[simp] theorem q3k:WQ m R os todo past st K ⟨d,.mvL x,g⟩ bk fw w s=Cd (zce s todo) (WD m R os (zc8 todo) (st::past) (s.put d w) K):=zho rfl
@[simp] theorem q18 (z:List PV) (ps:List (Nat×Opd)):WQ m R os todo past st K ⟨d,.bsliceL n sz z ps,g⟩ bk fw w s=Cd (zce s todo) (WD m R os (zc8 todo) (st::past) (s.put d w) K):=zho rfl
@[simp] theorem quu (szs:List Nat) (a x:Opd):WQ m R os todo past st K ⟨d,.store szs a x,g⟩ bk fw w s=Cd (zce s todo) (WD m R os (zc8 todo) (st::past) (s.put d w) K):=zho rfl
@[simp] theorem qvv (z:List PV) (l c:Opd):WQ m R os todo past st K ⟨d,.mksl b sz z l c,g⟩ bk fw w s=Cd (zce s todo) (WD m R os (zc8 todo) (st::past) (s.put d w) K):=zho rfl
@[simp] theorem qow:WQ m R os todo past st K ⟨d,.call f args,g⟩ bk fw w s=Cd (zce s todo) (WD m R os (zc8 todo) (st::past) (s.put d w) K):=zho rfl
@[simp] theorem q3s (g0:Opd):WQ m R os todo past st K ⟨d,.callv g0 args,g⟩ bk fw w s=Cd (zce s todo) (WD m R os (zc8 todo) (st::past) (s.put d w) K):=zho rfl
@[simp] theorem qul:WQ m R os todo past st K ⟨d,.app b sz y x,g⟩ bk fw w s=Cd (zce s todo) (WD m R os (zc8 todo) (st::past) (s.put d w) K):=zho rfl
@[simp] theorem q02:WQ m R os todo past st K ⟨d,.appS y x,g⟩ bk fw w s=Cd (zce s todo) (WD m R os (zc8 todo) (st::past) (s.put d w) K):=zho rfl
end
section
variable {α:Type}
@[simp] theorem ge0 (a:α) (l:List α):(a::l)[0]?=some a:=rfl
@[simp] theorem ge1 (a0 a1:α) (l:List α):(a0::a1::l)[1]?=some a1:=rfl
@[simp] theorem ge2 (a0 a1 a2:α) (l:List α):(a0::a1::a2::l)[2]?=some a2:=rfl
@[simp] theorem ge3 (a0 a1 a2 a3:α) (l:List α):(a0::a1::a2::a3::l)[3]?=some a3:=rfl
@[simp] theorem ge4 (a0 a1 a2 a3 a4:α) (l:List α):(a0::a1::a2::a3::a4::l)[4]?=some a4:=rfl
@[simp] theorem ge5 (a0 a1 a2 a3 a4 a5:α) (l:List α):(a0::a1::a2::a3::a4::a5::l)[5]?=some a5:=rfl
@[simp] theorem ge6 (a0 a1 a2 a3 a4 a5 a6:α) (l:List α):(a0::a1::a2::a3::a4::a5::a6::l)[6]?=some a6:=rfl
@[simp] theorem ge7 (a0 a1 a2 a3 a4 a5 a6 a7:α) (l:List α):(a0::a1::a2::a3::a4::a5::a6::a7::l)[7]?=some a7:=rfl
@[simp] theorem ge8 (a0 a1 a2 a3 a4 a5 a6 a7 a8:α) (l:List α):(a0::a1::a2::a3::a4::a5::a6::a7::a8::l)[8]?=some a8:=rfl
@[simp] theorem ge9 (a0 a1 a2 a3 a4 a5 a6 a7 a8 a9:α) (l:List α):(a0::a1::a2::a3::a4::a5::a6::a7::a8::a9::l)[9]?=some a9:=rfl
@[simp] theorem q4a (a0 a1 a2 a3 a4 a5 a6 a7 a8 a9 a10:α) (l:List α):(a0::a1::a2::a3::a4::a5::a6::a7::a8::a9::a10::l)[10]?=some a10:=rfl
@[simp] theorem qr7 (a0 a1 a2 a3 a4 a5 a6 a7 a8 a9 a10 a11:α) (l:List α):(a0::a1::a2::a3::a4::a5::a6::a7::a8::a9::a10::a11::l)[11]?=some a11:=rfl
end
@[simp] theorem qy1:zb4 (.v (.int k ((n:Int)+1)))=some (n+1):=qeb k (n+1)
@[simp] theorem q4f:zb4 (.v (.int k 1))=some 1:=rfl
@[simp] theorem qwz:zb4 (.v (.int k 2))=some 2:=rfl
@[simp] theorem qq7:zb4 (.v (.int k 3))=some 3:=rfl
@[simp] theorem qsl:zb4 (.v (.int k 4))=some 4:=rfl
@[simp] theorem q2b:zb4 (.v (.int k 5))=some 5:=rfl
theorem fr {o n:Nat} (h:o<n):(o=n)=False/\(n=o)=False/\(∀ j:Nat,(o=n+j)=False)/\∀ j:Nat,(n+j=o)=False:=by
 refine ⟨?_,?_,fun j => ?_,fun j => ?_⟩ <;> simp <;> omega
@[simp] theorem as1:n+1+1=n+2:=rfl
@[simp] theorem as2:n+2+1=n+3:=rfl
@[simp] theorem as3:n+3+1=n+4:=rfl
@[simp] theorem as4:n+4+1=n+5:=rfl
@[simp] theorem as5:n+5+1=n+6:=rfl
@[simp] theorem as6:n+6+1=n+7:=rfl
@[simp] theorem as7:n+7+1=n+8:=rfl
@[simp] theorem as8:n+8+1=n+9:=rfl
@[simp] theorem as9:n+9+1=n+10:=rfl
@[simp] theorem qsd:n+10+1=n+11:=rfl
@[simp] theorem qtw:n+11+1=n+12:=rfl
@[simp] theorem qtg:n+12+1=n+13:=rfl
@[simp] theorem q1e:n+13+1=n+14:=rfl
@[simp] theorem qz7:n+14+1=n+15:=rfl
@[simp] theorem qu3:n+15+1=n+16:=rfl
@[simp] theorem quy:n+16+1=n+17:=rfl
@[simp] theorem qtx:n+17+1=n+18:=rfl
@[simp] theorem qu1:n+18+1=n+19:=rfl
@[simp] theorem qt9:n+19+1=n+20:=rfl
@[simp] theorem qvg:n+20+1=n+21:=rfl
@[simp] theorem q0h:n+21+1=n+22:=rfl
@[simp] theorem q2y:n+22+1=n+23:=rfl
@[simp] theorem qp0:n+23+1=n+24:=rfl
theorem zae {T:zch} {ms:List Bool} {rv:List RV} {ic:IC} (hT:T f=some (.code ⟨ms,rv,ic⟩)) {args:List PV} {r:List PV×List PV} {st:St} (hi:zkp args=some st) (h:W (zad T) (RUN T) ic st (Fin rv st.nx r ⟨⟩ ⟨⟩)):RUN T f args=some r:=by
 refine ysr hT ?_;obtain ⟨e,s,h1,h2,h3⟩:=h;unfold zx2;rw [hi];simp only [Option.bind_some,h1];rcases h2 with rfl | rfl <;> exact h3
def Rnd (Inv:Nat->St->Prop) (n:Nat) (Q:Ex->St->Prop) (_:Dm Inv) (_:Dm Q):Ex->St->Prop
 | .normal,s => ∃ k,k<n/\Inv k s
 | e,s=>Q e s
@[simp] theorem qzd {Inv:Nat->St->Prop}:Rnd Inv n Q ⟨⟩ ⟨⟩ .ret s=Q .ret s:=rfl
@[simp] theorem q1q {Inv:Nat->St->Prop} {i:Nat}:Rnd Inv n Q ⟨⟩ ⟨⟩ (.exit i) s=Q (.exit i) s:=rfl
theorem zan {m:Nat->List Bool} {R:zak} {c:IC} (Inv:Nat->St->Prop) (step : ∀ n st,Inv n st->W m R c st (Rnd Inv n Q ⟨⟩ ⟨⟩)) : ∀ n st,Inv n st->W m R (.loop c) st Q:=by
 intro n
 induction n using Nat.strongRecOn with
 | ind n ih =>
  intro st hI;obtain ⟨e,s,h1,h2⟩:=step n st hI;cases e with
  | normal =>
   obtain ⟨k,hk,hI'⟩:=h2;obtain ⟨e',s',h3,h4⟩:=ih k hk s hI';exact ⟨e',s',by rw [z7w,h1]; exact h3,h4⟩
  | exit i=>exact ⟨_,_,by rw [z7w,h1]; rfl,h2⟩
  | ret=>exact ⟨_,_,by rw [z7w,h1]; rfl,h2⟩
theorem qg0 {m:Nat->List Bool} {R:zak} {c:IC} {st:St}:W m R (.loop c) st Q=W m R c st (Nx (fun s=>W m R (.loop c) s Q) Q ⟨⟩ ⟨⟩):=by
 rw [<- qdx];simp only [W,yrq];rw [z7w]
theorem zah {Inv:Nat->St->Prop} (k:Nat) (h:k<n) (hI:Inv k s):Rnd Inv n Q ⟨⟩ ⟨⟩ .normal s:=⟨k,h,hI⟩
theorem W.mono {m:Nat->List Bool} {R:zak} {c:IC} {st:St} {Q Q':Ex->St->Prop} (h:W m R c st Q) (hq : ∀ e s,Q e s->Q' e s):W m R c st Q':=by
 obtain ⟨e,s,h1,h2⟩:=h;exact ⟨e,s,h1,hq e s h2⟩
attribute [irreducible] W WO WD WI WQ Ob' Br Cd Nx Bl Fin
end Go.Pe
namespace Go.Pe
open Go
def zhj (sz by_:Nat):List PV->Option (List PV×List PV)
 | [.sl s es]=>if s=sz/\zcf es=true/\zag by_ es.length=true then some ([.own sz es],[]) else none
 | _=>none
theorem ycr {T:zch} {f sz by_:Nat} (hT:T f=some (.known [] (zhj sz by_))) {es:List (List PV)} (hv:zcf es=true) (hr:zag by_ es.length=true):RUN T f [.sl sz es]=some ([.own sz es],[]) :=
 ycy hT (if_pos ⟨rfl,hv,hr⟩)
def zcl (l:List Int):List (List PV):=l.map fun n=>[.v (.int .i64 n)]
def ybd:List PV->Option Int
 | [.v (.int .i64 n)]=>some n
 | _=>none
def zpz:List (List PV)->Option (List Int)
 | []=>some []
 | c::cs=>(ybd c).bind fun n=>(zpz cs).map (n :: ·)
theorem yck : ∀ l:List Int,zpz (zcl l)=some l
 | []=>rfl
 | n::l=>by
  have:=yck l;unfold zcl at this;simp [zcl,zpz,ybd,this]
theorem ycw : ∀ {es:List (List PV)} {l:List Int},zpz es=some l->es=zcl l
 | [],l,h=>by cases h; rfl
 | c::cs,l,h=>by
  simp only [zpz] at h;obtain ⟨n,h1,h⟩:=bA h;simp only [bB] at h;obtain ⟨l',h2,rfl⟩:=h;rw [ycw h2];unfold ybd at h1;split at h1
  ·cases h1; rfl
  ·cases h1
def zim (l:List Int):List Int:=l.mergeSort fun x y=>decide (x<=y)
def zpu:List PV->Option (List PV×List PV)
 | [.own 1 es]=>(zpz es).bind fun l=>if l.length<4611686018427387904 then some ([],[.own 1 (zcl (zim l))]) else none
 | _=>none
def zpc:List PV->Option (List PV×List PV)
 | [.own 1 es]=>(zpz es).bind fun l=>if l.length<4611686018427387904 then some ([.own 1 (zcl (Lib.compact l))],[.undef]) else none
 | _=>none
theorem qcj {T:zch} {f:Nat} (hT:T f=some (.known [true] zpu)) {l:List Int} (hl:l.length<4611686018427387904):RUN T f [.own 1 (zcl l)]=some ([],[.own 1 (zcl (zim l))]) :=
 ycy hT (by simp [zpu,yck,hl])
theorem qhr {T:zch} {f:Nat} (hT:T f=some (.known [true] zpc)) {l:List Int} (hl:l.length<4611686018427387904):RUN T f [.own 1 (zcl l)]=some ([.own 1 (zcl (Lib.compact l))],[.undef]) :=
 ycy hT (by simp [zpc,yck,hl])
end Go.Pe
