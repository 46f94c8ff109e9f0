/- An evaluator over compact texts of Go functions is defined,and how it goes on is told,operation by operation; no condition. -/
import Derived.Calls
import Derived.Laws.AppendOwn
import Derived.Lib.SlicesCompact
set_option linter.all false
namespace Go.Pe
open Go
theorem bJ {a b c:Nat} (h:a<=b) (k:b<=c):a<=c:=Nat.le_trans h k
theorem bK {p:Prop} (h:¬p):p=False:=eq_false h
theorem bL (p:Prop):p=True\/p=False:=Classical.propComplete p
theorem bM {α:Type} {a:α} {l m:List α} (h:a∈l++m):a∈l\/a∈m:=List.mem_append.mp h
theorem bN {α:Type} {l:List α} {i:Nat} (h:l.length<=i):l.drop i=[]:=List.drop_eq_nil_of_le h
theorem bO {α:Type} {l m:List α} {i:Nat} (h:l.length<=i):(l++m)[i]?=m[i-l.length]?:=List.getElem?_append_right h
theorem bA {α β:Type} {x:Option α} {f:α->Option β} {b:β} (h:x.bind f=some b) : ∃ a,x=some a/\f a=some b:=Option.bind_eq_some_iff.mp h
theorem bB {α β:Type} {x:Option α} {f:α->β} {b:β}:Option.map f x=some b ↔ ∃ a,x=some a/\f a=b:=Option.map_eq_some_iff
theorem bC {α:Type} {a b:α}:(some a=some b)=(a=b):=Option.some.injEq a b
theorem bD {α:Type} {l:List α} {i:Nat} {a:α} (h:l[i]?=some a) : ∃ w:i<l.length,l[i]=a:=List.getElem?_eq_some_iff.mp h
theorem bF {α:Type} {l:List α} {i:Nat} {a:α} (h:l[i]?=some a):a∈l:=List.mem_of_getElem? h
theorem bG {α:Type} {l:List α} {i:Nat} (h:i<l.length):l[i]?=some l[i]:=List.getElem?_eq_getElem h
theorem bH {α:Type} {l:List α} {a:α} (h:a∈l) : ∃ i:Nat,l[i]?=some a:=List.getElem?_of_mem h
theorem bI {a b:Prop} (x:a) (y:b):a/\b:=⟨x,y⟩
inductive PV where
 | undef
 | v (x:Value)
 | e0
 | sl (sz:Nat) (es:List (List PV))
 | own (sz:Nat) (es:List (List PV))
 | bx (cs:List PV)
 | ref (o:Nat) (p:Option (Nat×Nat)) (ep lo len:Nat)
 | ptr (o:Nat) (p:Option (Nat×Nat)) (ep i j:Nat)
 | fptr (cs:List PV) (j:Nat)
 | fn (f:Nat) (caps:List PV)
 | agg (cs:List PV)
 | tup (vs:List PV)
inductive Ob where
 | row (sz:Nat) (es:List (List PV))
 | rowF (sz:Nat) (es:List (List PV))
 | box (cs:List PV)
 | shadow (sz:Nat) (es:List (List PV)) (ep:Nat)
structure St where
 V:Nat->PV
 E:Nat->PV
 S:Nat->Option Ob
 nx:Nat
 ep:Nat
inductive Opd where
 | V (k:Nat)
 | E (k:Nat)
 | C (x:PV)
inductive Dst where
 | V (k:Nat)
 | E (k:Nat)
inductive Kd where
 | b
 | i (k:IntKind)
 | s
inductive IOp where
 | mv (x:Opd)
 | pick (c a b:Opd)
 | alloc (z:List PV)
 | box (x:Opd)
 | build (z:List PV) (parts:List (Nat×Nat×Opd))
 | bslice (n sz:Nat) (z:List PV) (parts:List (Nat×Opd))
 | allocL (z:List PV)
 | mvL (x:Opd)
 | bsliceL (n sz:Nat) (z:List PV) (parts:List (Nat×Opd))
 | load (ag:Bool) (sz:Nat) (a:Opd)
 | store (szs:List Nat) (a x:Opd)
 | nilc (x:Opd)
 | bin (op:BinOp) (x y:Opd)
 | eqb (neg:Bool) (ks:List Kd) (x y:Opd)
 | un (op:UnOp) (x:Opd)
 | convI (k:IntKind) (x:Opd)
 | toS (x:Opd)
 | mkfn (f:Nat) (caps:List Opd)
 | mksl (bytes sz:Nat) (z:List PV) (l c:Opd)
 | slice (sz:Nat) (x:Opd) (lo hi mx:Option Opd)
 | sliceS (x:Opd) (lo hi:Option Opd)
 | faddr (off:Nat) (x:Opd)
 | iaddr (sz:Nat) (x i:Opd)
 | idx (x i:Opd)
 | ext (i:Nat) (x:Opd)
 | call (f:Nat) (args:List (List Nat×Opd))
 | callv (g:Opd) (args:List (List Nat×Opd))
 | len (x:Opd)
 | lenS (x:Opd)
 | app (bytes sz:Nat) (s x:Opd)
 | appS (s x:Opd)
 | mx (big:Bool) (x y:Opd)
structure zac where
 dst:Option Dst
 op:IOp
 guard:Option (Opd×Bool)
inductive IC where
 | skip
 | reg (ops:List zac)
 | regD (ops:List (zac×Nat×Nat))
 | seq (a b:IC)
 | cond (c:Opd) (x y:IC)
 | block (id:Nat) (c:IC)
 | loop (c:IC)
 | exit (id:Nat)
 | ret
inductive Ex where
 | normal
 | exit (id:Nat)
 | ret
inductive RV where
 | tmp (szs:List Nat) (k:Nat)
 | cell (szs:List Nat) (k:Nat) (ag:Bool)
 | pl
structure IFn where
 modes:List Bool
 results:List RV
 body:IC
def Opd.get (st:St):Opd->PV
 | .V k=>st.V k
 | .E k=>st.E k
 | .C x=>x
def upd {α:Type} (f:Nat->α) (k:Nat) (x:α):Nat->α:=fun i=>if i=k then x else f i
def St.put (st:St):Option Dst->PV->St
 | none,_=>st
 | some (.V k),x => { st with V:=upd st.V k x }
 | some (.E k),x => { st with E:=upd st.E k x }
def isV:PV->Bool
 | .v _=>true
 | _=>false
def okV:Value->Bool
 | .bool _=>true
 | .int _ _=>true
 | .string _=>true
 | .pointer none=>true
 | .nilFunc=>true
 | .nilIface=>true
 | _=>false
def zch (es:List (List PV)):Bool:=es.all fun e=>e.all isV
def zbe (es:List (List PV)) (i j:Nat):Option (Nat×List (List PV)) :=
 match es[i]? with
 | some cs =>
  match cs[j]? with
  | some (.own sz es')=>some (sz,es')
  | _=>none
 | none=>none
def zb4 (es:List (List PV)) (i j:Nat) (c:PV):List (List PV) :=
 match es[i]? with
 | some cs=>es.set i (cs.set j c)
 | none=>es
def zax (ce:Nat):Option Ob->Option (Nat×Nat)->Nat->Option (Nat×List (List PV))
 | some (.row sz es),none,_=>some (sz,es)
 | some (.row _ es),some (i,j),ep=>if ep=ce then zbe es i j else none
 | some (.rowF sz es),none,_=>some (sz,es)
 | some (.shadow sz es e),none,_=>if e=ce then some (sz,es) else none
 | _,_,_=>none
def zfx (st:St) (o:Nat) (p:Option (Nat×Nat)) (ep:Nat):Option (Nat×List (List PV)):=zax st.ep (st.S o) p ep
def cut (es:List (List PV)) (lo len:Nat):List (List PV):=if lo=0/\len=es.length then es else (es.drop lo).take len
def zfw (st:St):PV->Option (Nat×List (List PV))
 | .sl sz es=>some (sz,es)
 | .ref o p ep lo len=>(zfx st o p ep).map fun r=>(r.1,cut r.2 lo len)
 | _=>none
def fz:PV->PV
 | .own sz es => .sl sz es
 | c=>c
def rd (o ep i j:Nat):PV->PV
 | .own _ es => .ref o (some (i,j)) ep 0 es.length
 | c=>c
def zh3 (o ep i:Nat):Nat->List PV->List PV
 | _,[]=>[]
 | j,c::cs=>rd o ep i j c::zh3 o ep i (j+1) cs
def rdV:PV->PV
 | .v x => .v x
 | _ => .undef
def seg (cs:List PV) (j sz:Nat):Option (List PV):=if j+sz<=cs.length then some ((cs.drop j).take sz) else none
def zlf (ag:Bool) (cs:List PV):Option PV :=
 if ag then some (.agg cs) else match cs with
 | [c]=>some c
 | _=>none
def zi1 (ce:Nat) (o sz:Nat):Option Ob->Option (Nat×Nat)->Nat->Nat->Nat->Option (List PV)
 | some (.box cs),none,_,i,j=>if i=0 then seg cs j sz else none
 | some (.row _ es),none,_,i,j=>(es[i]?).bind fun cs=>(seg cs j sz).map (zh3 o ce i j)
 | some (.row _ es),some (a,b),ep,i,j=>if ep=ce then (zbe es a b).bind fun r=>(r.2[i]?).bind fun cs=>(seg cs j sz).map (·.map rdV) else none
 | some (.rowF _ es),none,_,i,j=>(es[i]?).bind fun cs=>(seg cs j sz).map (·.map fz)
 | some (.shadow _ es e),none,_,i,j=>if e=ce then (es[i]?).bind fun cs=>(seg cs j sz).map (·.map rdV) else none
 | _,_,_,_,_=>none
def loadCells (st:St) (sz:Nat):PV->Option (List PV)
 | .fptr cs j=>(seg cs j sz).map (·.map fz)
 | .ptr o p ep i j=>zi1 st.ep o sz (st.S o) p ep i j
 | _=>none
def cellsOf:PV->List PV
 | .agg cs=>cs
 | x=>[x]
def zgd (st:St) (o:Nat):Option Ob->Option (Nat×Nat)->Nat->Nat->Option (PV×St)
 | some (.row s es),none,lo,len=>if lo=0/\len=es.length then some (.own s es,{ st with S:=upd st.S o (some (.shadow s es st.ep)) }) else none
 | _,_,_,_=>none
def zfp (st:St) (sz:Nat):PV->Option (PV×St)
 | .v x=>if okV x then some (.v x,st) else none
 | .e0=>some (.own sz [],st)
 | .ref o p _ lo len=>zgd st o (st.S o) p lo len
 | _=>none
def zdt (st:St):List Nat->List PV->Option (List PV×St)
 | sz::szs,c::cs=>(zfp st sz c).bind fun r=>(zdt r.2 szs cs).bind fun q=>some (r.1::q.1,q.2)
 | [],[]=>some ([],st)
 | _,_=>none
def toF (sz:Nat):PV->Option PV
 | .v x=>if okV x then some (.v x) else none
 | .e0=>some (.sl sz [])
 | .sl s es=>some (.sl s es)
 | _=>none
def zfd:List Nat->List PV->Option (List PV)
 | sz::szs,c::cs=>(toF sz c).bind fun x=>(zfd szs cs).bind fun xs=>some (x::xs)
 | [],[]=>some []
 | _,_=>none
def isF:PV->Bool
 | .sl _ _=>true
 | _=>false
def zc2:PV->Bool
 | .v x=>okV x
 | .e0=>true
 | .sl _ _=>true
 | .ref .. => true
 | _=>false
def over (cs:List PV) (j:Nat) (xs:List PV):List PV:=cs.take j++xs++cs.drop (j+xs.length)
def ze1:PV->Bool
 | .v x=>okV x
 | _=>false
def zi7 (st:St) (o i j:Nat) (ys:List PV):Option Ob->Option St
 | some (.row sz es)=>(es[i]?).bind fun cs =>
  if j+ys.length<=cs.length then
   some { st with S:=upd st.S o (some (.row sz (es.set i (over cs j ys)))),ep:=if ys.all isV && ((cs.drop j).take ys.length).all isV then st.ep else st.ep+1 }
  else none
 | _=>none
def zju:List PV->Option (Nat×(Nat×Nat)×Nat×Nat×Nat)
 | [.ref o (some q) ep lo len]=>some (o,q,ep,lo,len)
 | _=>none
def zym (st:St) (o i j:Nat) (d:Nat×(Nat×Nat)×Nat×Nat×Nat) (s:Nat) (es:List (List PV)):Option St :=
 if d.1=o/\d.2.1=(i,j)/\d.2.2.1=st.ep then
  (zbe es i j).bind fun r=>if d.2.2.2.1+d.2.2.2.2<=r.2.length then some { st with S:=upd st.S o (some (.row s (zb4 es i j (.own r.1 (cut r.2 d.2.2.2.1 d.2.2.2.2))))),ep:=st.ep+1 } else none
 else none
def zfs (st:St) (szs:List Nat) (xs:List PV) (o:Nat):Option Ob->Option (Nat×Nat)->Nat->Nat->Nat->Option St
 | some (.box cs),none,_,i,j=>if i=0/\j+xs.length<=cs.length/\xs.all zc2 then some { st with S:=upd st.S o (some (.box (over cs j xs))) } else none
 | some (.row s es),none,_,i,j=>match zju xs with
  | some d=>zym st o i j d s es
  | none=>(zdt st szs xs).bind fun r=>zi7 r.2 o i j r.1 (r.2.S o)
 | some (.row sz es),some (a,b),ep,i,j =>
  if ep=st.ep/\xs.all ze1 then
   (zbe es a b).bind fun q=>(q.2[i]?).bind fun cs =>
    if j+xs.length<=cs.length then
     some { st with S:=upd st.S o (some (.row sz (zb4 es a b (.own q.1 (q.2.set i (over cs j xs)))))),ep:=st.ep+1 }
    else none
  else none
 | some (.rowF sz es),none,_,i,j=>(zfd szs xs).bind fun ys=>(es[i]?).bind fun cs =>
  if j+ys.length<=cs.length then some { st with S:=upd st.S o (some (.rowF sz (es.set i (over cs j ys)))) } else none
 | _,_,_,_,_=>none
def zvk (st:St) (szs:List Nat) (xs:List PV):PV->Option St
 | .ptr o p ep i j=>if xs.length=szs.length then zfs st szs xs o (st.S o) p ep i j else none
 | _=>none
def storeAt (st:St) (szs:List Nat) (a x:PV):Option St:=zvk st szs (cellsOf x) a
def newRow (st:St) (sz:Nat) (es:List (List PV)):PV×St :=
 (.ref st.nx none st.ep 0 es.length,{ st with S:=upd st.S st.nx (some (.row sz es)),nx:=st.nx+1 })
def zia (st:St) (sz:Nat) (es:List (List PV)):PV×St :=
 (.ref st.nx none st.ep 0 es.length,{ st with S:=upd st.S st.nx (some (.rowF sz es)),nx:=st.nx+1 })
def zca (st:St) (cs:List PV):PV×St :=
 (.ptr st.nx none st.ep 0 0,{ st with S:=upd st.S st.nx (some (.box cs)),nx:=st.nx+1 })
def zpl:PV->Nat
 | .own sz _=>sz
 | _=>0
def zdj (st:St) (z:List PV) (es:List (List PV)):List (Nat×PV)->Option (List (List PV)×St)
 | []=>some (es,st)
 | (i,x)::r=>(zdt st (z.map zpl) (cellsOf x)).bind fun q=>if i<es.length then zdj q.2 z (es.set i q.1) r else none
def zi4 (z:List PV) (es:List (List PV)):List (Nat×PV)->Option (List (List PV))
 | []=>some es
 | (i,x)::r=>(zfd (z.map zpl) (cellsOf x)).bind fun ys=>if i<es.length then zi4 z (es.set i ys) r else none
def zlk (ce a b ep lo len:Nat):Option Ob->Option ((Nat×List (List PV))×Ob)
 | some (.row s es)=>if ep=ce then (zbe es a b).map fun r=>((r.1,cut r.2 lo len),.rowF s (es.map fun e=>e.map fz)) else none
 | _=>none
def zdd (st:St):List (Nat×PV)->List (Nat×PV)
 | [(i,.ref o (some (a,b)) ep lo len)]=>(zlk st.ep a b ep lo len (st.S o)).elim [(i,.ref o (some (a,b)) ep lo len)] fun r=>[(i,.sl r.1.1 r.1.2)]
 | l=>l
def zdi (st:St):List (Nat×PV)->St
 | [(_,.ref o (some (a,b)) ep lo len)]=>(zlk st.ep a b ep lo len (st.S o)).elim st fun r => { st with S:=upd st.S o (some r.2),ep:=st.ep+1 }
 | _=>st
def zhl (cs:List PV):List (Nat×Nat×PV)->Option (List PV)
 | []=>some cs
 | (off,sz,x)::r =>
  if (cellsOf x).length=sz/\off+sz<=cs.length/\(cellsOf x).all zc2 then zhl (over cs off (cellsOf x)) r else none
def zhy:PV->Option Int
 | .v (.int _ n)=>some n
 | _=>none
def zg8:PV->Option Bool
 | .v (.bool b)=>some b
 | _=>none
def zc5:PV->Option ByteArray
 | .v (.string s)=>some s
 | _=>none
def zbd:BinOp->Value->Value->Option Value
 | .add,.int k a,.int k' b=>if k=k' then some (.int k (k.wrap (a+b))) else none
 | .sub,.int k a,.int k' b=>if k=k' then some (.int k (k.wrap (a-b))) else none
 | .mul,.int k a,.int k' b=>if k=k' then some (.int k (k.wrap (a*b))) else none
 | .quo,.int k a,.int k' b=>if k=k'/\b≠0 then some (.int k (k.wrap (a.tdiv b))) else none
 | .rem,.int k a,.int k' b=>if k=k'/\b≠0 then some (.int k (a.tmod b)) else none
 | .and,.int k a,.int k' b=>if k=k' then some (.int k (k.wrap (BitVec.ofInt k.bits a &&& BitVec.ofInt k.bits b).toNat)) else none
 | .or,.int k a,.int k' b=>if k=k' then some (.int k (k.wrap (BitVec.ofInt k.bits a ||| BitVec.ofInt k.bits b).toNat)) else none
 | .xor,.int k a,.int k' b=>if k=k' then some (.int k (k.wrap (BitVec.ofInt k.bits a ^^^ BitVec.ofInt k.bits b).toNat)) else none
 | .shl,.int k a,.int _ b=>if 0<=b then some (.int k (k.wrap (a*2 ^ min b.toNat k.bits))) else none
 | .shr,.int k a,.int _ b=>if 0<=b then some (.int k (a.fdiv (2 ^ min b.toNat k.bits))) else none
 | .eql,.int k a,.int k' b=>if k=k' then some (.bool (a == b)) else none
 | .neq,.int k a,.int k' b=>if k=k' then some (.bool (a != b)) else none
 | .lss,.int k a,.int k' b=>if k=k' then some (.bool (a<b)) else none
 | .leq,.int k a,.int k' b=>if k=k' then some (.bool (a<=b)) else none
 | .gtr,.int k a,.int k' b=>if k=k' then some (.bool (a > b)) else none
 | .geq,.int k a,.int k' b=>if k=k' then some (.bool (a ≥ b)) else none
 | .add,.string a,.string b=>if ((a.size+b.size:Nat):Int)<=IntKind.i64.max then some (.string (a++b)) else none
 | .eql,.string a,.string b=>some (.bool (a.toList == b.toList))
 | .neq,.string a,.string b=>some (.bool !(a.toList == b.toList))
 | .lss,.string a,.string b=>some (.bool (Op.bytesLess a.toList b.toList))
 | _,_,_=>none
def unV:UnOp->Value->Option Value
 | .neg,.int k a=>some (.int k (k.wrap (0-a)))
 | .not,.bool b=>some (.bool !b)
 | _,_=>none
def zm3 (op:BinOp):PV->PV->Option PV
 | .v a,.v b=>(zbd op a b).map .v
 | _,_=>none
def unP (op:UnOp):PV->Option PV
 | .v a=>(unV op a).map .v
 | _=>none
def eqV:Kd->Value->Value->Option Bool
 | .i k,.int k1 a,.int k2 b=>if k1=k/\k2=k then some (a == b) else none
 | .b,.bool a,.bool b=>some (a == b)
 | .s,.string a,.string b=>some (a == b)
 | _,_,_=>none
def zcb:List Kd->List PV->List PV->Option Bool
 | [],[],[]=>some true
 | k::ks,.v x::xs,.v y::ys=>(eqV k x y).bind fun b=>if b then zcb ks xs ys else some false
 | _,_,_=>none
def eqP:List Kd->PV->PV->Option Bool
 | [k],.v x,.v y=>eqV k x y
 | k::l::ks,.agg xs,.agg ys=>zcb (k::l::ks) xs ys
 | _,_,_=>none
def zb2 (x:PV):Option Nat:=(zhy x).bind fun n=>if 0<=n then some n.toNat else none
def lenOf (st:St):PV->Option Nat
 | .e0=>some 0
 | .sl _ es=>some es.length
 | .ref o p ep _ len=>if (zfx st o p ep).isSome then some len else none
 | _=>none
def iaddr (st:St) (sz i:Nat):PV->Option PV
 | .sl s es=>if s=sz then (es[i]?).map fun cs => .fptr cs 0 else none
 | .ref o p ep lo len=>(zfx st o p ep).bind fun r=>if r.1=sz/\i<len then some (.ptr o p ep (lo+i) 0) else none
 | _=>none
def zjb (s:ByteArray):List (List PV):=s.data.toList.map fun b=>[.v (.int .u8 (b.toNat:Int))]
def zk6:List (List PV)->Option (List UInt8)
 | []=>some []
 | [.v (.int .u8 n)]::r=>(zk6 r).map fun l=>n.toNat.toUInt8::l
 | _=>none
def sliceS (s:ByteArray) (lo hi:Option Nat):Option PV :=
 if lo.getD 0<=hi.getD s.size/\hi.getD s.size<=s.size then some (.v (.string (s.extract (lo.getD 0) (hi.getD s.size)))) else none
def zvj (st:St) (sz l h:Nat):PV->Option PV
 | .e0=>some .e0
 | .sl s es=>if s=sz then some (.sl s ((es.drop l).take (h-l))) else none
 | .ref o p ep lo _=>(zfx st o p ep).bind fun r=>if r.1=sz then some (.ref o p ep (lo+l) (h-l)) else none
 | _=>none
def zlm (st:St) (sz:Nat) (x:PV) (lo hi:Option Nat):Option Nat->Option PV
 | some m=>(lenOf st x).bind fun n=>if m=0/\hi=some 0/\lo.getD 0=0/\0<=n then some .e0 else none
 | none=>(lenOf st x).bind fun n=>if lo.getD 0<=hi.getD n/\hi.getD n<=n then zvj st sz (lo.getD 0) (hi.getD n) x else none
def zag (bytes n:Nat):Bool:=n*bytes<=140737488355328 && n<=140737488355328
def zgr (st:St) (sz o:Nat):Option Ob->Option (Nat×Nat)->Nat->Nat->Nat->Option (List (List PV)×Bool×St)
 | some (.row s es),none,_,lo,len=>if s=sz/\lo+len=es.length then some (es.drop lo,false,{ st with S:=upd st.S o none }) else none
 | some (.row s es),some (i,j),ep,lo,len=>if ep=st.ep then
   (zbe es i j).bind fun r=>if r.1=sz/\lo+len=r.2.length then
    some (r.2.drop lo,false,{ st with S:=upd st.S o (some (.row s (zb4 es i j .undef))),ep:=st.ep+1 }) else none
  else none
 | some (.rowF s es),none,_,lo,len=>if s=sz/\lo+len=es.length then some (es.drop lo,true,{ st with S:=upd st.S o none }) else none
 | _,_,_,_,_=>none
def zgl (st:St) (sz:Nat):PV->Option (List (List PV)×Bool×St)
 | .e0=>some ([],false,st)
 | .ref o p ep lo len=>zgr st sz o (st.S o) p ep lo len
 | _=>none
def zhm (st:St) (o:Nat):Option Ob->Option (Nat×Nat)->Nat->Nat->Option (List (List PV)×Option Bool×St)
 | some (.row _ es),none,lo,len=>if lo=0/\len=es.length then some (es,some false,{ st with S:=upd st.S o none }) else none
 | some (.rowF _ es),none,lo,len=>some (cut es lo len,some true,st)
 | _,_,_,_=>none
def zgh (st:St) (sz:Nat):PV->Option (List (List PV)×Option Bool×St)
 | .e0=>some ([],none,st)
 | .sl s es=>if s=sz/\zch es then some (es,none,st) else none
 | .ref o p ep lo len =>
  (zfx st o p ep).bind fun r =>
   if r.1=sz then
    if zch (cut r.2 lo len) then some (cut r.2 lo len,none,st) else zhm st o (st.S o) p lo len
   else none
 | _=>none
def zhh (st:St) (sz:Nat) (es:List (List PV)):Bool->Option Bool->Option (PV×St)
 | false,none=>some (newRow st sz es)
 | false,some false=>some (newRow st sz es)
 | true,none=>some (zia st sz es)
 | true,some true=>some (zia st sz es)
 | _,_=>none
def zll (st:St) (bytes sz:Nat) (s x:PV):Option (PV×St) :=
 (zgh st sz x).bind fun m=>(zgl m.2.2 sz s).bind fun b =>
  if zag bytes (b.1.length+m.1.length) then zhh b.2.2 sz (b.1++m.1) b.2.1 m.2.1 else none
def appS (st:St) (s:PV) (t:ByteArray):Option (PV×St) :=
 (zgl st 1 s).bind fun b=>if zag 1 (b.1.length+t.size) then zhh b.2.2 1 (b.1++zjb t) b.2.1 none else none
def zdv (c:PV):Bool:=ze1 c || isF c
def zjz:Option Ob->Option (Nat×Nat)->Nat->Nat->Option PV
 | some (.box cs),none,i,j=>if i=0/\cs.all zdv then some (.fptr cs j) else none
 | _,_,_,_=>none
def zcg (st:St) (sz:Nat):PV->Option PV
 | .v x=>some (.v x)
 | .e0=>some (.sl sz [])
 | .sl s es=>some (.sl s es)
 | .ref o p ep lo len=>(zfx st o p ep).map fun r => .sl r.1 (cut r.2 lo len)
 | .fptr cs j=>some (.fptr cs j)
 | .ptr o p _ i j=>zjz (st.S o) p i j
 | _=>none
def ze7 (st:St):List Nat->List PV->Option (List PV)
 | sz::szs,c::cs=>(zcg st sz c).bind fun x=>(ze7 st szs cs).bind fun xs=>some (x::xs)
 | [],c::cs=>(zcg st 0 c).bind fun x=>(ze7 st [] cs).bind fun xs=>some (x::xs)
 | _,[]=>some []
def zcx (st:St) (szs:List Nat):PV->Option PV
 | .agg cs=>(ze7 st szs cs).map .agg
 | .fn f caps=>(ze7 st [] caps).map (.fn f)
 | x=>zcg st (szs.headD 0) x
def zm2 (o ep lo len:Nat):Option Ob->Option (PV×List PV)
 | some (.row s es)=>if lo=0/\len=es.length then some (.own s es,[.ref o none ep lo len]) else none
 | _=>none
def zln (o ep:Nat):Option Ob->Option (Nat×Nat)->Nat->Nat->Option (PV×List PV)
 | some (.box cs),none,i,j=>if i=0/\j=0/\cs.all zdv then some (.bx cs,[.ptr o none ep 0 0]) else none
 | _,_,_,_=>none
def zdr (st:St) (sz:Nat):PV->Option (PV×List PV)
 | .v x=>some (.v x,[])
 | .e0=>some (.own sz [],[.e0])
 | .ref o none ep lo len=>zm2 o ep lo len (st.S o)
 | .ptr o p ep i j=>zln o ep (st.S o) p i j
 | _=>none
def zg0 (st:St):List Nat->List PV->Option (List PV×List PV)
 | sz::szs,c::cs=>(zdr st sz c).bind fun r=>(zg0 st szs cs).bind fun q=>some (r.1::q.1,r.2++q.2)
 | [],c::cs=>(zdr st 0 c).bind fun r=>(zg0 st [] cs).bind fun q=>some (r.1::q.1,r.2++q.2)
 | _,[]=>some ([],[])
def zf4 (st:St) (szs:List Nat):PV->Option (PV×List PV)
 | .agg cs=>(zg0 st szs cs).map fun q=>(.agg q.1,q.2)
 | x=>zdr st (szs.headD 0) x
def zc1 (st:St):List Bool->List (List Nat×PV)->Option (List PV×List PV)
 | _,[]=>some ([],[])
 | m::ms,(szs,x)::xs =>
  (if m then zf4 st szs x else (zcx st szs x).map fun y=>(y,[])).bind fun r =>
   (zc1 st ms xs).bind fun q=>some (r.1::q.1,r.2++q.2)
 | [],(szs,x)::xs=>(zcx st szs x).bind fun y=>(zc1 st [] xs).bind fun q=>some (y::q.1,q.2)
def root:PV->List Nat
 | .ref o _ _ _ _=>[o]
 | .ptr o _ _ _ _=>[o]
 | _=>[]
def zd2:PV->List Nat
 | .agg cs=>cs.flatMap root
 | .fn _ cs=>cs.flatMap root
 | x=>root x
def zev:List Nat->Bool
 | []=>true
 | x::xs => !xs.any (fun y=>y=x) && zev xs
def zfk:PV->Bool
 | .own _ _=>true
 | .undef=>true
 | _=>false
def putRow (st:St) (o len s:Nat) (es':List (List PV)):Option Ob->Option (Nat×Nat)->Option St
 | some (.row sz es),none=>if es'.length=len/\s=sz/\es.length=len then some { st with S:=upd st.S o (some (.row sz es')) } else none
 | _,_=>none
def zpx (st:St) (o:Nat) (cs':List PV):Option Ob->Option St
 | some (.box cs)=>if cs'.length=cs.length then some { st with S:=upd st.S o (some (.box cs')) } else none
 | _=>none
def zpk (st:St) (o:Nat):Option Ob->Option St
 | some (.row _ _)=>some { st with S:=upd st.S o none }
 | _=>none
def zc6 (st:St):PV->PV->Option St
 | .e0,.own _ es=>if es.length=0 then some st else none
 | .e0,.undef=>some st
 | .ref o _ _ _ _,.undef=>zpk st o (st.S o)
 | .ref o p _ _ len,.own s es'=>putRow st o len s es' (st.S o) p
 | .ptr o _ _ _ _,.bx cs'=>zpx st o cs' (st.S o)
 | _,_=>none
def ze2 (st:St):List PV->List PV->Option St
 | [],[]=>some st
 | t::ts,o::os=>(zc6 st t o).bind fun st=>ze2 st ts os
 | _,_=>none
def zdo (st:St) (nofz:Bool):PV->Option (PV×St)
 | .v x=>some (.v x,st)
 | .sl sz es=>if nofz then none else some (.sl sz es,st)
 | .own sz es=>some (newRow st sz es)
 | .bx cs=>if nofz && cs.any isF then none else some (zca st cs)
 | _=>none
def zgz (st:St) (nofz:Bool):List PV->Option (List PV×St)
 | []=>some ([],st)
 | c::cs=>(zdo st nofz c).bind fun r=>(zgz r.2 nofz cs).bind fun q=>some (r.1::q.1,q.2)
def zfu (st:St) (nofz:Bool):PV->Option (PV×St)
 | .agg cs=>(zgz st nofz cs).map fun q=>(.agg q.1,q.2)
 | x=>zdo st nofz x
def zf3 (st:St) (nofz:Bool):List PV->Option (List PV×St)
 | []=>some ([],st)
 | c::cs=>(zfu st nofz c).bind fun r=>(zf3 r.2 nofz cs).bind fun q=>some (r.1::q.1,q.2)
abbrev zak:=Nat->List PV->Option (List PV×List PV)
def zpz:List PV->PV
 | [x]=>x
 | vs => .tup vs
def zep (args:List (List Nat×PV)):List Nat:=args.flatMap fun x=>zd2 x.2
def zyu (rs all:List Nat):Bool:=rs.all fun o=>(all.filter (fun y=>y=o)).length=1
def zzg:PV->Bool
 | .own _ es=>zch es
 | _=>true
def zgb:Option Ob->Option Ob
 | some (.shadow _ _ _)=>none
 | x=>x
def ybt (S:Nat->Option Ob):Nat->Option Ob:=fun o=>zgb (S o)
def zhd (fl b:Bool) (st:St):St:=if b then (if fl then { st with S:=ybt st.S } else { st with ep:=st.ep+1 }) else st
def zk5:Option Ob->Bool
 | some (.shadow _ _ _)=>true
 | _=>false
def ziv (st:St):List Nat->Bool
 | []=>true
 | o::os => !zk5 (st.S o) && ziv st os
def zy0:List PV->Bool
 | []=>true
 | _=>false
def z8d:PV->Bool
 | .bx cs=>cs.any isF
 | _=>false
def zhw (args:List (List Nat×PV)) (hs:List PV):Bool:=(zep args).length != (hs.flatMap root).length
def zhb (fl:Bool) (R:zak) (st:St) (f:Nat) (args:List (List Nat×PV)) (a:List PV×List PV):Option (PV×St) :=
  if zyu (a.2.flatMap root) (zep args) && (zy0 a.2 || ziv st (zep args)) then
   (R f a.1).bind fun r =>
    if zhw args a.2 && r.2.any z8d || fl && !r.2.all zzg then none else
    (ze2 st a.2 r.2).bind fun st1 =>
     (zf3 (zhd fl (r.2.any zfk) st1) (zhw args a.2) r.1).map fun q=>(zpz q.1,q.2)
  else none
def zfm (modes:Nat->List Bool) (R:zak) (st:St) (f:Nat) (args:List (List Nat×PV)):Option (PV×St) :=
 (zc1 st (modes f) args).bind (zhb (decide (args.length<(modes f).length)) R st f args)
structure Sub where
 o:Nat
 i:Nat
 j:Nat
 sz:Nat
 es:List (List PV)
 s2:Nat
 es2:List (List PV)
def ziz (ce o i j ep lo len:Nat):Option Ob->Option Sub
 | some (.row sz es)=>if ep=ce then (zbe es i j).bind fun r=>if lo=0/\len=r.2.length then some ⟨o,i,j,sz,es,r.1,r.2⟩ else none else none
 | _=>none
def zf6 (st:St):PV->Option Sub
 | .ref o (some (i,j)) ep lo len=>ziz st.ep o i j ep lo len (st.S o)
 | _=>none
def zgw {α β:Type} (x:Option α) (y:Option β) (k:α->Option β):Option β:=match x with
 | some a=>k a
 | none=>y
def zhj (st:St):List PV->Option Sub
 | []=>none
 | c::cs=>zgw (zf6 st c) (zhj st cs) some
def zeq (st:St):List Bool->List (List Nat×PV)->Option Sub
 | true::ms,q::xs=>zgw (zhj st (cellsOf q.2)) (zeq st ms xs) some
 | false::ms,_::xs=>zeq st ms xs
 | _,_=>none
def zgy (d:Sub) (n e:Nat):PV->PV
 | .ref o p ep lo len=>if o=d.o/\p=some (d.i,d.j)/\ep=e then .ref n none (e+1) lo len else .ref o p ep lo len
 | c=>c
def zh0 (d:Sub) (n e:Nat):PV->PV
 | .agg cs => .agg (cs.map (zgy d n e))
 | .fn f cs => .fn f cs
 | x=>zgy d n e x
def zk8 (d:Sub) (n e:Nat) (args:List (List Nat×PV)):List (List Nat×PV):=args.map fun q=>(q.1,zh0 d n e q.2)
def zcf (st:St) (d:Sub):St :=
 { st with S:=upd (upd st.S d.o (some (.row d.sz (zb4 d.es d.i d.j .undef)))) st.nx (some (.row d.s2 d.es2)),nx:=st.nx+1,ep:=st.ep+1 }
def zpr (st:St) (n o i j:Nat):Option Ob->Option Ob->Option St
 | some (.row s es'),some (.row sz es)=>some { st with S:=upd (upd st.S n none) o (some (.row sz (zb4 es i j (.own s es')))),ep:=st.ep+1 }
 | _,_=>none
def zpq (st:St) (n:Nat) (d:Sub):Option St:=zpr st n d.o d.i d.j (st.S n) (st.S d.o)
def zj8 (modes:Nat->List Bool) (R:zak) (st:St) (f:Nat) (args:List (List Nat×PV)) (d:Sub):Option (PV×St) :=
 if (zep (zk8 d st.nx st.ep args)).any (fun o=>o=d.o) then none else
  (zfm modes R (zcf st d) f (zk8 d st.nx st.ep args)).bind fun r=>(zpq r.2 st.nx d).map fun s=>(r.1,s)
def zdy (modes:Nat->List Bool) (R:zak) (st:St) (f:Nat) (args:List (List Nat×PV)):Option (PV×St) :=
 zgw (zeq st (modes f) args) (zfm modes R st f args) (zj8 modes R st f args)
def zbs (st:St):Option Opd->Option (Option Nat)
 | none=>some none
 | some y=>(zb2 (y.get st)).map some
def zir (ce:Nat):Option Ob->Option (Nat×Nat)->Nat->Nat->Bool
 | some (.box _),none,_,i=>i == 0
 | some (.row sz es),p,ep,_=>(zax ce (some (.row sz es)) p ep).isSome
 | some (.rowF sz es),p,ep,_=>(zax ce (some (.rowF sz es)) p ep).isSome
 | some (.shadow sz es e),p,ep,_=>(zax ce (some (.shadow sz es e)) p ep).isSome
 | _,_,_,_=>false
def zi3 (st:St):PV->Option PV
 | .ptr o p ep i j=>if zir st.ep (st.S o) p ep i then some (.ptr o p ep i j) else none
 | .fptr cs j=>some (.fptr cs j)
 | .fn f caps=>some (.fn f caps)
 | _=>none
def zjf (st:St) (off:Nat):PV->Option PV
 | .ptr o p ep i j=>if zir st.ep (st.S o) p ep i then some (.ptr o p ep i (j+off)) else none
 | .fptr cs j=>some (.fptr cs (j+off))
 | _=>none
def zmv (i:Nat):PV->Option PV
 | .tup vs=>vs[i]?
 | _=>none
def zpm (modes:Nat->List Bool) (R:zak) (st:St) (args:List (List Nat×PV)):PV->Option (PV×St)
 | .fn f caps=>zdy modes R st f (args++caps.map fun c=>([],c))
 | _=>none
def mxP (big:Bool):PV->PV->Option PV
 | .v (.int k a),.v (.int k' b)=>if k=k' then some (.v (.int k (if big then (if a<b then b else a) else (if b<a then b else a)))) else none
 | _,_=>none
def zpu:PV->Bool
 | .agg _=>false
 | .fn _ _=>false
 | .tup _=>false
 | _=>true
def zb8 (st:St) (ps:List (Nat×Opd)):List (Nat×PV):=ps.map fun q=>(q.1,q.2.get st)
def zaj (modes:Nat->List Bool) (R:zak) (st:St):IOp->Option (PV×St)
 | .mv x=>some (x.get st,st)
 | .pick c a b=>(zg8 (c.get st)).map fun t=>(if t then a.get st else b.get st,st)
 | .alloc z=>some (zca st z)
 | .box x=>if (cellsOf (x.get st)).all zc2 then some (zca st (cellsOf (x.get st))) else none
 | .build z ps=>(zhl z (ps.map fun q=>(q.1,q.2.1,q.2.2.get st))).map fun cs=>(.agg cs,st)
 | .bslice n sz z ps =>
  if (zdd st (zb8 st ps)).any fun q=>(cellsOf q.2).any isF then
   (zi4 z (List.replicate n (z.map fz)) (zdd st (zb8 st ps))).map fun es=>zia (zdi st (zb8 st ps)) sz es
  else (zdj (zdi st (zb8 st ps)) z (List.replicate n z) (zdd st (zb8 st ps))).map fun q=>newRow q.2 sz q.1
 | .allocL z=>some (zca st z)
 | .mvL x=>some (x.get st,st)
 | .bsliceL n sz z ps=>(zdj st z (List.replicate n z) (zb8 st ps)).map fun q=>newRow q.2 sz q.1
 | .load ag sz a=>(loadCells st sz (a.get st)).bind fun cs=>(zlf ag cs).map fun x=>(x,st)
 | .store szs a x=>(storeAt st szs (a.get st) (x.get st)).map fun st=>(.undef,st)
 | .nilc x=>(zi3 st (x.get st)).map fun r=>(r,st)
 | .bin op x y=>(zm3 op (x.get st) (y.get st)).map fun r=>(r,st)
 | .eqb neg ks x y=>(eqP ks (x.get st) (y.get st)).map fun b=>(.v (.bool (b != neg)),st)
 | .un op x=>(unP op (x.get st)).map fun r=>(r,st)
 | .convI k x=>(zhy (x.get st)).map fun n=>(.v (.int k (k.wrap n)),st)
 | .toS x=>(zfw st (x.get st)).bind fun r=>(zk6 r.2).map fun l=>(.v (.string ⟨l.toArray⟩),st)
 | .mkfn f caps=>if (caps.map (Opd.get st)).all zpu then some (.fn f (caps.map (Opd.get st)),st) else none
 | .mksl bytes sz z l c=>(zb2 (l.get st)).bind fun n=>(zb2 (c.get st)).bind fun m =>
  if n<=m/\zag bytes m then some (newRow st sz (List.replicate n z)) else none
 | .slice sz x lo hi mx =>
  (zbs st lo).bind fun l=>(zbs st hi).bind fun h=>(zbs st mx).bind fun m=>(zlm st sz (x.get st) l h m).map fun r=>(r,st)
 | .sliceS x lo hi =>
  (zc5 (x.get st)).bind fun s=>(zbs st lo).bind fun l=>(zbs st hi).bind fun h=>(sliceS s l h).map fun r=>(r,st)
 | .faddr off x=>(zjf st off (x.get st)).map fun r=>(r,st)
 | .iaddr sz x i=>(zb2 (i.get st)).bind fun k=>(iaddr st sz k (x.get st)).map fun r=>(r,st)
 | .idx x i=>(zc5 (x.get st)).bind fun s=>(zb2 (i.get st)).bind fun k=>(s[k]?).map fun b=>(.v (.int .u8 (b.toNat:Int)),st)
 | .ext i x=>(zmv i (x.get st)).map fun r=>(r,st)
 | .call f args=>zdy modes R st f (args.map fun q=>(q.1,q.2.get st))
 | .callv g args=>zpm modes R st (args.map fun q=>(q.1,q.2.get st)) (g.get st)
 | .len x=>(lenOf st (x.get st)).map fun (n:Nat)=>(.v (.int .i64 (n:Int)),st)
 | .lenS x=>(zc5 (x.get st)).map fun s=>(.v (.int .i64 (s.size:Int)),st)
 | .appS s x=>(zc5 (x.get st)).bind fun t=>appS st (s.get st) t
 | .app bytes sz s x=>zll st bytes sz (s.get st) (x.get st)
 | .mx big x y=>(mxP big (x.get st) (y.get st)).map fun r=>(r,st)
def ziw (want:Bool):PV->Option Bool
 | .v (.bool b)=>some (b == want)
 | .v _=>some false
 | _=>none
def zc7 (st:St):Option (Opd×Bool)->Option Bool
 | none=>some true
 | some (g,want)=>ziw want (g.get st)
def zdq (modes:Nat->List Bool) (R:zak):List zac->St->Option St
 | [],st=>some st
 | o::os,st=>(zc7 st o.guard).bind fun t =>
  if t then (zaj modes R st o.op).bind fun r=>zdq modes R os (r.2.put o.dst r.1)
  else zdq modes R os (st.put o.dst (.v Go.undef))
def quiet:IOp->Bool
 | .alloc _=>false
 | .box _=>false
 | .bslice .. => false
 | .allocL _=>false
 | .mvL _=>false
 | .bsliceL .. => false
 | .store .. => false
 | .mksl .. => false
 | .call .. => false
 | .callv .. => false
 | .app .. => false
 | .appS .. => false
 | _=>true
def evG (modes:Nat->List Bool) (R:zak) (st:St) (o:zac):Option (PV×St) :=
 (zc7 st o.guard).bind fun t=>if t then zaj modes R st o.op else some (.v Go.undef,st)
def yv (st:St) (o:zac):Option PV:=(evG (fun _=>[]) (fun _ _=>none) st o).map Prod.fst
def za4 (V E:Nat->PV) (o:zac) (x:PV):Nat->List St->Prop
 | 0,_=>True
 | _+1,[]=>True
 | n+1,m::ms=>yv { m with V:=V,E:=E } o=some x/\za4 V E o x n ms
def zcl (st:St):List (zac×PV×Nat)->Prop
 | []=>True
 | (_,_,0)::r=>zcl st r
 | (o,x,_+1)::r=>yv st o=some x/\zcl st r
def zdf:List (zac×PV×Nat)->List (zac×PV×Nat)
 | []=>[]
 | (_,_,0)::r=>zdf r
 | (o,x,n+1)::r=>(o,x,n)::zdf r
open Classical in
noncomputable def evD (modes:Nat->List Bool) (R:zak):List (zac×Nat×Nat)->List (zac×PV×Nat)->List St->St->Option St
 | [],_,_,st=>some st
 | (o,b,w)::os,todo,past,st =>
  (evG modes R st o).bind fun r =>
   if quiet o.op then
    if za4 st.V st.E o r.1 b past then evD modes R os (if w=0 then todo else (o,r.1,w)::todo) past (st.put o.dst r.1) else none
   else if zcl r.2 todo then evD modes R os (zdf todo) (st::past) (r.2.put o.dst r.1) else none
def Ex.go (k:St->Option (Ex×St)):Ex×St->Option (Ex×St)
 | (.normal,st)=>k st
 | r=>some r
def Ex.out (id:Nat):Ex×St->Ex×St
 | (.exit i,st)=>(if i=id then .normal else .exit i,st)
 | r=>r
def zed (F:St->Option (Ex×St)):Nat->St->Option (Ex×St)
 | 0,_=>none
 | n+1,st=>(F st).bind (Ex.go (zed F n))
noncomputable def evC (modes:Nat->List Bool) (R:zak) (n:Nat):IC->St->Option (Ex×St)
 | .skip,st=>some (.normal,st)
 | .reg ops,st=>(zdq modes R ops { st with E:=fun _ => .undef }).map fun st=>(.normal,st)
 | .regD ops,st=>(evD modes R ops [] [] { st with E:=fun _ => .undef }).map fun st=>(.normal,st)
 | .seq a b,st=>(evC modes R n a st).bind (Ex.go (evC modes R n b))
 | .cond c x y,st=>(zg8 (c.get st)).bind fun t=>if t then evC modes R n x st else evC modes R n y st
 | .block id c,st=>(evC modes R n c st).map (Ex.out id)
 | .loop c,st=>zed (evC modes R n c) n st
 | .exit id,st=>some (.exit id,st)
 | .ret,st=>some (.ret,st)
def zc4 (st:St):PV->Option (PV×St)
 | .v x=>some (.v x,st)
 | .sl sz es=>some (.sl sz es,st)
 | .fptr cs j=>some (.fptr cs j,st)
 | .own sz es=>some (newRow st sz es)
 | .bx cs=>some (zca st cs)
 | .fn f caps=>some (.fn f caps,st)
 | _=>none
def zlc (st:St):List PV->Option (List PV×St)
 | []=>some ([],st)
 | c::cs=>(zc4 st c).bind fun r=>(zlc r.2 cs).bind fun q=>some (r.1::q.1,q.2)
def zg7 (st:St):PV->Option (PV×St)
 | .agg cs=>(zlc st cs).map fun q=>(.agg q.1,q.2)
 | x=>zc4 st x
def zlj (st:St):List PV->Option (List PV×St)
 | []=>some ([],st)
 | c::cs=>(zg7 st c).bind fun r=>(zlj r.2 cs).bind fun q=>some (r.1::q.1,q.2)
def st0:St := { V:=fun _ => .undef,E:=fun _ => .undef,S:=fun _=>none,nx:=0,ep:=0 }
def zkz (args:List PV):Option St :=
 (zlj st0 args).map fun q => { q.2 with V:=fun k=>q.1.getD k .undef }
def zld (io o:Nat):Option Ob->Option (Nat×Nat)->Nat->Nat->Option PV
 | some (.row s es),none,lo,len=>if io<=o then some (.own s (cut es lo len)) else none
 | _,_,_,_=>none
def zk0 (io o:Nat):Option Ob->Option (Nat×Nat)->Nat->Nat->Option PV
 | some (.box cs),none,i,j=>if io<=o/\i=0/\j=0/\cs.all zdv then some (.bx cs) else none
 | _,_,_,_=>none
def zdp (st:St) (io sz:Nat):PV->Option PV
 | .v x=>some (.v x)
 | .e0=>some (.own sz [])
 | .sl s es=>some (.sl s es)
 | .ref o p _ lo len=>zld io o (st.S o) p lo len
 | .ptr o p _ i j=>zk0 io o (st.S o) p i j
 | _=>none
def zj3 (st:St) (io:Nat):List Nat->List PV->Option (List PV)
 | sz::szs,c::cs=>(zdp st io sz c).bind fun x=>(zj3 st io szs cs).bind fun xs=>some (x::xs)
 | [],c::cs=>(zdp st io 0 c).bind fun x=>(zj3 st io [] cs).bind fun xs=>some (x::xs)
 | _,[]=>some []
def zhg (st:St) (io:Nat) (szs:List Nat):PV->Option PV
 | .agg cs=>(zj3 st io szs cs).map .agg
 | x=>zdp st io (szs.headD 0) x
def zpy (st:St):RV->Option PV
 | .tmp _ k=>some (st.V k)
 | .cell szs k ag=>(loadCells st szs.length (st.V k)).bind (zlf ag)
 | .pl=>none
def RV.szs:RV->List Nat
 | .tmp s _=>s
 | .cell s _ _=>s
 | .pl=>[]
def zlb (st:St) (io:Nat):List (List Nat×PV)->Option (List PV)
 | []=>some []
 | (szs,x)::r=>(zhg st io szs x).bind fun y=>(zlb st io r).bind fun ys=>some (y::ys)
def zjx (st:St):List RV->Option (List (List Nat×PV))
 | []=>some []
 | r::rs=>(zpy st r).bind fun x=>(zjx st rs).bind fun xs=>some ((r.szs,x)::xs)
def ziu:Option Ob->Option PV
 | some (.row sz es)=>some (.own sz es)
 | some (.box cs)=>if cs.all zdv then some (.bx cs) else none
 | _=>none
def zle (st:St):Nat->Option (List PV)
 | 0=>some []
 | n+1=>(zle st n).bind fun l=>(ziu (st.S n)).map fun x=>l++[x]
def zu7:List RV->Bool
 | .pl::_=>true
 | _=>false
def zm4:List RV->List RV
 | .pl::r=>r
 | r=>r
def zlh (d:Sub) (n e:Nat):PV->PV
 | .ref o (some q) ep lo len=>if o=d.o/\ep=e then (if q=(d.i,d.j) then .ref n none (e+1) lo len else .ref o (some q) (e+1) lo len) else .ref o (some q) ep lo len
 | c=>c
def zvv (d:Sub) (n e:Nat):PV->PV
 | .agg cs => .agg (cs.map (zlh d n e))
 | .fn f cs => .fn f cs
 | x=>zlh d n e x
def zjo:Nat->St->List (List Nat×PV)->St×List (List Nat×PV)
 | 0,st,xs=>(st,xs)
 | n+1,st,xs=>match zhj st (xs.flatMap fun x=>cellsOf x.2) with
  | some d=>zjo n (zcf st d) (xs.map fun q=>(q.1,zvv d st.nx st.ep q.2))
  | none=>(st,xs)
def zx7 (io:Nat) (r:St×List (List Nat×PV)):Option (List PV×List PV) :=
 if zev (r.2.flatMap fun x=>zd2 x.2) then
  (zlb r.1 io r.2).bind fun ys=>(zle r.1 io).map fun os=>(ys,os)
 else none
def zf8 (fn:IFn) (io:Nat) (st:St):Option (List PV×List PV) :=
 (zjx st (zm4 fn.results)).bind fun xs=>zx7 io (if zu7 fn.results then zjo 2 st xs else (st,xs))
def Ex.fin (k:St->Option (List PV×List PV)):Ex×St->Option (List PV×List PV)
 | (.normal,st)=>k st
 | (.ret,st)=>k st
 | _=>none
noncomputable def zqd (modes:Nat->List Bool) (R:zak) (n:Nat) (fn:IFn) (args:List PV):Option (List PV×List PV) :=
 (zkz args).bind fun st=>(evC modes R n fn.body st).bind (Ex.fin (zf8 fn st.nx))
inductive Fun where
 | code (fn:IFn)
 | known (modes:List Bool) (g:List PV->Option (List PV×List PV))
 | ext (g:List Value->Option (List Value))
def Fun.modes:Fun->List Bool
 | .code fn=>fn.modes
 | .known m _=>m
 | .ext _=>[]
def zmy:List PV->Option (List Value)
 | []=>some []
 | .v x::r=>(zmy r).map (x :: ·)
 | _=>none
def yec (g:List Value->Option (List Value)) (args:List PV):Option (List PV×List PV):=(zmy args).bind fun xs=>(g xs).map fun ys=>(ys.map .v,[])
abbrev zci:=Nat->Option Fun
def zad (T:zci) (f:Nat):List Bool:=((T f).map Fun.modes).getD []
noncomputable def run (T:zci):Nat->zak
 | 0,_,_=>none
 | n+1,f,args=>(T f).bind fun
  | .code fn=>zqd (zad T) (run T n) n fn args
  | .known _ g=>g args
  | .ext g=>yec g args
end Go.Pe
namespace Go.Pe
open Go
variable {R R':zak} {st:St} {f:Nat} {args:List (List Nat×PV)} {r:PV×St} {T:zci}
theorem zgp {α β:Type} {a a':Option α} {f f':α->Option β} {r:β} (h:a.bind f=some r) (ha : ∀ x,a=some x->a'=some x) (hf : ∀ x,a=some x->f x=some r->f' x=some r):a'.bind f'=some r:=by
 obtain ⟨x,hx,hr⟩:=bA h;rw [ha x hx]; exact hf x hx hr
def OLe (R R':zak):Prop := ∀ f a r,R f a=some r->R' f a=some r
theorem qfw (hR:OLe R R') {a:List PV×List PV} {fl:Bool} (h:zhb fl R st f args a=some r):zhb fl R' st f args a=some r:=by
 unfold zhb at h ⊢;split at h
 ·rename_i c; rw [if_pos c]; exact zgp h (fun x hx=>hR _ _ _ hx) (fun _ _ h=>h)
 ·cases h
theorem yrl {modes:Nat->List Bool} (hR:OLe R R') (h:zfm modes R st f args=some r):zfm modes R' st f args=some r :=
 zgp h (fun _ h=>h) (fun _ _ ha=>qfw hR ha)
theorem ysa {modes:Nat->List Bool} (hR:OLe R R') (h:zdy modes R st f args=some r):zdy modes R' st f args=some r:=by
 unfold zdy zgw at h ⊢;cases hd:zeq st (modes f) args with
 | none=>rw [hd] at h; exact yrl hR h
 | some d =>
  rw [hd] at h;simp only [zj8] at h ⊢;split at h
  ·cases h
  ·rename_i c; rw [if_neg c]; exact zgp h (fun _ hx=>yrl hR hx) (fun _ _ h=>h)
theorem yel {modes:Nat->List Bool} (hR:OLe R R') {o:IOp} (h:zaj modes R st o=some r):zaj modes R' st o=some r:=by
 cases o
 case call f args=>exact ysa hR h
 case callv g args =>
  simp only [zaj] at h ⊢;cases hg:g.get st <;> rw [hg] at h <;> first | exact ysa hR h | cases h
 all_goals exact h
theorem z8o {modes:Nat->List Bool} {R R':zak} (hR:OLe R R') : ∀ (os:List zac) (st st':St),zdq modes R os st=some st'->zdq modes R' os st=some st'
 | [],_,_,h=>h
 | o::os,st,st',h=>by
  unfold zdq at h ⊢;refine zgp h (fun _ h=>h) (fun t _ ht => ?_);cases t with
  | true=>exact zgp ht (fun _ hx=>yel hR hx) (fun _ _ h=>z8o hR os _ _ h)
  | false=>exact z8o hR os _ _ ht
theorem yd8 {F F':St->Option (Ex×St)} {q r:Ex×St} (hF : ∀ st r,F st=some r->F' st=some r) (h:Ex.go F q=some r):Ex.go F' q=some r:=by
 obtain ⟨e,st⟩:=q;cases e
 ·exact hF _ _ h
 ·exact h
 ·exact h
theorem yev {modes:Nat->List Bool} (hR:OLe R R') {o:zac} (h:evG modes R st o=some r):evG modes R' st o=some r:=by
 unfold evG at h ⊢;refine zgp h (fun _ h=>h) (fun t _ ht => ?_);cases t with
 | true=>exact yel hR ht
 | false=>exact ht
theorem zy7 {modes:Nat->List Bool} {R R':zak} (hR:OLe R R') : ∀ (os:List (zac×Nat×Nat)) (todo:List (zac×PV×Nat)) (past:List St) (st r:St),evD modes R os todo past st=some r->evD modes R' os todo past st=some r
 | [],_,_,_,_,h=>h
 | (o,b,w)::os,todo,past,st,r,h=>by
  simp only [evD] at h ⊢;refine zgp h (fun x hx=>yev hR hx) (fun q _ hq => ?_);split at hq
  ·rename_i c; rw [if_pos c];split at hq
   ·rename_i c2; rw [if_pos c2]; exact zy7 hR os _ _ _ _ hq
   ·cases hq
  ·rename_i c; rw [if_neg c];split at hq
   ·rename_i c2; rw [if_pos c2]; exact zy7 hR os _ _ _ _ hq
   ·cases hq
theorem zyp {F F':St->Option (Ex×St)} (hF : ∀ st r,F st=some r->F' st=some r) : ∀ (n n':Nat) (st:St) (r:Ex×St),n<=n'->zed F n st=some r->zed F' n' st=some r
 | 0,_,_,_,_,h=>by cases h
 | n+1,n',st,r,hn,h=>by
  obtain ⟨m,rfl⟩ : ∃ m,n'=m+1:=⟨n'-1,by omega⟩;simp only [zed] at h ⊢;exact zgp h (fun x hx=>hF _ _ hx) (fun q _ hq=>yd8 (fun st r h=>zyp hF n m st r (by omega) h) hq)
theorem zid {modes:Nat->List Bool} (hR:OLe R R') {n n':Nat} (hn:n<=n') : ∀ (c:IC) (st:St) (r:Ex×St),evC modes R n c st=some r->evC modes R' n' c st=some r
 | .skip,_,_,h=>h
 | .reg ops,st,r,h=>by
  simp only [evC,bB] at h ⊢;obtain ⟨s,hs,hr⟩:=h;exact ⟨s,z8o hR ops _ _ hs,hr⟩
 | .regD ops,st,r,h=>by
  simp only [evC,bB] at h ⊢;obtain ⟨s,hs,hr⟩:=h;exact ⟨s,zy7 hR ops _ _ _ _ hs,hr⟩
 | .seq a b,st,r,h=>by
  simp only [evC] at h ⊢;exact zgp h (fun x hx=>zid hR hn a st x hx) (fun q _ hq=>yd8 (fun st r h=>zid hR hn b st r h) hq)
 | .cond c x y,st,r,h=>by
  simp only [evC] at h ⊢;refine zgp h (fun _ h=>h) (fun t _ ht => ?_);cases t
  ·exact zid hR hn y st r ht
  ·exact zid hR hn x st r ht
 | .block id c,st,r,h=>by
  simp only [evC,bB] at h ⊢;obtain ⟨s,hs,hr⟩:=h;exact ⟨s,zid hR hn c st s hs,hr⟩
 | .loop c,st,r,h=>zyp (fun st r h=>zid hR hn c st r h) n n' st r hn h
 | .exit _,_,_,h=>h
 | .ret,_,_,h=>h
theorem qbb {modes:Nat->List Bool} (hR:OLe R R') {n n':Nat} (hn:n<=n') {fn:IFn} {args:List PV} {r:List PV×List PV} (h:zqd modes R n fn args=some r):zqd modes R' n' fn args=some r:=by
 unfold zqd at h ⊢;exact zgp h (fun _ h=>h) (fun st _ hst=>zgp hst (fun q hq=>zid hR hn fn.body st q hq) (fun _ _ h=>h))
theorem ysd (T:zci) : ∀ n,OLe (run T n) (run T (n+1))
 | 0=>fun f a r h=>by cases h
 | n+1=>fun f a r h=>by
  have ih:=ysd T n;rw [run] at h ⊢;refine zgp h (fun _ h=>h) (fun fu _ hfu => ?_);cases fu with
  | code fn=>exact qbb ih (Nat.le_succ n) hfu
  | known m g=>exact hfu
  | ext g=>exact hfu
theorem zh6 (T:zci) {n n':Nat} (h:n<=n'):OLe (run T n) (run T n'):=by
 induction h with
 | refl=>exact fun _ _ _ h=>h
 | step _ ih=>exact fun f a r hr=>ysd T _ f a r (ih f a r hr)
open Classical in
noncomputable def lim {α:Type} (g:Nat->Option α):Option α:=if h : ∃ n r,g n=some r then some h.choose_spec.choose else none
theorem yso {α:Type} {g:Nat->Option α} (hg : ∀ n n' r,n<=n'->g n=some r->g n'=some r) {r:α}:lim g=some r↔∃ n,g n=some r:=by
 unfold lim;constructor
 ·intro h;split at h
  ·rename_i hx;have:=hx.choose_spec.choose_spec;cases h;exact ⟨_,this⟩
  ·cases h
 ·rintro ⟨n,hn⟩;have hx : ∃ n r,g n=some r:=⟨n,r,hn⟩;rw [dif_pos hx];have h1:=hx.choose_spec.choose_spec;have a:=hg _ (max n hx.choose) _ (Nat.le_max_left _ _) hn;have b:=hg _ (max n hx.choose) _ (Nat.le_max_right _ _) h1;rw [a] at b;exact b.symm
noncomputable def RUN (T:zci):zak:=fun f a=>lim fun n=>run T n f a
theorem zy2 {a:List PV} {r:List PV×List PV}:RUN T f a=some r↔∃ n,run T n f a=some r :=
 yso (g:=fun n=>run T n f a) fun _ _ _ h hr=>zh6 T h _ _ _ hr
noncomputable def zvm (F:St->Option (Ex×St)) (st:St):Option (Ex×St):=lim fun n=>zed F n st
theorem z8p {F:St->Option (Ex×St)} {r:Ex×St}:zvm F st=some r↔∃ n,zed F n st=some r :=
 yso (g:=fun n=>zed F n st) fun n n' r h hr=>zyp (fun _ _ h=>h) n n' st r h hr
theorem qge (F:St->Option (Ex×St)) (st:St):zvm F st=(F st).bind (Ex.go (zvm F)):=by
 refine Option.ext fun r => ?_;rw [z8p];constructor
 ·rintro ⟨n,hn⟩;cases n with
  | zero=>cases hn
  | succ n =>
   simp only [zed] at hn;exact zgp hn (fun _ h=>h) (fun q _ hq=>yd8 (fun st r h=>z8p.mpr ⟨n,h⟩) hq)
 ·intro h;obtain ⟨⟨e,st'⟩,hq,hr⟩:=bA h;cases e with
  | normal =>
   obtain ⟨n,hn⟩:=z8p.mp (show zvm F st'=some r from hr);exact ⟨n+1,by simp only [zed]; rw [hq]; exact hn⟩
  | exit i=>exact ⟨1,by simp only [zed]; rw [hq]; exact hr⟩
  | ret=>exact ⟨1,by simp only [zed]; rw [hq]; exact hr⟩
noncomputable def evL (modes:Nat->List Bool) (R:zak):IC->St->Option (Ex×St)
 | .skip,st=>some (.normal,st)
 | .reg ops,st=>(zdq modes R ops { st with E:=fun _ => .undef }).map fun st=>(.normal,st)
 | .regD ops,st=>(evD modes R ops [] [] { st with E:=fun _ => .undef }).map fun st=>(.normal,st)
 | .seq a b,st=>(evL modes R a st).bind (Ex.go (evL modes R b))
 | .cond c x y,st=>(zg8 (c.get st)).bind fun t=>if t then evL modes R x st else evL modes R y st
 | .block id c,st=>(evL modes R c st).map (Ex.out id)
 | .loop c,st=>zvm (evL modes R c) st
 | .exit id,st=>some (.exit id,st)
 | .ret,st=>some (.ret,st)
theorem qan {a:List PV×List PV} {fl:Bool} (h:zhb fl (RUN T) st f args a=some r) : ∃ n,zhb fl (run T n) st f args a=some r:=by
 unfold zhb at h ⊢;split at h
 ·rename_i c;obtain ⟨x,hx,h⟩:=bA h;obtain ⟨n,hn⟩:=zy2.mp hx;exact ⟨n,by rw [if_pos c,hn]; exact h⟩
 ·cases h
theorem ynq {modes:Nat->List Bool} (h:zfm modes (RUN T) st f args=some r) : ∃ n,zfm modes (run T n) st f args=some r:=by
 obtain ⟨a,ha,h⟩:=bA h;obtain ⟨n,hn⟩:=qan h;exact ⟨n,Option.bind_eq_some_iff.mpr ⟨a,ha,hn⟩⟩
theorem ynx {modes:Nat->List Bool} (h:zdy modes (RUN T) st f args=some r) : ∃ n,zdy modes (run T n) st f args=some r:=by
 unfold zdy zgw at h ⊢;cases hd:zeq st (modes f) args with
 | none=>rw [hd] at h; exact ynq h
 | some d =>
  rw [hd] at h;simp only [zj8] at h ⊢;split at h
  ·cases h
  ·rename_i c;obtain ⟨q,hq,h⟩:=bA h;obtain ⟨n,hn⟩:=ynq hq;exact ⟨n,by rw [if_neg c,hn]; exact h⟩
theorem yu9 {modes:Nat->List Bool} {o:IOp} (h:zaj modes (RUN T) st o=some r) : ∃ n,zaj modes (run T n) st o=some r:=by
 cases o
 case call f args=>exact ynx h
 case callv g args =>
  simp only [zaj] at h ⊢;cases hg:g.get st <;> rw [hg] at h <;> first | exact ynx h | cases h
 all_goals exact ⟨0,h⟩
theorem yb8 {modes:Nat->List Bool} : ∀ (os:List zac) (st st':St),zdq modes (RUN T) os st=some st'->∃ n,zdq modes (run T n) os st=some st'
 | [],_,_,h=>⟨0,h⟩
 | o::os,st,st',h=>by
  unfold zdq at h ⊢;obtain ⟨t,ht,h⟩:=bA h;cases t with
  | true =>
   obtain ⟨x,hx,h⟩:=bA h;obtain ⟨n,hn⟩:=yu9 hx;obtain ⟨m,hm⟩:=yb8 os _ _ h;refine ⟨max n m,?_⟩;rw [ht];simp only [Option.bind_some,if_true];rw [yel (zh6 T (Nat.le_max_left n m)) hn];exact z8o (zh6 T (Nat.le_max_right n m)) os _ _ hm
  | false =>
   obtain ⟨m,hm⟩:=yb8 os _ _ h;exact ⟨m,by rw [ht]; exact hm⟩
theorem qe4 {modes:Nat->List Bool} {o:zac} (h:evG modes (RUN T) st o=some r) : ∃ n,evG modes (run T n) st o=some r:=by
 unfold evG at h ⊢;obtain ⟨t,ht,h⟩:=bA h;cases t with
 | true=>obtain ⟨n,hn⟩:=yu9 h; exact ⟨n,by rw [ht]; exact hn⟩
 | false=>exact ⟨0,by rw [ht]; exact h⟩
theorem ydn {modes:Nat->List Bool} : ∀ (os:List (zac×Nat×Nat)) (todo:List (zac×PV×Nat)) (past:List St) (st r:St),evD modes (RUN T) os todo past st=some r->∃ n,evD modes (run T n) os todo past st=some r
 | [],_,_,_,_,h=>⟨0,h⟩
 | (o,b,w)::os,todo,past,st,r,h=>by
  simp only [evD] at h;obtain ⟨q,hq,h⟩:=bA h;obtain ⟨n,hn⟩:=qe4 hq;split at h
  ·rename_i c;split at h
   ·rename_i c2;obtain ⟨m,hm⟩:=ydn os _ _ _ _ h;refine ⟨max n m,?_⟩;simp only [evD];rw [yev (zh6 T (Nat.le_max_left n m)) hn];simp only [Option.bind_some];rw [if_pos c,if_pos c2];exact zy7 (zh6 T (Nat.le_max_right n m)) os _ _ _ _ hm
   ·cases h
  ·rename_i c;split at h
   ·rename_i c2;obtain ⟨m,hm⟩:=ydn os _ _ _ _ h;refine ⟨max n m,?_⟩;simp only [evD];rw [yev (zh6 T (Nat.le_max_left n m)) hn];simp only [Option.bind_some];rw [if_neg c,if_pos c2];exact zy7 (zh6 T (Nat.le_max_right n m)) os _ _ _ _ hm
   ·cases h
theorem zqf {modes:Nat->List Bool} : ∀ (c:IC) (st:St) (r:Ex×St),evL modes (RUN T) c st=some r->∃ n,evC modes (run T n) n c st=some r
 | .skip,_,_,h=>⟨0,h⟩
 | .reg ops,st,r,h=>by
  simp only [evL,bB] at h;obtain ⟨s,hs,hr⟩:=h;obtain ⟨n,hn⟩:=yb8 ops _ _ hs;exact ⟨n,by simp only [evC,hn,Option.map_some,hr]⟩
 | .regD ops,st,r,h=>by
  simp only [evL,bB] at h;obtain ⟨s,hs,hr⟩:=h;obtain ⟨n,hn⟩:=ydn ops _ _ _ _ hs;exact ⟨n,by simp only [evC,hn,Option.map_some,hr]⟩
 | .seq a b,st,r,h=>by
  simp only [evL] at h;obtain ⟨⟨e,s⟩,hs,h⟩:=bA h;obtain ⟨n,hn⟩:=zqf a _ _ hs;cases e with
  | normal =>
   obtain ⟨m,hm⟩:=zqf b _ _ (show evL modes (RUN T) b s=some r from h);refine ⟨max n m,?_⟩;simp only [evC];rw [zid (zh6 T (Nat.le_max_left n m)) (Nat.le_max_left n m) a _ _ hn];exact zid (zh6 T (Nat.le_max_right n m)) (Nat.le_max_right n m) b _ _ hm
  | exit i=>exact ⟨n,by simp only [evC]; rw [hn]; exact h⟩
  | ret=>exact ⟨n,by simp only [evC]; rw [hn]; exact h⟩
 | .cond c x y,st,r,h=>by
  simp only [evL] at h;obtain ⟨t,ht,h⟩:=bA h;cases t with
  | true=>obtain ⟨n,hn⟩:=zqf x _ _ (show evL modes (RUN T) x st=some r from h); exact ⟨n,by simp only [evC,ht,Option.bind_some,if_true]; exact hn⟩
  | false=>obtain ⟨n,hn⟩:=zqf y _ _ (show evL modes (RUN T) y st=some r from h); exact ⟨n,by simp only [evC,ht,Option.bind_some,Bool.false_eq_true,if_false]; exact hn⟩
 | .block id c,st,r,h=>by
  simp only [evL,bB] at h;obtain ⟨s,hs,hr⟩:=h;obtain ⟨n,hn⟩:=zqf c _ _ hs;exact ⟨n,by simp only [evC,hn,Option.map_some,hr]⟩
 | .loop c,st,r,h=>by
  obtain ⟨k,hk⟩:=z8p.mp (show zvm (evL modes (RUN T) c) st=some r from h);have go : ∀ (k:Nat) (st:St),zed (evL modes (RUN T) c) k st=some r->∃ n,zed (evC modes (run T n) n c) k st=some r:=by
   intro k
   induction k with
   | zero=>intro st h; cases h
   | succ k ih =>
    intro st h;simp only [zed] at h;obtain ⟨⟨e,s⟩,hs,h⟩:=bA h;obtain ⟨n,hn⟩:=zqf c _ _ hs;cases e with
    | normal =>
     obtain ⟨m,hm⟩:=ih s h;refine ⟨max n m,?_⟩;simp only [zed];rw [zid (zh6 T (Nat.le_max_left n m)) (Nat.le_max_left n m) c _ _ hn];exact zyp (fun st r h=>zid (zh6 T (Nat.le_max_right n m)) (Nat.le_max_right n m) c st r h) k k _ _ (Nat.le_refl _) hm
    | exit i=>exact ⟨n,by simp only [zed]; rw [hn]; exact h⟩
    | ret=>exact ⟨n,by simp only [zed]; rw [hn]; exact h⟩
  obtain ⟨n,hn⟩:=go k st hk;exact ⟨max n k,zyp (fun st r h=>zid (zh6 T (Nat.le_max_left n k)) (Nat.le_max_left n k) c st r h) k (max n k) st r (Nat.le_max_right _ _) hn⟩
 | .exit _,_,_,h=>⟨0,h⟩
 | .ret,_,_,h=>⟨0,h⟩
noncomputable def zyn (modes:Nat->List Bool) (R:zak) (fn:IFn) (args:List PV):Option (List PV×List PV) :=
 (zkz args).bind fun st=>(evL modes R fn.body st).bind (Ex.fin (zf8 fn st.nx))
theorem yul {fn:IFn} (hT:T f=some (.code fn)) {args:List PV} {r:List PV×List PV} (h:zyn (zad T) (RUN T) fn args=some r):RUN T f args=some r:=by
 unfold zyn at h;obtain ⟨st,hst,h⟩:=bA h;obtain ⟨q,hq,h⟩:=bA h;obtain ⟨n,hn⟩:=zqf _ _ _ hq;refine zy2.mpr ⟨n+1,?_⟩;rw [run,hT];simp only [Option.bind_some,zqd,hst,hn];exact h
theorem ybh {m:List Bool} {g:List PV->Option (List PV×List PV)} (hT:T f=some (.known m g)) {args:List PV} {r:List PV×List PV} (h:g args=some r):RUN T f args=some r :=
 zy2.mpr ⟨1,by rw [run,hT]; exact h⟩
theorem ypn {T:zci} {f:Nat} {g:List Value->Option (List Value)} (hT:T f=some (.ext g)) {xs ys:List Value} (h:g xs=some ys):RUN T f (xs.map .v)=some (ys.map .v,[]):=by
 have e : ∀ l:List Value,zmy (l.map .v)=some l:=by
  intro l
  induction l with
  | nil=>rfl
  | cons x l ih=>simp only [List.map_cons,zmy,ih,Option.map_some]
 exact zy2.mpr ⟨1,by rw [run,hT]; simp only [Option.bind_some,yec,e,h,Option.map_some]⟩
end Go.Pe
namespace Go.Pe
open Go
def zds (P:Program) (t:TypeId):Option Nat:=(P.info? t).map (·.size)
def zft (P:Program) (t:TypeId):Option Bool:=(P.underlying t).map fun | .struct _=>true | .array _ _=>true | _=>false
def ypc (P:Program):Nat->TypeId->Option (List Nat)
 | 0,_=>none
 | n+1,t =>
  match P.underlying t with
  | some (.struct fs)=>(fs.toList.mapM fun f=>ypc P n f.type).map List.flatten
  | some (.slice e)=>(zds P e).map fun s=>[s]
  | some (.array _ _)=>none
  | some _=>some [0]
  | none=>none
def zp3 (P:Program) (t:TypeId):Option (List Nat):=(ypc P 8 t).bind fun l=>if zds P t=some l.length then some l else none
def zqg:Value->Option PV
 | .slice none 0 0=>some .e0
 | x=>if okV x then some (.v x) else none
def ycq:Value->Nat->Option PV
 | .slice none 0 0,sz=>some (.own sz [])
 | x,_=>if okV x then some (.v x) else none
def zqc:List Value->List Nat->Option (List PV)
 | x::xs,s::ss=>(ycq x s).bind fun c=>(zqc xs ss).map (c :: ·)
 | [],[]=>some []
 | _,_=>none
def zpw (P:Program) (t:TypeId):Option (List PV):=((P.info? t).bind (·.zero)).bind fun z=>z.cells.toList.mapM zqg
def zqj (P:Program) (t:TypeId):Option (List PV):=((P.info? t).bind (·.zero)).bind fun z=>(zp3 P t).bind fun l=>zqc z.cells.toList l
def zan (vars:List Nat):Operand->Option Opd
 | .tmp k=>some (if vars.contains k then .V k else .E k)
 | .const (.slice none 0 0)=>some (.C .e0)
 | .const x=>if okV x then some (.C (.v x)) else none
 | .func f=>some (.C (.fn f []))
 | .global _=>none
def zho (vars:List Nat):Option Operand->Option (Option Opd)
 | none=>some none
 | some x=>(zan vars x).map some
def zi8 (P:Program):Nat->TypeId->Option (List Kd)
 | 0,_=>none
 | n+1,t =>
  match P.underlying t with
  | some .bool=>some [.b]
  | some (.int k)=>some [.i k]
  | some .string=>some [.s]
  | some (.struct fs)=>if P.stoodInHeld t then none else kindsFs (fun t=>zi8 P n t) P 0 fs.toList
  | _=>none
where kindsFs (f:TypeId->Option (List Kd)) (P:Program):Nat->List Field->Option (List Kd)
 | _,[]=>some []
 | off, fd :: fs => if fd.name != "_" && fd.offset == off then
   (f fd.type).bind fun l=>if zds P fd.type=some l.length then (kindsFs f P (off+l.length) fs).map (l ++ ·) else none
  else none
def zjs (P:Program) (vars:List Nat):List Operand->List TypeId->Option (List (List Nat×Opd))
 | x::xs,t::ts=>(zan vars x).bind fun y=>(zjs P vars xs ts).map fun r=>((zp3 P t).getD [],y)::r
 | [],[]=>some []
 | _,_=>none
def ydy:BinOp->Bool
 | .eql=>true
 | .neq=>true
 | _=>false
def zuv:BinOp->Bool
 | .neq=>true
 | _=>false
def zzc (P:Program) (op:BinOp) (t:TypeId) (x y:Opd):Option IOp :=
 match P.underlying t with
 | some .bool=>if ydy op then some (.eqb (zuv op) [.b] x y) else none
 | some (.struct _)=>if ydy op && !P.eqGuardType P.depth t then (zi8 P 4 t).bind fun ks=>if 2<=ks.length then some (.eqb (zuv op) ks x y) else none else none
 | some (.int _)=>some (.bin op x y)
 | some .string=>some (.bin op x y)
 | _=>none
def zqb (i:TypeInfo):Bool:=match i.zero with
 | some z=>z.cells.size == i.size
 | none=>false
def zvl (vars:List Nat) (places:List (Nat×Nat)):List (Nat×Operand)->Option (List (Nat×Nat×Opd))
 | []=>some []
 | q::qs=>(places[q.1]?).bind fun p=>(zan vars q.2).bind fun x=>(zvl vars places qs).map ((p.1,p.2,x) :: ·)
def zjr (vars:List Nat):List (Nat×Operand)->Option (List (Nat×Opd))
 | []=>some []
 | q::qs=>(zan vars q.2).bind fun x=>(zjr vars qs).map ((q.1,x) :: ·)
def zbv (P:Program) (vars:List Nat) (o:Op):Option IOp :=
 match o with
 | .move x=>(zan vars x).map .mv
 | .assign x=>(zan vars x).map .mv
 | .pick c a b=>(zan vars c).bind fun c=>(zan vars a).bind fun a=>(zan vars b).map fun b => .pick c a b
 | .alloc t=>(zpw P t).map .alloc
 | .box _ x=>(zan vars x).map .box
 | .build t parts =>
  match P.underlying t with
  | some (.struct fs)=>(zpw P t).bind fun z=>(fs.toList.mapM fun f=>(P.info? f.type).map fun i=>(f.offset,i.size)).bind fun places =>
   (zvl vars places parts.toList).map fun ps => .build z ps
  | _=>none
 | .buildSlice t n parts =>
  match P.underlying t with
  | some (.slice e)=>(zds P e).bind fun s=>(zqj P e).bind fun z =>
   (zjr vars parts.toList).bind fun ps =>
    if n*s<=16777216/\z.length=s/\0<s then some (.bslice n s z ps) else none
  | _=>none
 | .load t a=>(zft P t).bind fun ag=>(zds P t).bind fun s=>(zan vars a).bind fun a=>if ag || s == 1 then some (.load ag s a) else none
 | .store t a x=>(zp3 P t).bind fun l=>(zan vars a).bind fun a=>(zan vars x).map fun x => .store l a x
 | .nilCheck x=>(zan vars x).map .nilc
 | .binOp op t x y _=>(zan vars x).bind fun x=>(zan vars y).bind fun y=>zzc P op t x y
 | .unOp op _ x=>(zan vars x).map fun x => .un op x
 | .convert src dst x =>
  match P.underlying src,P.underlying dst with
  | some (.int _),some (.int k)=>(zan vars x).map fun x => .convI k x
  | some (.slice e),some .string=>match P.underlying e with
   | some (.int .u8)=>(zan vars x).map .toS
   | _=>none
  | _,_=>none
 | .makeFunc (.func f) first caps=>if first.size=0 then (caps.toList.mapM (zan vars)).map fun cs => .mkfn f cs else none
 | .makeSlice t l c =>
  match P.underlying t with
  | some (.slice e)=>(P.info? e).bind fun i=>(zqj P e).bind fun z=>(zan vars l).bind fun l=>(zan vars c).bind fun c =>
    if z.length=i.size/\0<i.size/\i.size<=i.bytes then some (.mksl i.bytes i.size z l c) else none
  | _=>none
 | .slice t x lo hi mx =>
  match P.underlying t with
  | some (.slice e)=>(zds P e).bind fun s=>(zan vars x).bind fun x=>(zho vars lo).bind fun lo=>(zho vars hi).bind fun hi=>(zho vars mx).map fun mx => .slice s x lo hi mx
  | some .string=>if mx.isNone then (zan vars x).bind fun x=>(zho vars lo).bind fun lo=>(zho vars hi).map fun hi => .sliceS x lo hi else none
  | _=>none
 | .fieldAddr s x f =>
  match P.underlying s with
  | some (.struct fs)=>(fs[f]?).bind fun f=>(zds P f.type).bind fun z=>(zan vars x).bind fun x=>if z≠0 then some (.faddr f.offset x) else none
  | _=>none
 | .indexAddr t x i =>
  match P.underlying t with
  | some (.slice e)=>(zds P e).bind fun s=>(zan vars x).bind fun x=>(zan vars i).map fun i => .iaddr s x i
  | _=>none
 | .index t x i =>
  match P.underlying t with
  | some .string=>(zan vars x).bind fun x=>(zan vars i).map fun i => .idx x i
  | _=>none
 | .extract x i=>(zan vars x).map fun x => .ext i x
 | .call c =>
  match c.callee with
  | .value (.func f)=>(zjs P vars c.args.toList c.argTypes.toList).map fun l => .call f l
  | .value g=>(zan vars g).bind fun g=>(zjs P vars c.args.toList c.argTypes.toList).map fun l => .callv g l
  | .builtin .len =>
   match c.args.toList,c.argTypes.toList with
   | [x],[t]=>match P.underlying t with
    | some (.slice _)=>(zan vars x).map .len
    | some .string=>(zan vars x).map .lenS
    | _=>none
   | _,_=>none
  | .builtin .append =>
   match c.args.toList,c.argTypes.toList with
   | [s,x],[t,u]=>match P.underlying t,P.underlying u with
    | some (.slice e),some (.slice _)=>(P.info? e).bind fun i=>(zan vars s).bind fun s=>(zan vars x).bind fun x=>if 0<i.size/\i.size<=i.bytes/\zqb i=true then some (.app i.bytes i.size s x) else none
    | some (.slice e),some .string=>(P.info? e).bind fun i=>(zan vars s).bind fun s=>(zan vars x).bind fun x=>if i.size=1/\i.bytes=1/\zqb i=true then some (.appS s x) else none
    | _,_=>none
   | _,_=>none
  | .builtin .max =>
   match c.args.toList with
   | [x,y]=>(zan vars x).bind fun x=>(zan vars y).map fun y => .mx true x y
   | _=>none
  | .builtin .min =>
   match c.args.toList with
   | [x,y]=>(zan vars x).bind fun x=>(zan vars y).map fun y => .mx false x y
   | _=>none
  | _=>none
 | _=>none
def zi5 (vars:List Nat) (nt:Nat):Option Tmp->Option (Option Dst)
 | none=>some none
 | some k=>if k<nt then some (some (if vars.contains k then .V k else .E k)) else none
def zy4 (vars:List Nat) (ops:Array Oper):Option (Nat×Bool)->Option (Option (Opd×Bool))
 | none=>some none
 | some (j,want)=>((ops[j]?).bind (·.dst)).map fun k=>some (if vars.contains k then .V k else .E k,want)
def zvh (P:Program) (vars:List Nat) (nt:Nat) (ops:Array Oper) (o:Oper):Option zac :=
 (zbv P vars o.op).bind fun op=>(zi5 vars nt o.dst).bind fun d=>(zy4 vars ops o.guard).map fun g => { dst:=d,op:=op,guard:=g }
def zis (P:Program) (vars:List Nat) (nt:Nat) (ops:Array Oper):List Oper->Option (List zac)
 | []=>some []
 | o::os=>(zvh P vars nt ops o).bind fun x=>(zis P vars nt ops os).map (x :: ·)
def znd (ms:List Nat):List Edge->Nat
 | []=>0
 | e::es=>if Region.binds .any e then (2 ^ e.on ||| ms.getD e.on 0) ||| znd ms es else znd ms es
def zb7:List Oper->List Nat->List Nat
 | [],ms=>ms
 | o::os,ms=>zb7 os (ms++[znd ms o.after.toList])
def ze5 (ms:List Nat) (i j:Nat):Bool:=(ms.getD i 0).testBit j
def zgm:IOp->Bool
 | .mv _=>true
 | .pick .. => true
 | .build .. => true
 | .bin .. => true
 | .eqb .. => true
 | .un .. => true
 | .convI .. => true
 | .mkfn .. => true
 | .sliceS .. => true
 | .idx .. => true
 | .ext .. => true
 | .lenS .. => true
 | .mx .. => true
 | _=>false
def zp5:Option Opd->List Opd
 | none=>[]
 | some x=>[x]
def IOp.opds:IOp->List Opd
 | .mv x=>[x]
 | .pick c a b=>[c,a,b]
 | .alloc _=>[]
 | .box x=>[x]
 | .build _ ps=>ps.map fun q=>q.2.2
 | .bslice _ _ _ ps=>ps.map fun q=>q.2
 | .allocL _=>[]
 | .mvL x=>[x]
 | .bsliceL _ _ _ ps=>ps.map fun q=>q.2
 | .load _ _ a=>[a]
 | .store _ a x=>[a,x]
 | .nilc x=>[x]
 | .bin _ x y=>[x,y]
 | .eqb _ _ x y=>[x,y]
 | .un _ x=>[x]
 | .convI _ x=>[x]
 | .toS x=>[x]
 | .mkfn _ caps=>caps
 | .mksl _ _ _ l c=>[l,c]
 | .slice _ x lo hi m=>x::(zp5 lo++zp5 hi++zp5 m)
 | .sliceS x lo hi=>x::(zp5 lo++zp5 hi)
 | .faddr _ x=>[x]
 | .iaddr _ x i=>[x,i]
 | .idx x i=>[x,i]
 | .ext _ x=>[x]
 | .call _ args=>args.map fun q=>q.2
 | .callv g args=>g::args.map fun q=>q.2
 | .len x=>[x]
 | .lenS x=>[x]
 | .app _ _ s x=>[s,x]
 | .appS s x=>[s,x]
 | .mx _ x y=>[x,y]
def zvr:Option (Opd×Bool)->List Opd
 | none=>[]
 | some (y,_)=>[y]
def zac.opds (o:zac):List Opd:=zvr o.guard++o.op.opds
def Dst.code:Dst->Nat
 | .V k=>2*k
 | .E k=>2*k+1
def zx8 (o:zac):Option Nat:=o.dst.map Dst.code
def Opd.code:Opd->Option Nat
 | .V k=>some (2*k)
 | .E k=>some (2*k+1)
 | .C _=>none
def zey (ios:List zac) (j:Nat):Bool:=match ios[j]? with
 | some o => !quiet o.op
 | none=>false
def zeu:IOp->Bool
 | .allocL _=>true
 | .bsliceL .. => true
 | _=>false
def zgj:IOp->IOp
 | .alloc z => .allocL z
 | .bslice n sz z ps => .bsliceL n sz z ps
 | o=>o
def z7y:IOp->Bool
 | .alloc _=>true
 | .bslice .. => true
 | _=>false
def z76 (ms:List Nat) (ios:List zac):List zac:=ios.zipIdx.map fun q =>
 if z7y q.1.op && (List.range q.2).any (fun j=>zey ios j && !ze5 ms q.2 j) then { q.1 with op:=zgj q.1.op } else q.1
def lzB (ios:List zac) (j:Nat):Bool:=match ios[j]? with
 | some o=>zeu o.op
 | none=>false
def zk2 (ios:List zac) (k:Nat):Bool:=zey ios k && !lzB ios k
def bOf (ms:List Nat) (ios:List zac) (o:zac) (i:Nat):Nat :=
 if quiet o.op && !zgm o.op then (List.range i).countP (zey ios)-(List.range ios.length).countP (fun j=>zey ios j && ze5 ms i j) else 0
def upB (ms:List Nat) (ios:List zac) (i j:Nat):Bool := !ze5 ms j i && (!lzB ios j || (List.range ios.length).any fun k=>decide (j<k) && zk2 ios k && !ze5 ms k i)
def wOf (ms:List Nat) (ios:List zac) (o:zac) (i:Nat):Nat :=
 if quiet o.op && !zgm o.op then (List.range ios.length).countP (fun j=>zey ios j && upB ms ios i j)-(List.range i).countP (zey ios) else 0
def bws (ms:List Nat) (ios:List zac):List (zac×Nat×Nat):=ios.zipIdx.map fun q=>(q.1,bOf ms ios q.1 q.2,wOf ms ios q.1 q.2)
def zpv (md:Region.Mode) (rk:Nat->Nat) (ops:List Oper):Bool :=
 ops.zipIdx.all fun q=>q.1.after.toList.all fun e => !Region.binds md e || (decide (e.on<ops.length) && decide (rk e.on<rk q.2))
def yqk (e:Edge):Bool:=match e.ground with
 | .gcOnly _=>true
 | _=>false
def yqq (ops:List Oper):Bool:=ops.any fun o=>o.after.toList.any yqk
def ysw (es:List (List Nat)):Nat->List Nat->List Nat
 | 0,done=>done
 | n+1,done=>match (List.range es.length).find? (fun i => !done.contains i && (es.getD i []).all done.contains) with
  | some i=>ysw es n (done++[i])
  | none=>done
def qfm (ops:List Oper):Nat->Nat :=
 fun i=>(ysw (ops.map fun o=>(o.after.toList.filter (Region.binds .gc)).map (·.on)) ops.length []).idxOf i
def ynf (ms:List Nat) (ios:List zac):Bool :=
 ios.zipIdx.all fun q=>q.1.opds.all fun y=>match y.code with
  | some c=>ios.zipIdx.all fun p => !(zx8 p.1 == some c) || (ze5 ms q.2 p.2 || (zgm q.1.op && ze5 ms p.2 q.2))
  | none=>true
def ysf (ms:List Nat) (ios:List zac):Bool :=
 (List.range ios.length).all fun j => !zk2 ios j || (List.range j).all fun i => !zey ios i || ze5 ms j i
def ydo (ms:List Nat) (ios:List zac):Bool :=
 (List.range ios.length).all fun j => !lzB ios j || ((List.range ios.length).any (fun k=>decide (j<k) && zk2 ios k) &&
  (List.range ios.length).all fun i => !ze5 ms i j || (!lzB ios i && (zey ios i || (List.range ios.length).any fun k=>decide (j<k) && zk2 ios k && ze5 ms i k)))
def dOk (rk:Nat->Nat) (ops:List Oper) (ios:List zac) (ms:List Nat):Bool :=
 (List.range ms.length).all (fun i=>decide (ms.getD i 0<2 ^ i)) && zev (ios.filterMap zx8) && ynf ms ios && ysf ms ios && ydo ms ios &&
  zpv .text rk ops && (!yqq ops || zpv .gc (qfm ops) ops)
def qhw:IOp->IOp
 | .mv x => .mvL x
 | o=>o
def qhs:IOp->Bool
 | .mv _=>true
 | _=>false
def z8s (b:Bool) (ms:List Nat) (ios:List zac):List zac:=ios.zipIdx.map fun q =>
 if b && qhs q.1.op && (List.range q.2).any (fun j=>lzB ios j && ze5 ms q.2 j) && (List.range q.2).all (fun j => !zey ios j || ze5 ms q.2 j) then { q.1 with op:=qhw q.1.op } else q.1
def zji (b:Bool) (ms:List Nat) (ios:List zac):List zac:=z8s b ms (z76 ms ios)
def z86 (P:Program) (vars:List Nat) (nt:Nat) (b:Bool) (rk:Nat->Nat) (ops:Array Oper):Option IC :=
 (zis P vars nt ops ops.toList).bind fun ios =>
  if dOk rk ops.toList (zji b (zb7 ops.toList []) ios) (zb7 ops.toList []) then some (.regD (bws (zb7 ops.toList []) (zji b (zb7 ops.toList []) ios))) else none
def yo5 (ord:List Nat) (e:Edge):Edge := { e with on:=ord.idxOf e.on }
def z9f (ord:List Nat) (o:Oper):Oper := { o with after:=o.after.map (yo5 ord),guard:=o.guard.map fun g=>(ord.idxOf g.1,g.2) }
def zge (ops:Array Oper) (ord:List Nat):Array Oper:=(ord.map fun i=>z9f ord (ops.getD i default)).toArray
def z7x (n:Nat) (ord:List Nat):Bool:=ord.length == n && (List.range n).all ord.contains && ord.all (fun i=>decide (i<n)) && (List.range n).all (fun k=>ord.idxOf (ord.getD k 0) == k)
def ybm (ops:List Oper) (es:List (List Nat)) (late:Oper->Bool):Nat->List Nat->List Nat
 | 0,done=>done
 | n+1,done =>
  let rdy:=(List.range ops.length).filter fun i => !done.contains i && (es.getD i []).all done.contains
  match rdy.find? (fun i => !((ops[i]?).map late).getD false) with
  | some i=>ybm ops es late n (done++[i])
  | none=>match rdy with
   | i::_=>ybm ops es late n (done++[i])
   | []=>done
def qf3 (o:Oper):Bool:=match o.op with
 | .buildSlice .. => true
 | _=>false
def ydp (ops:List Oper):List Nat:=ybm ops (ops.map fun o=>(o.after.toList.filter (Region.binds .any)).map (·.on)) qf3 ops.length []
def ycm (P:Program) (vars:List Nat) (nt:Nat) (ops:Array Oper):Option IC :=
 match z86 P vars nt false id ops with
 | some x=>some x
 | none=>if z7x ops.size (ydp ops.toList) then z86 P vars nt true (fun k=>(ydp ops.toList).getD k 0) (zge ops (ydp ops.toList)) else none
def zer (P:Program) (vars:List Nat) (nt:Nat):Code->Option IC
 | .skip=>some .skip
 | .region _ ops draw=>if draw then ycm P vars nt ops else (zis P vars nt ops ops.toList).map .reg
 | .seq a b=>(zer P vars nt a).bind fun a=>(zer P vars nt b).map fun b => .seq a b
 | .cond c x y=>(zan vars c).bind fun c=>(zer P vars nt x).bind fun x=>(zer P vars nt y).map fun y => .cond c x y
 | .block id c=>(zer P vars nt c).map fun c => .block id c
 | .loop c=>(zer P vars nt c).map .loop
 | .exit id=>some (.exit id)
 | .ret=>some .ret
 | _=>none
def z9k (P:Program) (vars:List Nat) (r:ResultVar) (t:TypeId):Option RV :=
 match r with
 | .tmp k=>(zp3 P t).bind fun l=>if vars.contains k then some (.tmp l k) else none
 | .cell k u=>(zp3 P u).bind fun l=>(zft P u).bind fun ag=>if vars.contains k && (ag || l.length == 1) then some (.cell l k ag) else none
def zjq (P:Program) (vars:List Nat):List ResultVar->List TypeId->Option (List RV)
 | r::rs,t::ts=>(z9k P vars r t).bind fun x=>(zjq P vars rs ts).map (x :: ·)
 | [],[]=>some []
 | _,_=>none
end Go.Pe
namespace Go.Pe
open Go
variable {st:St} {k:IntKind} {x:Value} {m:Nat->List Bool} {R:zak} {b:Int} {i s o ep lo ce e n j f sz id io:Nat} {l:List (Nat×PV)} {es:List (List PV)} {cs caps:List PV} {p:Option (Nat×Nat)} {args xs:List (List Nat×PV)} {r:List RV} {ms:List Bool} {d:Sub} {ag:Bool}
abbrev ki (n:Int):Opd := .C (.v (.int .i64 n))
abbrev kb (b:Bool):Opd := .C (.v (.bool b))
abbrev iv (n:Int):PV := .v (.int .i64 n)
abbrev oE (n:Nat) (o:IOp):zac:=⟨some (.E n),o,none⟩
abbrev mV (n k:Nat):zac:=⟨some (.E n),.mv (.V k),none⟩
abbrev vE (n k:Nat):zac:=⟨some (.V n),.mv (.E k),none⟩
abbrev xE (n i k:Nat):zac:=⟨some (.E n),.ext i (.E k),none⟩
abbrev oV (n:Nat) (o:IOp):zac:=⟨some (.V n),o,none⟩
abbrev oN (o:IOp):zac:=⟨none,o,none⟩
abbrev bv (b:Bool):PV := .v (.bool b)
abbrev zaa (ic:IC) (rv:List RV) (ms:List Bool):Fun := .code ⟨ms,rv,ic⟩
@[simp] theorem qy0 (k:Nat):Opd.get st (.V k)=st.V k:=rfl
@[simp] theorem qzs (k:Nat):Opd.get st (.E k)=st.E k:=rfl
@[simp] theorem qyk (x:PV):Opd.get st (.C x)=x:=rfl
@[simp] theorem qp1 (x:PV):st.put none x=st:=rfl
@[simp] theorem qb1 (st:St) (k:Nat) (x:PV):st.put (some (.V k)) x = { st with V:=upd st.V k x }:=rfl
@[simp] theorem qhg (st:St) (k:Nat) (x:PV):st.put (some (.E k)) x = { st with E:=upd st.E k x }:=rfl
@[simp] theorem zas {α:Type} (f:Nat->α) (k:Nat) (x:α) (i:Nat):upd f k x i=if i=k then x else f i:=rfl
@[simp] theorem qu6 (x:Opd):zaj m R st (.mv x)=some (x.get st,st):=rfl
@[simp] theorem qy9 (c a b:Opd):zaj m R st (.pick c a b)=(zg8 (c.get st)).map fun t=>(if t then a.get st else b.get st,st):=rfl
@[simp] theorem qpk (z:List PV):zaj m R st (.alloc z)=some (zca st z):=rfl
@[simp] theorem qff (m:Nat->List Bool) (R:zak) (st:St) (x:Opd):zaj m R st (.box x)=if (cellsOf (x.get st)).all zc2 then some (zca st (cellsOf (x.get st))) else none:=rfl
@[simp] theorem qvd (z:List PV) (ps:List (Nat×Nat×Opd)):zaj m R st (.build z ps)=(zhl z (ps.map fun q=>(q.1,q.2.1,q.2.2.get st))).map fun cs=>(.agg cs,st):=rfl
@[simp] theorem qbh (m:Nat->List Bool) (R:zak) (st:St) (n sz:Nat) (z:List PV) (ps:List (Nat×Opd)):zaj m R st (.bslice n sz z ps)=if (zdd st (zb8 st ps)).any fun q=>(cellsOf q.2).any isF then (zi4 z (List.replicate n (z.map fz)) (zdd st (zb8 st ps))).map fun es=>zia (zdi st (zb8 st ps)) sz es else (zdj (zdi st (zb8 st ps)) z (List.replicate n z) (zdd st (zb8 st ps))).map fun q=>newRow q.2 sz q.1:=rfl
@[simp] theorem q4i:zdd st []=[]/\zdi st []=st:=⟨rfl,rfl⟩
@[simp] theorem qxa:zdd st ((i,.v x)::l)=(i,.v x)::l:=by cases l <;> rfl
@[simp] theorem q0n:zdi st ((i,.v x)::l)=st:=by cases l <;> rfl
@[simp] theorem qzx:zdd st ((i,.e0)::l)=(i,.e0)::l:=by cases l <;> rfl
@[simp] theorem quw:zdi st ((i,.e0)::l)=st:=by cases l <;> rfl
@[simp] theorem qtn:zdd st ((i,.sl s es)::l)=(i,.sl s es)::l:=by cases l <;> rfl
@[simp] theorem q0r:zdi st ((i,.sl s es)::l)=st:=by cases l <;> rfl
@[simp] theorem q3a:zdd st ((i,.agg cs)::l)=(i,.agg cs)::l:=by cases l <;> rfl
@[simp] theorem qpo:zdi st ((i,.agg cs)::l)=st:=by cases l <;> rfl
@[simp] theorem qz8 (o ep lo len:Nat):zdd st ((i,.ref o none ep lo len)::l)=(i,.ref o none ep lo len)::l:=by cases l <;> rfl
@[simp] theorem qwj (o ep lo len:Nat):zdi st ((i,.ref o none ep lo len)::l)=st:=by cases l <;> rfl
@[simp] theorem qul:zdd st ((i,.own s es)::l)=(i,.own s es)::l:=by cases l <;> rfl
@[simp] theorem qzq:zdi st ((i,.own s es)::l)=st:=by cases l <;> rfl
@[simp] theorem qq5 (p q:Nat×PV):zdd st (p::q::l)=p::q::l:=by
 obtain ⟨i,x⟩:=p; cases x <;> first | rfl | (rename_i o p _ _ _; cases p <;> rfl)
@[simp] theorem qrd (p q:Nat×PV):zdi st (p::q::l)=st:=by
 obtain ⟨i,x⟩:=p; cases x <;> first | rfl | (rename_i o p _ _ _; cases p <;> rfl)
@[simp] theorem q2v (i o a b ep lo len:Nat):zdd st [(i,.ref o (some (a,b)) ep lo len)]=(zlk st.ep a b ep lo len (st.S o)).elim [(i,.ref o (some (a,b)) ep lo len)] fun r=>[(i,.sl r.1.1 r.1.2)]:=rfl
@[simp] theorem q0k (i o a b ep lo len:Nat):zdi st [(i,.ref o (some (a,b)) ep lo len)]=(zlk st.ep a b ep lo len (st.S o)).elim st fun r => { st with S:=upd st.S o (some r.2),ep:=st.ep+1 }:=rfl
@[simp] theorem qph (ce a b ep lo len s:Nat):zlk ce a b ep lo len (some (.row s es))=if ep=ce then (zbe es a b).map fun r=>((r.1,cut r.2 lo len),.rowF s (es.map fun e=>e.map fz)) else none:=rfl
@[simp] theorem q34 (S:Nat->Option Ob):ybt S o=zgb (S o):=rfl
@[simp] theorem q0a:zgb none=none:=rfl
@[simp] theorem qqd:zgb (some (.row s es))=some (.row s es):=rfl
@[simp] theorem q4k:zgb (some (.rowF s es))=some (.rowF s es):=rfl
@[simp] theorem q3f:zgb (some (.box cs))=some (.box cs):=rfl
@[simp] theorem q12:zgb (some (.shadow s es e))=none:=rfl
@[simp] theorem q2h (x:Opd):zaj m R st (.mvL x)=some (x.get st,st):=rfl
@[simp] theorem q43 (z:List PV):zaj m R st (.allocL z)=some (zca st z):=rfl
@[simp] theorem qhr (m:Nat->List Bool) (R:zak) (st:St) (n sz:Nat) (z:List PV) (ps:List (Nat×Opd)):zaj m R st (.bsliceL n sz z ps)=(zdj st z (List.replicate n z) (zb8 st ps)).map fun q=>newRow q.2 sz q.1:=rfl
@[simp] theorem qbv (m:Nat->List Bool) (R:zak) (st:St) (ag:Bool) (sz:Nat) (a:Opd):zaj m R st (.load ag sz a)=(loadCells st sz (a.get st)).bind fun cs=>(zlf ag cs).map fun x=>(x,st):=rfl
@[simp] theorem qal (m:Nat->List Bool) (R:zak) (st:St) (szs:List Nat) (a x:Opd):zaj m R st (.store szs a x)=(storeAt st szs (a.get st) (x.get st)).map fun st=>(.undef,st):=rfl
@[simp] theorem q3x (x:Opd):zaj m R st (.nilc x)=(zi3 st (x.get st)).map fun r=>(r,st):=rfl
@[simp] theorem q4h (op:BinOp) (x y:Opd):zaj m R st (.bin op x y)=(zm3 op (x.get st) (y.get st)).map fun r=>(r,st):=rfl
@[simp] theorem q1y (n:Bool) (ks:List Kd) (x y:Opd):zaj m R st (.eqb n ks x y)=(eqP ks (x.get st) (y.get st)).map fun b=>(.v (.bool (b != n)),st):=rfl
@[simp] theorem qz4 (op:UnOp) (x:Opd):zaj m R st (.un op x)=(unP op (x.get st)).map fun r=>(r,st):=rfl
@[simp] theorem q3p (x:Opd):zaj m R st (.convI k x)=(zhy (x.get st)).map fun n=>(.v (.int k (k.wrap n)),st):=rfl
@[simp] theorem qei (m:Nat->List Bool) (R:zak) (st:St) (x:Opd):zaj m R st (.toS x)=(zfw st (x.get st)).bind fun r=>(zk6 r.2).map fun l=>(.v (.string ⟨l.toArray⟩),st):=rfl
@[simp] theorem qej (m:Nat->List Bool) (R:zak) (st:St) (f:Nat) (caps:List Opd):zaj m R st (.mkfn f caps)=if (caps.map (Opd.get st)).all zpu then some (.fn f (caps.map (Opd.get st)),st) else none:=rfl
@[simp] theorem q4u:zpu (.ptr o p ep i j)=true:=rfl
@[simp] theorem qwt:zpu (.fptr cs j)=true:=rfl
@[simp] theorem qc1 (m:Nat->List Bool) (R:zak) (st:St) (b sz:Nat) (z:List PV) (l c:Opd):zaj m R st (.mksl b sz z l c)=(zb2 (l.get st)).bind fun n=>(zb2 (c.get st)).bind fun m=>if n<=m/\zag b m then some (newRow st sz (List.replicate n z)) else none:=rfl
@[simp] theorem qew (m:Nat->List Bool) (R:zak) (st:St) (sz:Nat) (x:Opd) (lo hi mx:Option Opd):zaj m R st (.slice sz x lo hi mx)=(zbs st lo).bind fun l=>(zbs st hi).bind fun h=>(zbs st mx).bind fun m=>(zlm st sz (x.get st) l h m).map fun r=>(r,st):=rfl
@[simp] theorem qr3 (off:Nat) (x:Opd):zaj m R st (.faddr off x)=(zjf st off (x.get st)).map fun r=>(r,st):=rfl
@[simp] theorem qc6 (m:Nat->List Bool) (R:zak) (st:St) (sz:Nat) (x i:Opd):zaj m R st (.iaddr sz x i)=(zb2 (i.get st)).bind fun k=>(iaddr st sz k (x.get st)).map fun r=>(r,st):=rfl
@[simp] theorem qil (m:Nat->List Bool) (R:zak) (st:St) (x i:Opd):zaj m R st (.idx x i)=(zc5 (x.get st)).bind fun s=>(zb2 (i.get st)).bind fun k=>(s[k]?).map fun b=>(.v (.int .u8 (b.toNat:Int)),st):=rfl
@[simp] theorem qsu (x:Opd):zaj m R st (.ext i x)=(zmv i (x.get st)).map fun r=>(r,st):=rfl
@[simp] theorem qtm (args:List (List Nat×Opd)):zaj m R st (.call f args)=zdy m R st f (args.map fun q=>(q.1,q.2.get st)):=rfl
@[simp] theorem qqv (g:Opd) (args:List (List Nat×Opd)):zaj m R st (.callv g args)=zpm m R st (args.map fun q=>(q.1,q.2.get st)) (g.get st):=rfl
@[simp] theorem q1p:zpm m R st args (.fn f caps)=zdy m R st f (args++caps.map fun c=>([],c)):=rfl
@[simp] theorem qzm (x:Opd):zaj m R st (.len x)=(lenOf st (x.get st)).map fun (n:Nat)=>(.v (.int .i64 (n:Int)),st):=rfl
@[simp] theorem qzl (b sz:Nat) (s x:Opd):zaj m R st (.app b sz s x)=zll st b sz (s.get st) (x.get st):=rfl
@[simp] theorem qrg (big:Bool) (x y:Opd):zaj m R st (.mx big x y)=(mxP big (x.get st) (y.get st)).map fun r=>(r,st):=rfl
@[simp] theorem q1m:zdq m R [] st=some st:=rfl
@[simp] theorem qgy (m:Nat->List Bool) (R:zak) (st:St) (d:Option Dst) (op:IOp) (os:List zac):zdq m R (⟨d,op,none⟩::os) st=(zaj m R st op).bind fun r=>zdq m R os (r.2.put d r.1):=by simp [zdq,zc7]
@[simp] theorem qa2 (m:Nat->List Bool) (R:zak) (st:St) (d:Option Dst) (op:IOp) (g:Opd) (w:Bool) (os:List zac):zdq m R (⟨d,op,some (g,w)⟩::os) st=(ziw w (g.get st)).bind fun t=>if t then (zaj m R st op).bind fun r=>zdq m R os (r.2.put d r.1) else zdq m R os (st.put d (.v Go.undef)):=rfl
@[simp] theorem qz1 (w b:Bool):ziw w (.v (.bool b))=some (b == w):=rfl
@[simp] theorem q2w (w:Bool):ziw w (.v Go.undef)=some false:=rfl
@[simp] theorem qz5:evL m R .skip st=some (.normal,st):=rfl
@[simp] theorem qah (m:Nat->List Bool) (R:zak) (st:St) (ops:List zac):evL m R (.reg ops) st=(zdq m R ops { st with E:=fun _ => .undef }).map fun st=>(.normal,st):=rfl
@[simp] theorem yuo (m:Nat->List Bool) (R:zak) (st:St) (a b:IC):evL m R (.seq a b) st=(evL m R a st).bind (Ex.go (evL m R b)):=rfl
@[simp] theorem qfr (m:Nat->List Bool) (R:zak) (st:St) (c:Opd) (x y:IC):evL m R (.cond c x y) st=(zg8 (c.get st)).bind fun t=>if t then evL m R x st else evL m R y st:=rfl
@[simp] theorem qb7 (m:Nat->List Bool) (R:zak) (st:St) (id:Nat) (c:IC):evL m R (.block id c) st=(evL m R c st).map (Ex.out id):=rfl
theorem z9o (m:Nat->List Bool) (R:zak) (st:St) (c:IC):evL m R (.loop c) st=(evL m R c st).bind (Ex.go (evL m R (.loop c))):=qge _ _
@[simp] theorem qvn:evL m R (.exit id) st=some (.exit id,st):=rfl
@[simp] theorem qv6:evL m R .ret st=some (.ret,st):=rfl
@[simp] theorem q1w (k:St->Option (Ex×St)):Ex.go k (.normal,st)=k st:=rfl
@[simp] theorem qvy (k:St->Option (Ex×St)):Ex.go k (.exit i,st)=some (.exit i,st):=rfl
@[simp] theorem qvb (k:St->Option (Ex×St)):Ex.go k (.ret,st)=some (.ret,st):=rfl
@[simp] theorem qtx:Ex.out id (.exit i,st)=(if i=id then .normal else .exit i,st):=rfl
@[simp] theorem qud:Ex.out id (.normal,st)=(.normal,st):=rfl
@[simp] theorem qy4:Ex.out id (.ret,st)=(.ret,st):=rfl
@[simp] theorem quf (k:St->Option (List PV×List PV)):Ex.fin k (.normal,st)=k st:=rfl
@[simp] theorem qpu (k:St->Option (List PV×List PV)):Ex.fin k (.ret,st)=k st:=rfl
@[simp] theorem qxw (b:Bool):zg8 (.v (.bool b))=some b:=rfl
@[simp] theorem qqt (n:Int):zhy (.v (.int k n))=some n:=rfl
@[simp] theorem qv3 (s:ByteArray):zc5 (.v (.string s))=some s:=rfl
@[simp] theorem qd5 (k:IntKind) (n:Nat):zb2 (.v (.int k (n:Int)))=some n:=by simp [zb2,zhy]
@[simp] theorem qu5:zb2 (.v (.int k 0))=some 0:=by simp [zb2,zhy]
@[simp] theorem q1v (op:BinOp) (a b:Value):zm3 op (.v a) (.v b)=(zbd op a b).map .v:=rfl
@[simp] theorem qxq (op:UnOp) (a:Value):unP op (.v a)=(unV op a).map .v:=rfl
@[simp] theorem ydl (k:IntKind) (a b:Int):zbd .add (.int k a) (.int k b)=some (.int k (k.wrap (a+b))):=by simp [zbd]
@[simp] theorem qs7 (a b:Int):zbd .sub (.int k a) (.int k b)=some (.int k (k.wrap (a-b))):=by simp [zbd]
@[simp] theorem yb0 (k:IntKind) (a b:Int):zbd .mul (.int k a) (.int k b)=some (.int k (k.wrap (a*b))):=by simp [zbd]
@[simp] theorem qr5 (a b:Int):zbd .eql (.int k a) (.int k b)=some (.bool (decide (a=b))):=by simp [zbd]; rfl
@[simp] theorem qrx (a b:Int):zbd .neq (.int k a) (.int k b)=some (.bool (!decide (a=b))):=by simp [zbd]; rfl
@[simp] theorem qt0 (a b:Int):zbd .lss (.int k a) (.int k b)=some (.bool (decide (a<b))):=by simp [zbd]
@[simp] theorem qqp (a b:Int):zbd .leq (.int k a) (.int k b)=some (.bool (decide (a<=b))):=by simp [zbd]
@[simp] theorem qru (a b:Int):zbd .gtr (.int k a) (.int k b)=some (.bool (decide (a > b))):=by simp [zbd]
@[simp] theorem qze (a b:Int):zbd .geq (.int k a) (.int k b)=some (.bool (decide (a ≥ b))):=by simp [zbd]
@[simp] theorem yek (k:IntKind) (a b:Int):zbd .and (.int k a) (.int k b)=some (.int k (k.wrap (BitVec.ofInt k.bits a &&& BitVec.ofInt k.bits b).toNat)):=by simp [zbd]
@[simp] theorem qz3 (a b:Int):zbd .or (.int k a) (.int k b)=some (.int k (k.wrap (BitVec.ofInt k.bits a ||| BitVec.ofInt k.bits b).toNat)):=by simp [zbd]
@[simp] theorem qse (a b:Int):zbd .xor (.int k a) (.int k b)=some (.int k (k.wrap (BitVec.ofInt k.bits a ^^^ BitVec.ofInt k.bits b).toNat)):=by simp [zbd]
@[simp] theorem qpd (a b:Int):zbd .quo (.int k a) (.int k b)=if b≠0 then some (.int k (k.wrap (a.tdiv b))) else none:=by simp [zbd]
@[simp] theorem qxk (a b:Int):zbd .rem (.int k a) (.int k b)=if b≠0 then some (.int k (a.tmod b)) else none:=by simp [zbd]
@[simp] theorem yo1 (k k':IntKind) (a b:Int):zbd .shl (.int k a) (.int k' b)=if 0<=b then some (.int k (k.wrap (a*2 ^ min b.toNat k.bits))) else none:=by simp [zbd]
@[simp] theorem ybu (k k':IntKind) (a b:Int):zbd .shr (.int k a) (.int k' b)=if 0<=b then some (.int k (a.fdiv (2 ^ min b.toNat k.bits))) else none:=by simp [zbd]
@[simp] theorem q2j (a b:ByteArray):zbd .add (.string a) (.string b)=if ((a.size+b.size:Nat):Int)<=IntKind.i64.max then some (.string (a++b)) else none:=by simp [zbd]
@[simp] theorem qo5 (a b:ByteArray):zbd .eql (.string a) (.string b)=some (.bool (a.toList == b.toList)):=by simp [zbd]
@[simp] theorem qqg (a b:ByteArray):zbd .neq (.string a) (.string b)=some (.bool !(a.toList == b.toList)):=by simp [zbd]
@[simp] theorem qs1 (a:Int):unV .neg (.int k a)=some (.int k (k.wrap (0-a))):=rfl
@[simp] theorem qvr (b:Bool):unV .not (.bool b)=some (.bool !b):=rfl
@[simp] theorem qq1:newRow st sz es=(.ref st.nx none st.ep 0 es.length,{ st with S:=upd st.S st.nx (some (.row sz es)),nx:=st.nx+1 }):=rfl
@[simp] theorem qzk:zia st sz es=(.ref st.nx none st.ep 0 es.length,{ st with S:=upd st.S st.nx (some (.rowF sz es)),nx:=st.nx+1 }):=rfl
@[simp] theorem qsm:zca st cs=(.ptr st.nx none st.ep 0 0,{ st with S:=upd st.S st.nx (some (.box cs)),nx:=st.nx+1 }):=rfl
@[simp] theorem q4z:zfx st o p ep=zax st.ep (st.S o) p ep:=rfl
@[simp] theorem zjt (ce sz:Nat) (es:List (List PV)) (ep:Nat):zax ce (some (.row sz es)) none ep=some (sz,es):=rfl
@[simp] theorem zfo (ce sz:Nat) (es:List (List PV)) (ep:Nat) (i j:Nat):zax ce (some (.row sz es)) (some (i,j)) ep=if ep=ce then zbe es i j else none:=rfl
@[simp] theorem ybf (ce sz:Nat) (es:List (List PV)) (ep:Nat):zax ce (some (.rowF sz es)) none ep=some (sz,es):=rfl
@[simp] theorem zyq (ce sz:Nat) (es:List (List PV)) (ep:Nat) (e:Nat):zax ce (some (.shadow sz es e)) none ep=if e=ce then some (sz,es) else none:=rfl
@[simp] theorem q0q:zax ce none p ep=none:=rfl
@[simp] theorem qs8 (lo len:Nat):cut es lo len=if lo=0/\len=es.length then es else (es.drop lo).take len:=rfl
@[simp] theorem q2n:zfw st (.sl sz es)=some (sz,es):=rfl
@[simp] theorem qqi (ep lo len:Nat):zfw st (.ref o p ep lo len)=(zfx st o p ep).map fun r=>(r.1,cut r.2 lo len):=rfl
@[simp] theorem q4d:fz (.v x) = .v x:=rfl
@[simp] theorem qq6:fz (.own sz es) = .sl sz es:=rfl
@[simp] theorem qp5:fz (.sl sz es) = .sl sz es:=rfl
@[simp] theorem qvc:rd o ep i j (.v x) = .v x:=rfl
@[simp] theorem q2r:rd o ep i j (.own sz es) = .ref o (some (i,j)) ep 0 es.length:=rfl
@[simp] theorem qtk:zh3 o ep i j []=[]:=rfl
@[simp] theorem qyt (c:PV):zh3 o ep i j (c::cs)=rd o ep i j c::zh3 o ep i (j+1) cs:=rfl
@[simp] theorem qzu:rdV (.v x) = .v x:=rfl
@[simp] theorem qwx:seg cs j sz=if j+sz<=cs.length then some ((cs.drop j).take sz) else none:=rfl
@[simp] theorem ypf (cs:List PV):zlf true cs=some (.agg cs):=rfl
@[simp] theorem ysm (c:PV):zlf false [c]=some c:=rfl
@[simp] theorem qcp (st:St) (sz:Nat) (cs:List PV) (j:Nat):loadCells st sz (.fptr cs j)=(seg cs j sz).map (·.map fz):=rfl
@[simp] theorem qdq (st:St) (sz o:Nat) (p:Option (Nat×Nat)) (ep i j:Nat):loadCells st sz (.ptr o p ep i j)=zi1 st.ep o sz (st.S o) p ep i j:=rfl
@[simp] theorem qhn (ce o sz:Nat) (cs:List PV) (ep i j:Nat):zi1 ce o sz (some (.box cs)) none ep i j=if i=0 then seg cs j sz else none:=rfl
@[simp] theorem qiv (ce o sz:Nat) (s:Nat) (es:List (List PV)) (ep i j:Nat):zi1 ce o sz (some (.row s es)) none ep i j=(es[i]?).bind fun cs=>(seg cs j sz).map (zh3 o ce i j):=rfl
@[simp] theorem qga (ce o sz:Nat) (s:Nat) (es:List (List PV)) (a b ep i j:Nat):zi1 ce o sz (some (.row s es)) (some (a,b)) ep i j=if ep=ce then (zbe es a b).bind fun r=>(r.2[i]?).bind fun cs=>(seg cs j sz).map (·.map rdV) else none:=rfl
@[simp] theorem qh7 (ce o sz:Nat) (s:Nat) (es:List (List PV)) (ep i j:Nat):zi1 ce o sz (some (.rowF s es)) none ep i j=(es[i]?).bind fun cs=>(seg cs j sz).map (·.map fz):=rfl
@[simp] theorem qgq (ce o sz:Nat) (s:Nat) (es:List (List PV)) (e ep i j:Nat):zi1 ce o sz (some (.shadow s es e)) none ep i j=if e=ce then (es[i]?).bind fun cs=>(seg cs j sz).map (·.map rdV) else none:=rfl
@[simp] theorem qva:cellsOf (.agg cs)=cs:=rfl
@[simp] theorem qqx:cellsOf (.v x)=[.v x]:=rfl
@[simp] theorem qs4  : cellsOf (.e0)=[.e0]:=rfl
@[simp] theorem qw3:cellsOf (.sl sz es)=[.sl sz es]:=rfl
@[simp] theorem qsj (ep lo len:Nat):cellsOf (.ref o p ep lo len)=[.ref o p ep lo len]:=rfl
@[simp] theorem ycl (st:St) (sz:Nat) (x:Value):zfp st sz (.v x)=if okV x then some (.v x,st) else none:=rfl
@[simp] theorem qa9 (st:St) (sz:Nat):zfp st sz .e0=some (.own sz [],st):=rfl
@[simp] theorem qdo (st:St) (sz o:Nat) (p:Option (Nat×Nat)) (ep lo len:Nat):zfp st sz (.ref o p ep lo len)=zgd st o (st.S o) p lo len:=rfl
@[simp] theorem qb2 (st:St) (o s:Nat) (es:List (List PV)) (lo len:Nat):zgd st o (some (.row s es)) none lo len=if lo=0/\len=es.length then some (.own s es,{ st with S:=upd st.S o (some (.shadow s es st.ep)) }) else none:=rfl
@[simp] theorem ybz (st:St) (sz:Nat) (szs:List Nat) (c:PV) (cs:List PV):zdt st (sz::szs) (c::cs)=(zfp st sz c).bind fun r=>(zdt r.2 szs cs).bind fun q=>some (r.1::q.1,q.2):=rfl
@[simp] theorem q0i:zdt st [] []=some ([],st):=rfl
@[simp] theorem qr6:toF sz (.v x)=if okV x then some (.v x) else none:=rfl
@[simp] theorem qx6:toF sz .e0=some (.sl sz []):=rfl
@[simp] theorem q0e:toF sz (.sl s es)=some (.sl s es):=rfl
@[simp] theorem q3s (szs:List Nat) (c:PV):zfd (sz::szs) (c::cs)=(toF sz c).bind fun x=>(zfd szs cs).bind fun xs=>some (x::xs):=rfl
@[simp] theorem qso  : zfd [] []=some []:=rfl
@[simp] theorem qp7 (b:Bool):okV (.bool b)=true:=rfl
@[simp] theorem q1s (n:Int):okV (.int k n)=true:=rfl
@[simp] theorem q31 (s:ByteArray):okV (.string s)=true:=rfl
@[simp] theorem q5b:zc2 (.v x)=okV x:=rfl
@[simp] theorem qwc  : zc2 .e0=true:=rfl
@[simp] theorem q1q:zc2 (.sl sz es)=true:=rfl
@[simp] theorem q06 (ep lo len:Nat):zc2 (.ref o p ep lo len)=true:=rfl
@[simp] theorem qpf:ze1 (.v x)=okV x:=rfl
@[simp] theorem qq7:isF (.v x)=false:=rfl
@[simp] theorem qp3  : isF .e0=false:=rfl
@[simp] theorem q0v:isF (.sl sz es)=true:=rfl
@[simp] theorem qyj:isF (.own sz es)=false:=rfl
@[simp] theorem qrv (ep lo len:Nat):isF (.ref o p ep lo len)=false:=rfl
@[simp] theorem qrh:isV (.v x)=true:=rfl
@[simp] theorem qqs  : isV .e0=false:=rfl
@[simp] theorem qo9:isV (.sl sz es)=false:=rfl
@[simp] theorem qp4:isV (.own sz es)=false:=rfl
@[simp] theorem qrs (ep lo len:Nat):isV (.ref o p ep lo len)=false:=rfl
@[simp] theorem q0p:zdv (.v x)=okV x:=by simp [zdv,ze1,isF]
@[simp] theorem q1h:zdv (.sl sz es)=true:=rfl
@[simp] theorem que (xs:List PV):over cs j xs=cs.take j++xs++cs.drop (j+xs.length):=rfl
@[simp] theorem q39 (szs:List Nat) (a x:PV):storeAt st szs a x=zvk st szs (cellsOf x) a:=rfl
@[simp] theorem qpi (szs:List Nat) (xs:List PV):zvk st szs xs (.ptr o p ep i j)=if xs.length=szs.length then zfs st szs xs o (st.S o) p ep i j else none:=rfl
@[simp] theorem qqf (szs:List Nat) (xs:List PV):zfs st szs xs o (some (.box cs)) none ep i j=if i=0/\j+xs.length<=cs.length/\xs.all zc2 then some { st with S:=upd st.S o (some (.box (over cs j xs))) } else none:=rfl
@[simp] theorem qt7 (szs:List Nat) (xs:List PV):zfs st szs xs o (some (.row s es)) none ep i j=(match zju xs with | some d=>zym st o i j d s es | none=>(zdt st szs xs).bind fun r=>zi7 r.2 o i j r.1 (r.2.S o)):=rfl
@[simp] theorem qvq:zju [.v x]=none:=rfl
@[simp] theorem qqu:zju [.e0]=none:=rfl
@[simp] theorem qx5 (o ep lo len:Nat):zju [.ref o none ep lo len]=none:=rfl
@[simp] theorem qtu (q:Nat×Nat) (ep lo len:Nat):zju [.ref o (some q) ep lo len]=some (o,q,ep,lo,len):=rfl
@[simp] theorem q4j (a b:PV) (l:List PV):zju (a::b::l)=none:=by
 cases a with
 | ref o p ep lo len=>cases p <;> rfl
 | _=>rfl
@[simp] theorem q44 (o2:Nat) (q:Nat×Nat) (ep lo len:Nat):zym st o i j (o2,q,ep,lo,len) s es=if o2=o/\q=(i,j)/\ep=st.ep then (zbe es i j).bind fun r=>if lo+len<=r.2.length then some { st with S:=upd st.S o (some (.row s (zb4 es i j (.own r.1 (cut r.2 lo len))))),ep:=st.ep+1 } else none else none:=rfl
@[simp] theorem qxb (szs:List Nat) (xs:List PV) (a b ep i j:Nat):zfs st szs xs o (some (.row s es)) (some (a,b)) ep i j=if ep=st.ep/\xs.all ze1 then (zbe es a b).bind fun q=>(q.2[i]?).bind fun cs=>if j+xs.length<=cs.length then some { st with S:=upd st.S o (some (.row s (zb4 es a b (.own q.1 (q.2.set i (over cs j xs)))))),ep:=st.ep+1 } else none else none:=rfl
@[simp] theorem q0x (szs:List Nat) (xs:List PV):zfs st szs xs o (some (.rowF s es)) none ep i j=(zfd szs xs).bind fun ys=>(es[i]?).bind fun cs=>if j+ys.length<=cs.length then some { st with S:=upd st.S o (some (.rowF s (es.set i (over cs j ys)))) } else none:=rfl
@[simp] theorem q47 (ys:List PV):zi7 st o i j ys (some (.row s es))=(es[i]?).bind fun cs=>if j+ys.length<=cs.length then some { st with S:=upd st.S o (some (.row s (es.set i (over cs j ys)))),ep:=if ys.all isV && ((cs.drop j).take ys.length).all isV then st.ep else st.ep+1 } else none:=rfl
@[simp] theorem qyw:zpl (.own sz es)=sz:=rfl
@[simp] theorem q3v:zpl (.v x)=0:=rfl
@[simp] theorem qx0 (z:List PV):zdj st z es []=some (es,st):=rfl
@[simp] theorem q3r (z:List PV) (x:PV) (r:List (Nat×PV)):zdj st z es ((i,x)::r)=(zdt st (z.map zpl) (cellsOf x)).bind fun q=>if i<es.length then zdj q.2 z (es.set i q.1) r else none:=rfl
@[simp] theorem q03 (z:List PV):zi4 z es []=some es:=rfl
@[simp] theorem qth (z:List PV) (x:PV) (r:List (Nat×PV)):zi4 z es ((i,x)::r)=(zfd (z.map zpl) (cellsOf x)).bind fun ys=>if i<es.length then zi4 z (es.set i ys) r else none:=rfl
@[simp] theorem q3h:zhl cs []=some cs:=rfl
@[simp] theorem qrw (off sz:Nat) (x:PV) (r:List (Nat×Nat×PV)):zhl cs ((off,sz,x)::r)=if (cellsOf x).length=sz/\off+sz<=cs.length/\(cellsOf x).all zc2 then zhl (over cs off (cellsOf x)) r else none:=rfl
@[simp] theorem qbg (k:IntKind) (a b:Int):eqV (.i k) (.int k a) (.int k b)=some (decide (a=b)):=by simp [eqV]; rfl
@[simp] theorem qu8 (a b:Bool):eqV .b (.bool a) (.bool b)=some (a == b):=rfl
@[simp] theorem qqn (a b:ByteArray):eqV .s (.string a) (.string b)=some (a == b):=rfl
@[simp] theorem qqe  : zcb [] [] []=some true:=rfl
@[simp] theorem qs2 (k:Kd) (ks:List Kd) (x y:Value) (xs ys:List PV):zcb (k::ks) (.v x::xs) (.v y::ys)=(eqV k x y).bind fun b=>if b then zcb ks xs ys else some false:=rfl
@[simp] theorem qra:lenOf st .e0=some 0:=rfl
@[simp] theorem q3o:lenOf st (.sl sz es)=some es.length:=rfl
@[simp] theorem qd8 (st:St) (o:Nat) (p:Option (Nat×Nat)) (ep lo len:Nat):lenOf st (.ref o p ep lo len)=if (zfx st o p ep).isSome then some len else none:=rfl
@[simp] theorem q21:iaddr st sz i (.sl s es)=if s=sz then (es[i]?).map fun cs => .fptr cs 0 else none:=rfl
@[simp] theorem qr7 (ep lo len:Nat):iaddr st sz i (.ref o p ep lo len)=(zfx st o p ep).bind fun r=>if r.1=sz/\i<len then some (.ptr o p ep (lo+i) 0) else none:=rfl
@[simp] theorem qty:zi3 st (.ptr o p ep i j)=if zir st.ep (st.S o) p ep i then some (.ptr o p ep i j) else none:=rfl
@[simp] theorem qtj:zi3 st (.fptr cs j)=some (.fptr cs j):=rfl
@[simp] theorem qry:zi3 st (.fn f caps)=some (.fn f caps):=rfl
@[simp] theorem q09 (off o:Nat):zjf st off (.ptr o p ep i j)=if zir st.ep (st.S o) p ep i then some (.ptr o p ep i (j+off)) else none:=rfl
@[simp] theorem q4r (off:Nat):zjf st off (.fptr cs j)=some (.fptr cs (j+off)):=rfl
@[simp] theorem qd6 (ce:Nat) (cs:List PV) (ep i:Nat):zir ce (some (.box cs)) none ep i=(i == 0):=rfl
@[simp] theorem qhp (ce sz:Nat) (es:List (List PV)) (p:Option (Nat×Nat)) (ep i:Nat):zir ce (some (.row sz es)) p ep i=(zax ce (some (.row sz es)) p ep).isSome:=by cases p <;> rfl
@[simp] theorem qa0 (ce sz:Nat) (es:List (List PV)) (p:Option (Nat×Nat)) (ep i:Nat):zir ce (some (.rowF sz es)) p ep i=(zax ce (some (.rowF sz es)) p ep).isSome:=by cases p <;> rfl
@[simp] theorem qep (ce sz:Nat) (es:List (List PV)) (e:Nat) (p:Option (Nat×Nat)) (ep i:Nat):zir ce (some (.shadow sz es e)) p ep i=(zax ce (some (.shadow sz es e)) p ep).isSome:=by cases p <;> rfl
@[simp] theorem qzo (vs:List PV):zmv i (.tup vs)=vs[i]?:=rfl
@[simp] theorem qyz (a b:Int):mxP true (.v (.int k a)) (.v (.int k b))=some (.v (.int k (max a b))):=by
 simp only [mxP,if_true]
 congr 3
 omega
@[simp] theorem q0u (a b:Int):mxP false (.v (.int k a)) (.v (.int k b))=some (.v (.int k (min a b))):=by
 simp only [mxP,if_true]
 congr 3
 simp;omega
@[simp] theorem q24:zb8 st []=[]:=rfl
@[simp] theorem q4m (x:Opd) (r:List (Nat×Opd)):zb8 st ((i,x)::r)=(i,x.get st)::zb8 st r:=rfl
@[simp] theorem qrl:zbs st none=some none:=rfl
@[simp] theorem qib (st:St) (y:Opd):zbs st (some y)=(zb2 (y.get st)).map some:=rfl
@[simp] theorem q3g:zgl st sz .e0=some ([],false,st):=rfl
@[simp] theorem qxr (ep lo len:Nat):zgl st sz (.ref o p ep lo len)=zgr st sz o (st.S o) p ep lo len:=rfl
@[simp] theorem q4x (ep lo len:Nat):zgr st sz o (some (.row s es)) none ep lo len=if s=sz/\lo+len=es.length then some (es.drop lo,false,{ st with S:=upd st.S o none }) else none:=rfl
@[simp] theorem qq3 (i j ep lo len:Nat):zgr st sz o (some (.row s es)) (some (i,j)) ep lo len=if ep=st.ep then (zbe es i j).bind fun r=>if r.1=sz/\lo+len=r.2.length then some (r.2.drop lo,false,{ st with S:=upd st.S o (some (.row s (zb4 es i j .undef))),ep:=st.ep+1 }) else none else none:=rfl
@[simp] theorem qrk (ep lo len:Nat):zgr st sz o (some (.rowF s es)) none ep lo len=if s=sz/\lo+len=es.length then some (es.drop lo,true,{ st with S:=upd st.S o none }) else none:=rfl
@[simp] theorem q49 (s:PV) (t:ByteArray):appS st s t=(zgl st 1 s).bind fun b=>if zag 1 (b.1.length+t.size) then zhh b.2.2 1 (b.1++zjb t) b.2.1 none else none:=rfl
@[simp] theorem qz0 (x:Opd):zaj m R st (.lenS x)=(zc5 (x.get st)).map fun s=>(.v (.int .i64 (s.size:Int)),st):=rfl
@[simp] theorem qyr (s x:Opd):zaj m R st (.appS s x)=(zc5 (x.get st)).bind fun t=>appS st (s.get st) t:=rfl
@[simp] theorem q5a (x:Opd) (lo hi:Option Opd):zaj m R st (.sliceS x lo hi)=(zc5 (x.get st)).bind fun s=>(zbs st lo).bind fun l=>(zbs st hi).bind fun h=>(sliceS s l h).map fun r=>(r,st):=rfl
@[simp] theorem qak (s:ByteArray) (lo hi:Option Nat):sliceS s lo hi=if lo.getD 0<=hi.getD s.size/\hi.getD s.size<=s.size then some (.v (.string (s.extract (lo.getD 0) (hi.getD s.size)))) else none:=rfl
@[simp] theorem quc (sz l h:Nat):zvj st sz l h .e0=some .e0:=rfl
@[simp] theorem qbk (st:St) (sz l h s:Nat) (es:List (List PV)):zvj st sz l h (.sl s es)=if s=sz then some (.sl s ((es.drop l).take (h-l))) else none:=rfl
@[simp] theorem qin (st:St) (sz l h o:Nat) (p:Option (Nat×Nat)) (ep lo n:Nat):zvj st sz l h (.ref o p ep lo n)=(zfx st o p ep).bind fun r=>if r.1=sz then some (.ref o p ep (lo+l) (h-l)) else none:=rfl
@[simp] theorem qgn (st:St) (sz:Nat) (x:PV) (lo hi:Option Nat):zlm st sz x lo hi none=(lenOf st x).bind fun n=>if lo.getD 0<=hi.getD n/\hi.getD n<=n then zvj st sz (lo.getD 0) (hi.getD n) x else none:=rfl
@[simp] theorem qfu (st:St) (sz:Nat) (x:PV) (lo hi:Option Nat) (m:Nat):zlm st sz x lo hi (some m)=(lenOf st x).bind fun n=>if m=0/\hi=some 0/\lo.getD 0=0/\0<=n then some .e0 else none:=rfl
@[simp] theorem qv1:zgh st sz .e0=some ([],none,st):=rfl
@[simp] theorem qw4:zgh st sz (.sl s es)=if s=sz/\zch es then some (es,none,st) else none:=rfl
@[simp] theorem qqr (ep lo len:Nat):zgh st sz (.ref o p ep lo len)=(zfx st o p ep).bind fun r=>if r.1=sz then if zch (cut r.2 lo len) then some (cut r.2 lo len,none,st) else zhm st o (st.S o) p lo len else none:=rfl
@[simp] theorem q00 (lo len:Nat):zhm st o (some (.row s es)) none lo len=if lo=0/\len=es.length then some (es,some false,{ st with S:=upd st.S o none }) else none:=rfl
@[simp] theorem qsw (lo len:Nat):zhm st o (some (.rowF s es)) none lo len=some (cut es lo len,some true,st):=rfl
@[simp] theorem qp2:zhh st sz es false none=some (newRow st sz es):=rfl
@[simp] theorem q13:zhh st sz es false (some false)=some (newRow st sz es):=rfl
@[simp] theorem q3e:zhh st sz es true none=some (zia st sz es):=rfl
@[simp] theorem qpa:zhh st sz es true (some true)=some (zia st sz es):=rfl
@[simp] theorem q1e (b sz:Nat) (s x:PV):zll st b sz s x=(zgh st sz x).bind fun m=>(zgl m.2.2 sz s).bind fun q=>if zag b (q.1.length+m.1.length) then zhh q.2.2 sz (q.1++m.1) q.2.1 m.2.1 else none:=rfl
@[simp] theorem qql  : zch []=true:=rfl
@[simp] theorem q2f (e:List PV):zch (e::es)=(e.all isV && zch es):=rfl
@[simp] theorem q0h:zcg st sz (.v x)=some (.v x):=rfl
@[simp] theorem qo7:zcg st sz .e0=some (.sl sz []):=rfl
@[simp] theorem q0m:zcg st sz (.sl s es)=some (.sl s es):=rfl
@[simp] theorem qtw (ep lo len:Nat):zcg st sz (.ref o p ep lo len)=(zfx st o p ep).map fun r => .sl r.1 (cut r.2 lo len):=rfl
@[simp] theorem qyn:zcg st sz (.fptr cs j)=some (.fptr cs j):=rfl
@[simp] theorem qxp:zcg st sz (.ptr o p ep i j)=zjz (st.S o) p i j:=rfl
@[simp] theorem qsf:zjz (some (.box cs)) none i j=if i=0/\cs.all zdv then some (.fptr cs j) else none:=rfl
@[simp] theorem qzv (szs:List Nat) (c:PV):ze7 st (sz::szs) (c::cs)=(zcg st sz c).bind fun x=>(ze7 st szs cs).bind fun xs=>some (x::xs):=rfl
@[simp] theorem q3k (c:PV):ze7 st [] (c::cs)=(zcg st 0 c).bind fun x=>(ze7 st [] cs).bind fun xs=>some (x::xs):=rfl
@[simp] theorem qzr (szs:List Nat):ze7 st szs []=some []:=by cases szs <;> rfl
@[simp] theorem q4n (szs:List Nat):zcx st szs (.agg cs)=(ze7 st szs cs).map .agg:=rfl
@[simp] theorem qur (szs:List Nat):zcx st szs (.fn f caps)=(ze7 st [] caps).map (.fn f):=rfl
@[simp] theorem q4y (szs:List Nat):zcx st szs (.v x)=zcg st (szs.headD 0) (.v x):=rfl
@[simp] theorem q4v (szs:List Nat):zf4 st szs (.v x)=zdr st (szs.headD 0) (.v x):=rfl
@[simp] theorem q5e (szs:List Nat)  : zcx st szs (.e0)=zcg st (szs.headD 0) (.e0):=rfl
@[simp] theorem qwr (szs:List Nat)  : zf4 st szs (.e0)=zdr st (szs.headD 0) (.e0):=rfl
@[simp] theorem q18 (szs:List Nat):zcx st szs (.sl sz es)=zcg st (szs.headD 0) (.sl sz es):=rfl
@[simp] theorem qsn (szs:List Nat) (ep lo len:Nat):zcx st szs (.ref o p ep lo len)=zcg st (szs.headD 0) (.ref o p ep lo len):=rfl
@[simp] theorem q4e (szs:List Nat) (ep lo len:Nat):zf4 st szs (.ref o p ep lo len)=zdr st (szs.headD 0) (.ref o p ep lo len):=rfl
@[simp] theorem q1g (szs:List Nat):zcx st szs (.fptr cs j)=zcg st (szs.headD 0) (.fptr cs j):=rfl
@[simp] theorem qpl (szs:List Nat):zcx st szs (.ptr o p ep i j)=zcg st (szs.headD 0) (.ptr o p ep i j):=rfl
@[simp] theorem quh (szs:List Nat):zf4 st szs (.ptr o p ep i j)=zdr st (szs.headD 0) (.ptr o p ep i j):=rfl
@[simp] theorem q1z (szs:List Nat):zf4 st szs (.agg cs)=(zg0 st szs cs).map fun q=>(.agg q.1,q.2):=rfl
@[simp] theorem qrr:zdr st sz (.v x)=some (.v x,[]):=rfl
@[simp] theorem q2u:zdr st sz .e0=some (.own sz [],[.e0]):=rfl
@[simp] theorem q5l (ep lo len:Nat):zdr st sz (.ref o none ep lo len)=zm2 o ep lo len (st.S o):=rfl
@[simp] theorem qqa:zdr st sz (.ptr o p ep i j)=zln o ep (st.S o) p i j:=rfl
@[simp] theorem qrn (o ep lo len s:Nat):zm2 o ep lo len (some (.row s es))=if lo=0/\len=es.length then some (.own s es,[.ref o none ep lo len]) else none:=rfl
@[simp] theorem qve:zln o ep (some (.box cs)) none i j=if i=0/\j=0/\cs.all zdv then some (.bx cs,[.ptr o none ep 0 0]) else none:=rfl
@[simp] theorem qs6 (szs:List Nat) (c:PV):zg0 st (sz::szs) (c::cs)=(zdr st sz c).bind fun r=>(zg0 st szs cs).bind fun q=>some (r.1::q.1,r.2++q.2):=rfl
@[simp] theorem qpj (szs:List Nat):zg0 st szs []=some ([],[]):=by cases szs <;> rfl
@[simp] theorem qyb:zc1 st ms []=some ([],[]):=by cases ms <;> rfl
@[simp] theorem qy3 (szs:List Nat) (x:PV):zc1 st [] ((szs,x)::xs)=(zcx st szs x).bind fun y=>(zc1 st [] xs).bind fun q=>some (y::q.1,q.2):=rfl
@[simp] theorem qwf (szs:List Nat) (x:PV):zc1 st (true::ms) ((szs,x)::xs)=(zf4 st szs x).bind fun r=>(zc1 st ms xs).bind fun q=>some (r.1::q.1,r.2++q.2):=rfl
@[simp] theorem q04 (szs:List Nat) (x:PV):zc1 st (false::ms) ((szs,x)::xs)=(zcx st szs x).bind fun y=>(zc1 st ms xs).bind fun q=>some (y::q.1,q.2):=by simp only [zc1,Bool.false_eq_true,if_false]; cases zcx st szs x <;> rfl
@[simp] theorem q2e:root (.v x)=[]:=rfl
@[simp] theorem qxf:zd2 (.v x)=[]:=rfl
@[simp] theorem q1d  : root (.e0)=[]:=rfl
@[simp] theorem qwe  : zd2 (.e0)=[]:=rfl
@[simp] theorem q10:root (.sl sz es)=[]:=rfl
@[simp] theorem qyx:zd2 (.sl sz es)=[]:=rfl
@[simp] theorem q5m (ep lo len:Nat):root (.ref o p ep lo len)=[o]:=rfl
@[simp] theorem q3l (ep lo len:Nat):zd2 (.ref o p ep lo len)=[o]:=rfl
@[simp] theorem q3y:root (.ptr o p ep i j)=[o]:=rfl
@[simp] theorem qtl:zd2 (.ptr o p ep i j)=[o]:=rfl
@[simp] theorem q01:root (.fptr cs j)=[]:=rfl
@[simp] theorem qv2:zd2 (.fptr cs j)=[]:=rfl
@[simp] theorem qpp:zd2 (.agg cs)=cs.flatMap root:=rfl
@[simp] theorem q08:zd2 (.fn f cs)=cs.flatMap root:=rfl
@[simp] theorem qqm  : zev []=true:=rfl
@[simp] theorem q19 (x:Nat) (xs:List Nat):zev (x::xs)=(!xs.any (fun y=>decide (y=x)) && zev xs):=rfl
@[simp] theorem qxm:zfk (.own sz es)=true:=rfl
@[simp] theorem q3t:zfk (.bx cs)=false:=rfl
@[simp] theorem qsr (o len s:Nat) (es':List (List PV)):putRow st o len s es' (some (.row sz es)) none=if es'.length=len/\s=sz/\es.length=len then some { st with S:=upd st.S o (some (.row sz es')) } else none:=rfl
@[simp] theorem qr4 (cs' cs:List PV):zpx st o cs' (some (.box cs))=if cs'.length=cs.length then some { st with S:=upd st.S o (some (.box cs')) } else none:=rfl
@[simp] theorem qt8:zfk .undef=true:=rfl
@[simp] theorem qqy:zc6 st .e0 .undef=some st:=rfl
@[simp] theorem q3z (ep lo len:Nat):zc6 st (.ref o p ep lo len) .undef=zpk st o (st.S o):=rfl
@[simp] theorem q2i:zpk st o (some (.row sz es))=some { st with S:=upd st.S o none }:=rfl
@[simp] theorem q2b:zc6 st .e0 (.own sz es)=if es.length=0 then some st else none:=rfl
@[simp] theorem qxe (ep lo len s:Nat) (es':List (List PV)):zc6 st (.ref o p ep lo len) (.own s es')=putRow st o len s es' (st.S o) p:=rfl
@[simp] theorem q1f (cs':List PV):zc6 st (.ptr o p ep i j) (.bx cs')=zpx st o cs' (st.S o):=rfl
@[simp] theorem qy5:ze2 st [] []=some st:=rfl
@[simp] theorem qqj (t:PV) (ts:List PV) (o:PV) (os:List PV):ze2 st (t::ts) (o::os)=(zc6 st t o).bind fun st=>ze2 st ts os:=rfl
@[simp] theorem qpg (z:Bool):zdo st z (.v x)=some (.v x,st):=rfl
@[simp] theorem q30 (z:Bool):zdo st z (.sl sz es)=if z then none else some (.sl sz es,st):=rfl
@[simp] theorem q36 (z:Bool):zdo st z (.own sz es)=some (newRow st sz es):=rfl
@[simp] theorem q2l (z:Bool):zdo st z (.bx cs)=if z && cs.any isF then none else some (zca st cs):=rfl
@[simp] theorem qwy (z:Bool):zgz st z []=some ([],st):=rfl
@[simp] theorem qx1 (z:Bool) (c:PV):zgz st z (c::cs)=(zdo st z c).bind fun r=>(zgz r.2 z cs).bind fun q=>some (r.1::q.1,q.2):=rfl
@[simp] theorem qst (z:Bool):zfu st z (.agg cs)=(zgz st z cs).map fun q=>(.agg q.1,q.2):=rfl
@[simp] theorem qxt (z:Bool):zfu st z (.v x)=zdo st z (.v x):=rfl
@[simp] theorem qw6 (z:Bool):zfu st z (.sl sz es)=zdo st z (.sl sz es):=rfl
@[simp] theorem qyc (z:Bool):zfu st z (.own sz es)=zdo st z (.own sz es):=rfl
@[simp] theorem qri (z:Bool):zfu st z (.bx cs)=zdo st z (.bx cs):=rfl
@[simp] theorem qrb (z:Bool):zf3 st z []=some ([],st):=rfl
@[simp] theorem qws (z:Bool) (c:PV):zf3 st z (c::cs)=(zfu st z c).bind fun r=>(zf3 r.2 z cs).bind fun q=>some (r.1::q.1,q.2):=rfl
@[simp] theorem qs5 (x:PV):zpz [x]=x:=rfl
@[simp] theorem qsq  : zpz [] = .tup []:=rfl
@[simp] theorem q0c (x y:PV) (r:List PV):zpz (x::y::r) = .tup (x::y::r):=rfl
@[simp] theorem q2m  : zep []=[]:=rfl
@[simp] theorem q1t (szs:List Nat) (x:PV) (r:List (List Nat×PV)):zep ((szs,x)::r)=zd2 x++zep r:=rfl
@[simp] theorem qzi (all:List Nat):zyu [] all=true:=rfl
@[simp] theorem qx7 (r all:List Nat):zyu (o::r) all=(decide ((all.filter fun y=>decide (y=o)).length=1) && zyu r all):=rfl
@[simp] theorem qwb:zk5 (some (.row sz es))=false:=rfl
@[simp] theorem qvu:zk5 (some (.rowF sz es))=false:=rfl
@[simp] theorem q4o:zk5 (some (.box cs))=false:=rfl
@[simp] theorem qp8:zk5 (some (.shadow sz es e))=true:=rfl
@[simp] theorem qy8  : zk5 none=false:=rfl
@[simp] theorem quq:ziv st []=true:=rfl
@[simp] theorem qt1 (os:List Nat):ziv st (o::os)=(!zk5 (st.S o) && ziv st os):=rfl
@[simp] theorem qu3  : zy0 []=true:=rfl
@[simp] theorem qvl (x:PV) (xs:List PV):zy0 (x::xs)=false:=rfl
@[simp] theorem qtv (k:Kd) (x y:Value):eqP [k] (.v x) (.v y)=eqV k x y:=rfl
@[simp] theorem qpe (fl:Bool):zhd fl false st=st:=rfl
@[simp] theorem q0b:zhd false true st = { st with ep:=st.ep+1 }:=rfl
@[simp] theorem q0w:zhd true true st = { st with S:=ybt st.S }:=rfl
@[simp] theorem qti:zzg (.own s es)=zch es:=rfl
@[simp] theorem qpb:zzg (.bx cs)=true:=rfl
@[simp] theorem q25:z8d (.bx cs)=cs.any isF:=rfl
@[simp] theorem qv7:z8d (.own sz es)=false:=rfl
@[simp] theorem qpn (hs:List PV):zhw args hs=((zep args).length != (hs.flatMap root).length):=rfl
@[simp] theorem qtc:zfm m R st f args=(zc1 st (m f) args).bind fun a=>if zyu (a.2.flatMap root) (zep args) && (zy0 a.2 || ziv st (zep args)) then (R f a.1).bind fun r=>if zhw args a.2 && r.2.any z8d || decide (args.length<(m f).length) && !r.2.all zzg then none else (ze2 st a.2 r.2).bind fun st1=>(zf3 (zhd (decide (args.length<(m f).length)) (r.2.any zfk) st1) (zhw args a.2) r.1).map fun q=>(zpz q.1,q.2) else none:=rfl
@[simp] theorem qss:zdy m R st f args=zgw (zeq st (m f) args) (zfm m R st f args) (zj8 m R st f args):=rfl
@[simp] theorem q0f {α β:Type} (y:Option β) (k:α->Option β):zgw none y k=y:=rfl
@[simp] theorem q5r {α β:Type} (x:α) (y:Option β) (k:α->Option β):zgw (some x) y k=k x:=rfl
@[simp] theorem qwl (q:List Nat×PV):zeq st (true::ms) (q::xs)=zgw (zhj st (cellsOf q.2)) (zeq st ms xs) some:=rfl
@[simp] theorem qy7 (q:List Nat×PV):zeq st (false::ms) (q::xs)=zeq st ms xs:=rfl
@[simp] theorem qx8:zeq st [] xs=none:=by cases xs <;> rfl
@[simp] theorem qsx:zeq st ms []=none:=by cases ms with | nil=>rfl | cons b ms=>cases b <;> rfl
@[simp] theorem qyf:cellsOf (.ptr o p ep i j)=[.ptr o p ep i j]:=rfl
@[simp] theorem qo6:cellsOf (.fptr cs j)=[.fptr cs j]:=rfl
@[simp] theorem quk:cellsOf (.fn f cs)=[.fn f cs]:=rfl
@[simp] theorem qp6:zhj st []=none:=rfl
@[simp] theorem qy2 (c:PV):zhj st (c::cs)=zgw (zf6 st c) (zhj st cs) some:=rfl
@[simp] theorem qv4:zf6 st (.v x)=none:=rfl
@[simp] theorem q1o:zf6 st .e0=none:=rfl
@[simp] theorem qut:zf6 st .undef=none:=rfl
@[simp] theorem q1a:zf6 st (.sl sz es)=none:=rfl
@[simp] theorem qqo:zf6 st (.fptr cs j)=none:=rfl
@[simp] theorem qys:zf6 st (.ptr o p ep i j)=none:=rfl
@[simp] theorem qyl:zf6 st (.fn f cs)=none:=rfl
@[simp] theorem qyv (o ep lo len:Nat):zf6 st (.ref o none ep lo len)=none:=rfl
@[simp] theorem qup (o i j ep lo len:Nat):zf6 st (.ref o (some (i,j)) ep lo len)=ziz st.ep o i j ep lo len (st.S o):=rfl
@[simp] theorem qtq (ce o i j ep lo len sz:Nat):ziz ce o i j ep lo len (some (.row sz es))=if ep=ce then (zbe es i j).bind fun r=>if lo=0/\len=r.2.length then some ⟨o,i,j,sz,es,r.1,r.2⟩ else none else none:=rfl
@[simp] theorem qzf (ce o i j ep lo len:Nat):ziz ce o i j ep lo len (some (.box cs))=none:=rfl
@[simp] theorem q5j (ce o i j ep lo len sz:Nat):ziz ce o i j ep lo len (some (.rowF sz es))=none:=rfl
@[simp] theorem qvi (ce o i j ep lo len:Nat):ziz ce o i j ep lo len none=none:=rfl
@[simp] theorem qvf (ep lo len:Nat):zgy d n e (.ref o p ep lo len)=if o=d.o/\p=some (d.i,d.j)/\ep=e then .ref n none (e+1) lo len else .ref o p ep lo len:=rfl
@[simp] theorem qps:zgy d n e (.v x) = .v x:=rfl
@[simp] theorem qxg:zgy d n e .e0 = .e0:=rfl
@[simp] theorem qyq:zgy d n e (.sl sz es) = .sl sz es:=rfl
@[simp] theorem qo4:zgy d n e (.ptr o p ep i j) = .ptr o p ep i j:=rfl
@[simp] theorem q33:zgy d n e (.fptr cs j) = .fptr cs j:=rfl
@[simp] theorem qt2:zh0 d n e (.agg cs) = .agg (cs.map (zgy d n e)):=rfl
@[simp] theorem q5p:zh0 d n e (.fn f cs) = .fn f cs:=rfl
@[simp] theorem qwz:zh0 d n e (.v x) = .v x:=rfl
@[simp] theorem qqw:zh0 d n e .e0 = .e0:=rfl
@[simp] theorem qus:zh0 d n e (.sl sz es) = .sl sz es:=rfl
@[simp] theorem q16:zh0 d n e (.ptr o p ep i j) = .ptr o p ep i j:=rfl
@[simp] theorem qz7:zh0 d n e (.fptr cs j) = .fptr cs j:=rfl
@[simp] theorem q1n (ep lo len:Nat):zh0 d n e (.ref o p ep lo len)=zgy d n e (.ref o p ep lo len):=rfl
@[simp] theorem qvw:zk8 d n e args=args.map fun q=>(q.1,zh0 d n e q.2):=rfl
@[simp] theorem qsh:zcf st d = { st with S:=upd (upd st.S d.o (some (.row d.sz (zb4 d.es d.i d.j .undef)))) st.nx (some (.row d.s2 d.es2)),nx:=st.nx+1,ep:=st.ep+1 }:=rfl
@[simp] theorem q1b:zpq st n d=zpr st n d.o d.i d.j (st.S n) (st.S d.o):=rfl
@[simp] theorem qxd (es es':List (List PV)):zpr st n o i j (some (.row s es')) (some (.row sz es))=some { st with S:=upd (upd st.S n none) o (some (.row sz (zb4 es i j (.own s es')))),ep:=st.ep+1 }:=rfl
@[simp] theorem qza:zj8 m R st f args d=if (zep (zk8 d st.nx st.ep args)).any (fun o=>o=d.o) then none else (zfm m R (zcf st d) f (zk8 d st.nx st.ep args)).bind fun r=>(zpq r.2 st.nx d).map fun s=>(r.1,s):=rfl
@[simp] theorem q15:zc4 st (.v x)=some (.v x,st):=rfl
@[simp] theorem qvo:zc4 st (.sl sz es)=some (.sl sz es,st):=rfl
@[simp] theorem q4l:zc4 st (.fptr cs j)=some (.fptr cs j,st):=rfl
@[simp] theorem q4f:zc4 st (.own sz es)=some (newRow st sz es):=rfl
@[simp] theorem qtf:zc4 st (.bx cs)=some (zca st cs):=rfl
@[simp] theorem qpq:zc4 st (.fn f caps)=some (.fn f caps,st):=rfl
@[simp] theorem q0z:zlc st []=some ([],st):=rfl
@[simp] theorem q37 (c:PV):zlc st (c::cs)=(zc4 st c).bind fun r=>(zlc r.2 cs).bind fun q=>some (r.1::q.1,q.2):=rfl
@[simp] theorem qq9:zg7 st (.agg cs)=(zlc st cs).map fun q=>(.agg q.1,q.2):=rfl
@[simp] theorem qx2:zg7 st (.v x)=zc4 st (.v x):=rfl
@[simp] theorem q14:zg7 st (.sl sz es)=zc4 st (.sl sz es):=rfl
@[simp] theorem q1i:zg7 st (.own sz es)=zc4 st (.own sz es):=rfl
@[simp] theorem qxj:zg7 st (.bx cs)=zc4 st (.bx cs):=rfl
@[simp] theorem qwq:zg7 st (.fptr cs j)=zc4 st (.fptr cs j):=rfl
@[simp] theorem q5s:zg7 st (.fn f caps)=zc4 st (.fn f caps):=rfl
@[simp] theorem qpv:zlj st []=some ([],st):=rfl
@[simp] theorem q2d (c:PV):zlj st (c::cs)=(zg7 st c).bind fun r=>(zlj r.2 cs).bind fun q=>some (r.1::q.1,q.2):=rfl
@[simp] theorem q28  : st0 = { V:=fun _ => .undef,E:=fun _ => .undef,S:=fun _=>none,nx:=0,ep:=0 }:=rfl
@[simp] theorem qv0 (args:List PV):zkz args=(zlj st0 args).map fun q => { q.2 with V:=fun k=>q.1.getD k .undef }:=rfl
@[simp] theorem q3n:zdp st io sz (.v x)=some (.v x):=rfl
@[simp] theorem qvp:zdp st io sz .e0=some (.own sz []):=rfl
@[simp] theorem q5t:zdp st io sz (.sl s es)=some (.sl s es):=rfl
@[simp] theorem q2c (ep lo len:Nat):zdp st io sz (.ref o p ep lo len)=zld io o (st.S o) p lo len:=rfl
@[simp] theorem qw5:zdp st io sz (.ptr o p ep i j)=zk0 io o (st.S o) p i j:=rfl
@[simp] theorem q4b (lo len:Nat):zld io o (some (.row s es)) none lo len=if io<=o then some (.own s (cut es lo len)) else none:=rfl
@[simp] theorem qre:zk0 io o (some (.box cs)) none i j=if io<=o/\i=0/\j=0/\cs.all zdv then some (.bx cs) else none:=rfl
@[simp] theorem qwv (szs:List Nat) (c:PV):zj3 st io (sz::szs) (c::cs)=(zdp st io sz c).bind fun x=>(zj3 st io szs cs).bind fun xs=>some (x::xs):=rfl
@[simp] theorem qxo (szs:List Nat):zj3 st io szs []=some []:=by cases szs <;> rfl
@[simp] theorem qvv (szs:List Nat):zhg st io szs (.agg cs)=(zj3 st io szs cs).map .agg:=rfl
@[simp] theorem q5g (szs:List Nat):zhg st io szs (.v x)=zdp st io (szs.headD 0) (.v x):=rfl
@[simp] theorem q1u (szs:List Nat)  : zhg st io szs (.e0)=zdp st io (szs.headD 0) (.e0):=rfl
@[simp] theorem qw7 (szs:List Nat):zhg st io szs (.sl sz es)=zdp st io (szs.headD 0) (.sl sz es):=rfl
@[simp] theorem q48 (szs:List Nat) (ep lo len:Nat):zhg st io szs (.ref o p ep lo len)=zdp st io (szs.headD 0) (.ref o p ep lo len):=rfl
@[simp] theorem qxv (szs:List Nat):zhg st io szs (.ptr o p ep i j)=zdp st io (szs.headD 0) (.ptr o p ep i j):=rfl
@[simp] theorem q1x (szs:List Nat) (k:Nat):zpy st (.tmp szs k)=some (st.V k):=rfl
@[simp] theorem qwi (szs:List Nat) (k:Nat):zpy st (.cell szs k ag)=(loadCells st szs.length (st.V k)).bind (zlf ag):=rfl
@[simp] theorem q5q (szs:List Nat) (k:Nat):RV.szs (.tmp szs k)=szs:=rfl
@[simp] theorem qto (szs:List Nat) (k:Nat):RV.szs (.cell szs k ag)=szs:=rfl
@[simp] theorem qw0:zjx st []=some []:=rfl
@[simp] theorem q3q (r:RV) (rs:List RV):zjx st (r::rs)=(zpy st r).bind fun x=>(zjx st rs).bind fun xs=>some ((r.szs,x)::xs):=rfl
@[simp] theorem qww:zlb st io []=some []:=rfl
@[simp] theorem q1r (szs:List Nat) (x:PV) (r:List (List Nat×PV)):zlb st io ((szs,x)::r)=(zhg st io szs x).bind fun y=>(zlb st io r).bind fun ys=>some (y::ys):=rfl
@[simp] theorem qsa:ziu (some (.row sz es))=some (.own sz es):=rfl
@[simp] theorem qya:ziu (some (.box cs))=if cs.all zdv then some (.bx cs) else none:=rfl
@[simp] theorem qye:zle st 0=some []:=rfl
@[simp] theorem qtg:zle st 1=(ziu (st.S 0)).map fun x=>[x]:=rfl
@[simp] theorem q5i:zle st 2=((ziu (st.S 0)).map fun x=>[x]).bind fun l=>(ziu (st.S 1)).map fun x=>l++[x]:=rfl
@[simp] theorem quu:zu7 []=false:=rfl
@[simp] theorem qq4 (szs:List Nat) (k:Nat):zu7 (.tmp szs k::r)=false:=rfl
@[simp] theorem q5f (szs:List Nat) (k:Nat):zu7 (.cell szs k ag::r)=false:=rfl
@[simp] theorem q0j:zu7 (.pl::r)=true:=rfl
@[simp] theorem q38:zm4 []=[]:=rfl
@[simp] theorem q3i (szs:List Nat) (k:Nat):zm4 (.tmp szs k::r) = .tmp szs k::r:=rfl
@[simp] theorem q4t (szs:List Nat) (k:Nat):zm4 (.cell szs k ag::r) = .cell szs k ag::r:=rfl
@[simp] theorem qqc:zm4 (.pl::r)=r:=rfl
@[simp] theorem qx9 (q:Nat×Nat) (ep lo len:Nat):zlh d n e (.ref o (some q) ep lo len)=if o=d.o/\ep=e then (if q=(d.i,d.j) then .ref n none (e+1) lo len else .ref o (some q) (e+1) lo len) else .ref o (some q) ep lo len:=rfl
@[simp] theorem qw8 (n e o ep lo len:Nat):zlh d n e (.ref o none ep lo len) = .ref o none ep lo len:=rfl
@[simp] theorem q2o:zlh d n e (.v x) = .v x:=rfl
@[simp] theorem q0l:zlh d n e .e0 = .e0:=rfl
@[simp] theorem qrm:zvv d n e (.agg cs) = .agg (cs.map (zlh d n e)):=rfl
@[simp] theorem qua:zvv d n e (.v x) = .v x:=rfl
@[simp] theorem qz6:zjo (n+1) st xs=match zhj st (xs.flatMap fun x=>cellsOf x.2) with
  | some d=>zjo n (zcf st d) (xs.map fun q=>(q.1,zvv d st.nx st.ep q.2))
  | none=>(st,xs):=rfl
@[simp] theorem qwo:zjo 0 st xs=(st,xs):=rfl
@[simp] theorem qpm:zx7 io (st,xs)=if zev (xs.flatMap fun x=>zd2 x.2) then (zlb st io xs).bind fun ys=>(zle st io).map fun os=>(ys,os) else none:=rfl
@[simp] theorem q5h (rv:List RV) (ic:IC):zf8 ⟨ms,rv,ic⟩ io st=(zjx st (zm4 rv)).bind fun xs=>zx7 io (if zu7 rv then zjo 2 st xs else (st,xs)):=rfl
@[simp] theorem q4a (rv:List RV) (ic:IC) (args:List PV):zyn m R ⟨ms,rv,ic⟩ args=(zkz args).bind fun st=>(evL m R ic st).bind (Ex.fin (zf8 ⟨ms,rv,ic⟩ st.nx)):=rfl
def zvc:List Value->Option (List Value)
 | [.int .u64 x,.int .u64 y,.int .u64 c]=>if 0<=x/\0<=y/\0<=c/\c<=1 then some [.int .u64 ((x+y+c) % 18446744073709551616),.int .u64 ((x+y+c) / 18446744073709551616)] else none
 | _=>none
def zu8:List Value->Option (List Value)
 | [.int .u64 x,.int .u64 y,.int .u64 b]=>if 0<=x/\0<=y/\x<18446744073709551616/\y<18446744073709551616/\0<=b/\b<=1 then some [.int .u64 ((x-y-b) % 18446744073709551616),.int .u64 (if x<y+b then 1 else 0)] else none
 | _=>none
theorem ydh {T:zci} {f:Nat} (hT:T f=some (.ext zvc)) {x y c:Int} (hx:0<=x) (hy:0<=y) (hc:0<=c) (hc1:c<=1) :
  RUN T f [.v (.int .u64 x),.v (.int .u64 y),.v (.int .u64 c)]=some ([.v (.int .u64 ((x+y+c) % 18446744073709551616)),.v (.int .u64 ((x+y+c) / 18446744073709551616))],[]) :=
 ypn hT (xs:=[.int .u64 x,.int .u64 y,.int .u64 c]) (if_pos ⟨hx,hy,hc,hc1⟩)
theorem ys5 {T:zci} {f:Nat} (hT:T f=some (.ext zu8)) {x y c:Int} (hx:0<=x) (hy:0<=y) (hx1:x<18446744073709551616) (hy1:y<18446744073709551616) (hc:0<=c) (hc1:c<=1) :
  RUN T f [.v (.int .u64 x),.v (.int .u64 y),.v (.int .u64 c)]=some ([.v (.int .u64 ((x-y-c) % 18446744073709551616)),.v (.int .u64 (if x<y+c then 1 else 0))],[]) :=
 ypn hT (xs:=[.int .u64 x,.int .u64 y,.int .u64 c]) (if_pos ⟨hx,hy,hx1,hy1,hc,hc1⟩)
theorem zaf {T:zci} {ic:IC} {rv:List RV} (h:T f=some (zaa ic rv ms)):zad T f=ms:=by simp [zad,h,Fun.modes]
theorem zy5 {T:zci} {g:List PV->Option (List PV×List PV)} (h:T f=some (.known ms g)):zad T f=ms:=by simp [zad,h,Fun.modes]
end Go.Pe
namespace Go.Pe
open Go
variable {X:Prop} {s:St} {i x y g:Opd} {id b n sz f bk fw:Nat} {r todo:List (zac×PV×Nat)} {d:Option Dst} {op:IOp} {os:List (zac×Nat×Nat)} {w:PV} {past:List St} {o:zac} {ps:List (Nat×Nat×Opd)} {ag:Bool} {ks:List Kd} {k:IntKind} {caps:List Opd} {lo hi mx:Option Opd} {args:List (List Nat×Opd)} {Q:Ex->St->Prop}
universe u
structure Dm {α:Sort u} (a:α):Type where mk ::
def W (m:Nat->List Bool) (R:zak) (c:IC) (st:St) (Q:Ex->St->Prop) (_:Dm Q:=⟨⟩):Prop := ∃ e s,evL m R c st=some (e,s)/\Q e s
def WO (m:Nat->List Bool) (R:zak) (ops:List zac) (st:St) (K:St->Prop) (_:Dm K:=⟨⟩):Prop := ∃ s,zdq m R ops st=some s/\K s
def WD (m:Nat->List Bool) (R:zak) (ops:List (zac×Nat×Nat)) (todo:List (zac×PV×Nat)) (past:List St) (st:St) (K:St->Prop) (_:Dm K:=⟨⟩) (_:Dm past:=⟨⟩):Prop := ∃ s,evD m R ops todo past st=some s/\K s
def WI (m:Nat->List Bool) (R:zak) (op:IOp) (st:St) (K:PV->St->Prop) (_:Dm K:=⟨⟩):Prop := ∃ x s,zaj m R st op=some (x,s)/\K x s
def Ob' {α:Type} (o:Option α) (K:α->Prop) (_:Dm K:=⟨⟩):Prop := ∃ a,o=some a/\K a
def Br (t:Bool) (X Y:Prop) (_:Dm X:=⟨⟩) (_:Dm Y:=⟨⟩):Prop:=(t=true->X)/\(t=false->Y)
def Cd (p X:Prop) (_:Dm X:=⟨⟩):Prop:=p/\X
def Nx (K:St->Prop) (Q:Ex->St->Prop) (_:Dm K) (_:Dm Q):Ex->St->Prop
 | .normal,s=>K s
 | e,s=>Q e s
def Bl (id:Nat) (Q:Ex->St->Prop) (_:Dm Q):Ex->St->Prop
 | .exit i,s=>if i=id then Q .normal s else Q (.exit i) s
 | e,s=>Q e s
def Fin (rv:List RV) (io:Nat) (r:List PV×List PV) (_:Dm rv) (_:Dm r) (e:Ex) (s:St):Prop:=(e = .normal\/e = .ret)/\zf8 ⟨[],rv,.skip⟩ io s=some r
section
variable {m:Nat->List Bool} {R:zak}
@[simp] theorem ynp {α:Type} {a:α} {K:α->Prop}:Ob' (some a) K=K a:=by simp [Ob']
@[simp] theorem qvj {α:Type} {K:α->Prop}:Ob' none K=False:=by simp [Ob']
@[simp] theorem qyu {α:Type} {p:Prop} [Decidable p] {a b:α} {K:α->Prop}:Ob' (if p then some a else some b) K=K (if p then a else b):=by split <;> simp
@[simp] theorem yot {α:Type} {p:Prop} [Decidable p] {a:Option α} {K:α->Prop}:Ob' (if p then a else none) K=Cd p (Ob' a K):=by
 unfold Cd; split <;> simp_all
@[simp] theorem qik {α β:Type} {o:Option α} {f:α->Option β} {K:β->Prop}:Ob' (o.bind f) K=Ob' o (fun a=>Ob' (f a) K):=by cases o <;> simp
@[simp] theorem qg7 {α β:Type} {o:Option α} {f:α->β} {K:β->Prop}:Ob' (o.map f) K=Ob' o (fun a=>K (f a)):=by cases o <;> simp
@[simp] theorem qsy {X Y:Prop}:Br true X Y=X:=by simp [Br]
@[simp] theorem qu0 {X Y:Prop}:Br false X Y=Y:=by simp [Br]
@[simp] theorem qr2:Cd True X=X:=by simp [Cd]
@[simp] theorem q4w:Cd False X=False:=by simp [Cd]
theorem zau {t:Bool} {X Y:Prop} (h1:t=true->X) (h2:t=false->Y):Br t X Y:=⟨h1,h2⟩
end
section
variable {m:Nat->List Bool} {R:zak} {st:St} {Q:Ex->St->Prop} {K:St->Prop}
@[simp] theorem qxz:Nx K Q ⟨⟩ ⟨⟩ .normal s=K s:=rfl
@[simp] theorem qyg:Nx K Q ⟨⟩ ⟨⟩ .ret s=Q .ret s:=rfl
@[simp] theorem qpz {i:Nat}:Nx K Q ⟨⟩ ⟨⟩ (.exit i) s=Q (.exit i) s:=rfl
@[simp] theorem q1j:Bl id Q ⟨⟩ .normal s=Q .normal s:=rfl
@[simp] theorem q11:Bl id Q ⟨⟩ .ret s=Q .ret s:=rfl
@[simp] theorem qwd:Bl id Q ⟨⟩ (.exit id) s=Q .normal s:=by simp [Bl]
@[simp] theorem qsl:Bl 0 Q ⟨⟩ (.exit 1) s=Q (.exit 1) s:=by simp [Bl]
@[simp] theorem qrp:Bl 1 Q ⟨⟩ (.exit 0) s=Q (.exit 0) s:=by simp [Bl]
@[simp] theorem qzt {rv:List RV} {io:Nat} {r:List PV×List PV}:Fin rv io r ⟨⟩ ⟨⟩ .normal s=(zf8 ⟨[],rv,.skip⟩ io s=some r):=by simp [Fin]
@[simp] theorem qro {rv:List RV} {io:Nat} {r:List PV×List PV}:Fin rv io r ⟨⟩ ⟨⟩ .ret s=(zf8 ⟨[],rv,.skip⟩ io s=some r):=by simp [Fin]
theorem ycy {c:IC} {e:Ex} (h:evL m R c st=some (e,s)):W m R c st Q=Q e s:=by
 simp only [W,h,bC,Prod.mk.injEq,eq_iff_iff];constructor
 ·rintro ⟨e,s,⟨rfl,rfl⟩,h⟩; exact h
 ·intro h; exact ⟨_,_,⟨rfl,rfl⟩,h⟩
@[simp] theorem qsg:W m R .skip st Q=Q .normal st:=ycy rfl
@[simp] theorem qpc:W m R .ret st Q=Q .ret st:=ycy rfl
@[simp] theorem qwm:W m R (.exit id) st Q=Q (.exit id) st:=ycy rfl
@[simp] theorem q27 {ops:List zac}:W m R (.reg ops) st Q=WO m R ops { st with E:=fun _ => .undef } (Q .normal):=by
 simp only [W,WO,qah,bB,eq_iff_iff];constructor
 ·rintro ⟨e,s,⟨s',h1,h2⟩,h3⟩; cases h2; exact ⟨_,h1,h3⟩
 ·rintro ⟨s,h1,h2⟩; exact ⟨_,s,⟨s,h1,rfl⟩,h2⟩
@[simp] theorem qrj {ops:List (zac×Nat×Nat)}:W m R (.regD ops) st Q=WD m R ops [] [] { st with E:=fun _ => .undef } (Q .normal):=by
 simp only [W,WD,evL,bB,eq_iff_iff];constructor
 ·rintro ⟨e,s,⟨s',h1,h2⟩,h3⟩; cases h2; exact ⟨_,h1,h3⟩
 ·rintro ⟨s,h1,h2⟩; exact ⟨_,s,⟨s,h1,rfl⟩,h2⟩
@[simp] theorem qea {a b:IC}:W m R (.seq a b) st Q=W m R a st (Nx (fun s=>W m R b s Q) Q ⟨⟩ ⟨⟩):=by
 simp only [W,yuo,Option.bind_eq_some_iff,eq_iff_iff];constructor
 ·rintro ⟨e,s,⟨⟨e1,s1⟩,h1,h2⟩,h3⟩;refine ⟨e1,s1,h1,?_⟩;cases e1 with
  | normal=>exact ⟨e,s,h2,h3⟩
  | exit i=>cases h2; exact h3
  | ret=>cases h2; exact h3
 ·rintro ⟨e1,s1,h1,h2⟩;cases e1 with
  | normal=>obtain ⟨e,s,h3,h4⟩:=h2; exact ⟨e,s,⟨_,h1,h3⟩,h4⟩
  | exit i=>exact ⟨_,_,⟨_,h1,rfl⟩,h2⟩
  | ret=>exact ⟨_,_,⟨_,h1,rfl⟩,h2⟩
@[simp] theorem q3j {c:Opd} {x y:IC}:W m R (.cond c x y) st Q=Ob' (zg8 (c.get st)) fun t=>Br t (W m R x st Q) (W m R y st Q):=by
 simp only [W,qfr,Option.bind_eq_some_iff,Ob',Br,eq_iff_iff];constructor
 ·rintro ⟨e,s,⟨t,h1,h2⟩,h3⟩;refine ⟨t,h1,fun ht => ?_,fun ht => ?_⟩ <;> subst ht
  ·exact ⟨e,s,by simpa using h2,h3⟩
  ·exact ⟨e,s,by simpa using h2,h3⟩
 ·rintro ⟨t,h1,h2,h3⟩;cases t with
  | true=>obtain ⟨e,s,h4,h5⟩:=h2 rfl; exact ⟨e,s,⟨true,h1,by simpa using h4⟩,h5⟩
  | false=>obtain ⟨e,s,h4,h5⟩:=h3 rfl; exact ⟨e,s,⟨false,h1,by simpa using h4⟩,h5⟩
@[simp] theorem q0y {c:IC}:W m R (.block id c) st Q=W m R c st (Bl id Q ⟨⟩):=by
 simp only [W,qb7,bB,eq_iff_iff];constructor
 ·rintro ⟨e,s,⟨⟨e1,s1⟩,h1,h2⟩,h3⟩;refine ⟨e1,s1,h1,?_⟩;cases e1 with
  | normal=>cases h2; exact h3
  | exit i=>simp only [Ex.out] at h2; simp only [Bl]; cases h2; split at h3 <;> simp_all
  | ret=>cases h2; exact h3
 ·rintro ⟨e1,s1,h1,h2⟩;refine ⟨_,_,⟨_,h1,rfl⟩,?_⟩;cases e1 with
  | normal=>exact h2
  | exit i=>simp only [Ex.out]; simp only [Bl] at h2; split <;> simp_all
  | ret=>exact h2
@[simp] theorem qpx:WO m R [] st K=K st:=by simp [WO]
@[simp] theorem qyi {os:List zac}:WO m R (⟨d,op,none⟩::os) st K=WI m R op st (fun x s=>WO m R os (s.put d x) K):=by
 simp only [WO,WI,qgy,Option.bind_eq_some_iff,eq_iff_iff];constructor
 ·rintro ⟨s,⟨⟨x,s1⟩,h1,h2⟩,h3⟩; exact ⟨x,s1,h1,s,h2,h3⟩
 ·rintro ⟨x,s1,h1,s,h2,h3⟩; exact ⟨s,⟨(x,s1),h1,h2⟩,h3⟩
@[simp] theorem qr0 {w:Bool} {os:List zac}:WO m R (⟨d,op,some (g,w)⟩::os) st K=Ob' (ziw w (g.get st)) fun t=>Br t (WI m R op st (fun x s=>WO m R os (s.put d x) K)) (WO m R os (st.put d (.v Go.undef)) K):=by
 simp only [WO,WI,qa2,Option.bind_eq_some_iff,Ob',Br,eq_iff_iff];constructor
 ·rintro ⟨s,⟨t,h1,h2⟩,h3⟩;refine ⟨t,h1,fun ht => ?_,fun ht => ?_⟩ <;> subst ht
  ·simp only [if_true,Option.bind_eq_some_iff] at h2;obtain ⟨⟨x,s1⟩,h4,h5⟩:=h2;exact ⟨x,s1,h4,s,h5,h3⟩
  ·exact ⟨s,by simpa using h2,h3⟩
 ·rintro ⟨t,h1,h2,h3⟩;cases t with
  | true=>obtain ⟨x,s1,h4,s,h5,h6⟩:=h2 rfl; exact ⟨s,⟨true,h1,by simp [h4,h5]⟩,h6⟩
  | false=>obtain ⟨s,h4,h5⟩:=h3 rfl; exact ⟨s,⟨false,h1,by simpa using h4⟩,h5⟩
@[simp] theorem q2a:WD m R [] todo past st K=K st:=by simp [WD,evD]
theorem yb4:evG m R st ⟨d,op,none⟩=zaj m R st op:=rfl
theorem yqj {w:Bool}:evG m R st ⟨d,op,some (g,w)⟩=(ziw w (g.get st)).bind fun t=>if t then zaj m R st op else some (.v Go.undef,st):=rfl
def WQ (m:Nat->List Bool) (R:zak) (os:List (zac×Nat×Nat)) (todo:List (zac×PV×Nat)) (past:List St) (st:St) (K:St->Prop) (o:zac) (b w:Nat) (x:PV) (s:St) (_:Dm K:=⟨⟩) (_:Dm past:=⟨⟩):Prop :=
 if quiet o.op then Cd (za4 st.V st.E o x b past) (WD m R os (if w=0 then todo else (o,x,w)::todo) past (st.put o.dst x) K) else Cd (zcl s todo) (WD m R os (zdf todo) (st::past) (s.put o.dst x) K)
theorem yqo {b w:Nat}:WD m R ((o,b,w)::os) todo past st K↔∃ x s,evG m R st o=some (x,s)/\WQ m R os todo past st K o b w x s:=by
 simp only [WD,evD,Option.bind_eq_some_iff,WQ,Cd];constructor
 ·rintro ⟨s,⟨⟨x,s1⟩,h1,h2⟩,h3⟩;refine ⟨x,s1,h1,?_⟩;split at h2
  ·rename_i hq; rw [if_pos hq];split at h2
   ·rename_i hc; exact ⟨hc,s,h2,h3⟩
   ·cases h2
  ·rename_i hq; rw [if_neg hq];split at h2
   ·rename_i hc; exact ⟨hc,s,h2,h3⟩
   ·cases h2
 ·rintro ⟨x,s1,h1,h2⟩;split at h2
  ·rename_i hq;obtain ⟨hc,s,h2,h3⟩:=h2;exact ⟨s,⟨(x,s1),h1,by rw [if_pos hq,if_pos hc]; exact h2⟩,h3⟩
  ·rename_i hq;obtain ⟨hc,s,h2,h3⟩:=h2;exact ⟨s,⟨(x,s1),h1,by rw [if_neg hq,if_pos hc]; exact h2⟩,h3⟩
@[simp] theorem qs3 {b w:Nat}:WD m R ((⟨d,op,none⟩,b,w)::os) todo past st K=WI m R op st (fun x s=>WQ m R os todo past st K ⟨d,op,none⟩ b w x s):=by
 rw [eq_iff_iff,yqo]; simp only [WI,yb4]
@[simp] theorem qpw {v:Bool} {b w:Nat}:WD m R ((⟨d,op,some (g,v)⟩,b,w)::os) todo past st K =
  Ob' (ziw v (g.get st)) fun t=>Br t (WI m R op st (fun x s=>WQ m R os todo past st K ⟨d,op,some (g,v)⟩ b w x s)) (WQ m R os todo past st K ⟨d,op,some (g,v)⟩ b w (.v Go.undef) st):=by
 rw [eq_iff_iff,yqo];simp only [WI,yqj,Option.bind_eq_some_iff,Ob',Br];constructor
 ·rintro ⟨x,s,⟨t,h1,h2⟩,h3⟩;refine ⟨t,h1,fun ht => ?_,fun ht => ?_⟩ <;> subst ht
  ·exact ⟨x,s,by simpa using h2,h3⟩
  ·simp at h2; obtain ⟨rfl,rfl⟩:=h2; exact h3
 ·rintro ⟨t,h1,h2,h3⟩;cases t with
  | true=>obtain ⟨x,s,h4,h5⟩:=h2 rfl; exact ⟨x,s,⟨true,h1,by simpa using h4⟩,h5⟩
  | false=>exact ⟨_,_,⟨false,h1,rfl⟩,h3 rfl⟩
theorem zd5 {g:Option (Opd×Bool)} {b w:Nat} {x:PV} (h:quiet op=true):WQ m R os todo past st K ⟨d,op,g⟩ b w x s=Cd (za4 st.V st.E ⟨d,op,g⟩ x b past) (WD m R os (if w=0 then todo else (⟨d,op,g⟩,x,w)::todo) past (st.put d x) K):=by
 simp only [WQ,h,if_true]
theorem zib {g:Option (Opd×Bool)} {b w:Nat} {x:PV} (h:quiet op=false):WQ m R os todo past st K ⟨d,op,g⟩ b w x s=Cd (zcl s todo) (WD m R os (zdf todo) (st::past) (s.put d x) K):=by
 simp only [WQ,h,Bool.false_eq_true,if_false]
theorem zes {g:Option (Opd×Bool)} {x:PV} (h:quiet op=true):WQ m R os todo past st K ⟨d,op,g⟩ 0 0 x s=WD m R os todo past (st.put d x) K:=by
 rw [zd5 h]; simp [Cd,za4]
theorem zeg {g:Option (Opd×Bool)} {b w:Nat} {x:PV} (h:quiet op=true):WQ m R os todo past st K ⟨d,op,g⟩ b (w+1) x s=Cd (za4 st.V st.E ⟨d,op,g⟩ x b past) (WD m R os ((⟨d,op,g⟩,x,w+1)::todo) past (st.put d x) K):=by
 rw [zd5 h]; simp
@[simp] theorem qu9 {V E:Nat->PV} {x:PV} {ms:List St}:za4 V E o x 0 ms=True:=by simp [za4]
@[simp] theorem qzh {V E:Nat->PV} {x:PV}:za4 V E o x n []=True:=by cases n <;> simp [za4]
@[simp] theorem qw1 {V E:Nat->PV} {x:PV} {ms:List St}:za4 V E ⟨d,op,none⟩ x (n+1) (s::ms)=(WI (fun _=>[]) (fun _ _=>none) op { s with V:=V,E:=E } (fun y _=>y=x)/\za4 V E ⟨d,op,none⟩ x n ms):=by
 simp only [za4,yv,yb4,WI,bB,eq_iff_iff];constructor
 ·rintro ⟨⟨⟨y,s'⟩,h1,h2⟩,h3⟩; exact ⟨⟨y,s',h1,h2⟩,h3⟩
 ·rintro ⟨⟨y,s',h1,h2⟩,h3⟩; exact ⟨⟨(y,s'),h1,h2⟩,h3⟩
@[simp] theorem q3c:zcl s []=True:=by simp [zcl]
@[simp] theorem qrf {x:PV}:zcl s ((o,x,0)::r)=zcl s r:=by simp [zcl]
@[simp] theorem qyp {x:PV}:zcl s ((⟨d,op,none⟩,x,n+1)::r)=(WI (fun _=>[]) (fun _ _=>none) op s (fun y _=>y=x)/\zcl s r):=by
 simp only [zcl,yv,yb4,WI,bB,eq_iff_iff];constructor
 ·rintro ⟨⟨⟨y,s'⟩,h1,h2⟩,h3⟩; exact ⟨⟨y,s',h1,h2⟩,h3⟩
 ·rintro ⟨⟨y,s',h1,h2⟩,h3⟩; exact ⟨⟨(y,s'),h1,h2⟩,h3⟩
@[simp] theorem q2p:zdf []=[]:=rfl
@[simp] theorem quz {x:PV}:zdf ((o,x,0)::r)=zdf r:=rfl
@[simp] theorem qp0 {x:PV}:zdf ((o,x,n+1)::r)=(o,x,n)::zdf r:=rfl
theorem z9m {K:PV->St->Prop} {x:PV} (h:zaj m R st op=some (x,s)):WI m R op st K=K x s:=by
 simp only [WI,h,bC,Prod.mk.injEq,eq_iff_iff];constructor
 ·rintro ⟨a,b,⟨rfl,rfl⟩,h⟩; exact h
 ·intro h; exact ⟨_,_,⟨rfl,rfl⟩,h⟩
theorem zh1 {op:IOp} {K:PV->St->Prop} {α:Type} {o:Option α} {f:α->PV} (h:zaj m R st op=o.map fun a=>(f a,st)):WI m R op st K=Ob' o fun a=>K (f a) st:=by
 simp only [WI,h,bB,Prod.mk.injEq,Ob',eq_iff_iff];constructor
 ·rintro ⟨x,s,⟨a,h1,rfl,rfl⟩,h3⟩; exact ⟨a,h1,h3⟩
 ·rintro ⟨a,h1,h2⟩; exact ⟨_,_,⟨a,h1,rfl,rfl⟩,h2⟩
theorem zf5 {op:IOp} {K:PV->St->Prop} {o:Option (PV×St)} (h:zaj m R st op=o):WI m R op st K=Ob' o fun r=>K r.1 r.2:=by
 simp only [WI,h,Ob',eq_iff_iff];constructor
 ·rintro ⟨x,s,h1,h2⟩; exact ⟨(x,s),h1,h2⟩
 ·rintro ⟨⟨x,s⟩,h1,h2⟩; exact ⟨x,s,h1,h2⟩
end
section
variable {m:Nat->List Bool} {R:zak} {st:St} {K:PV->St->Prop}
@[simp] theorem q4s:WI m R (.mv x) st K=K (x.get st) st:=z9m rfl
@[simp] theorem qrq {c a b:Opd}:WI m R (.pick c a b) st K=Ob' (zg8 (c.get st)) fun t=>K (if t then a.get st else b.get st) st:=zh1 rfl
@[simp] theorem qqk {z:List PV}:WI m R (.alloc z) st K=K (zca st z).1 (zca st z).2:=z9m rfl
@[simp] theorem qxx:WI m R (.box x) st K=Cd ((cellsOf (x.get st)).all zc2=true) (K (zca st (cellsOf (x.get st))).1 (zca st (cellsOf (x.get st))).2):=by
 rw [zf5 (qff m R st x),yot,ynp]
@[simp] theorem qwk {z:List PV}:WI m R (.build z ps) st K=Ob' (zhl z (ps.map fun q=>(q.1,q.2.1,q.2.2.get st))) fun cs=>K (.agg cs) st:=zh1 rfl
@[simp] theorem qyy {z:List PV} {ps:List (Nat×Opd)}:WI m R (.bslice n sz z ps) st K=Ob' (if (zdd st (zb8 st ps)).any fun q=>(cellsOf q.2).any isF then
   (zi4 z (List.replicate n (z.map fz)) (zdd st (zb8 st ps))).map fun es=>zia (zdi st (zb8 st ps)) sz es
  else (zdj (zdi st (zb8 st ps)) z (List.replicate n z) (zdd st (zb8 st ps))).map fun q=>newRow q.2 sz q.1) fun r=>K r.1 r.2:=zf5 (qbh m R st n sz z ps)
@[simp] theorem qyo:WI m R (.mvL x) st K=K (x.get st) st:=z9m rfl
@[simp] theorem qt5 {z:List PV}:WI m R (.allocL z) st K=K (zca st z).1 (zca st z).2:=z9m rfl
@[simp] theorem q20 {z:List PV} {ps:List (Nat×Opd)}:WI m R (.bsliceL n sz z ps) st K=Ob' (zdj st z (List.replicate n z) (zb8 st ps)) fun q=>K (newRow q.2 sz q.1).1 (newRow q.2 sz q.1).2:=by
 rw [zf5 (qhr m R st n sz z ps),eq_iff_iff];simp only [Ob',bB];constructor
 ·rintro ⟨r,⟨q,h1,rfl⟩,h3⟩; exact ⟨q,h1,h3⟩
 ·rintro ⟨q,h1,h3⟩; exact ⟨_,⟨q,h1,rfl⟩,h3⟩
@[simp] theorem qqz {a:Opd}:WI m R (.load ag sz a) st K=Ob' (loadCells st sz (a.get st)) fun cs=>Ob' (zlf ag cs) fun x=>K x st:=by
 rw [zf5 (qbv m R st ag sz a),eq_iff_iff];simp only [Ob',Option.bind_eq_some_iff,bB];constructor
 ·rintro ⟨r,⟨cs,h1,x,h2,rfl⟩,h3⟩; exact ⟨cs,h1,x,h2,h3⟩
 ·rintro ⟨cs,h1,x,h2,h3⟩; exact ⟨_,⟨cs,h1,x,h2,rfl⟩,h3⟩
@[simp] theorem qsb {szs:List Nat} {a x:Opd}:WI m R (.store szs a x) st K=Ob' (storeAt st szs (a.get st) (x.get st)) fun s=>K .undef s:=by
 rw [zf5 (qal m R st szs a x),qg7]
@[simp] theorem q0d:WI m R (.nilc x) st K=Ob' (zi3 st (x.get st)) fun r=>K r st:=zh1 (f:=id) rfl
@[simp] theorem qun {op:BinOp}:WI m R (.bin op x y) st K=Ob' (zm3 op (x.get st) (y.get st)) fun r=>K r st:=zh1 (f:=id) rfl
@[simp] theorem qsp {n:Bool}:WI m R (.eqb n ks x y) st K=Ob' (eqP ks (x.get st) (y.get st)) fun b=>K (.v (.bool (b != n))) st:=zh1 rfl
@[simp] theorem q05 {op:UnOp}:WI m R (.un op x) st K=Ob' (unP op (x.get st)) fun r=>K r st:=zh1 (f:=id) rfl
@[simp] theorem qux:WI m R (.convI k x) st K=Ob' (zhy (x.get st)) fun n=>K (.v (.int k (k.wrap n))) st:=zh1 rfl
@[simp] theorem qzc:WI m R (.toS x) st K=Ob' (zfw st (x.get st)) fun r=>Ob' (zk6 r.2) fun l=>K (.v (.string ⟨l.toArray⟩)) st:=by
 rw [zf5 (qei m R st x),eq_iff_iff];simp only [Ob',Option.bind_eq_some_iff,bB];constructor
 ·rintro ⟨r,⟨cs,h1,x,h2,rfl⟩,h3⟩; exact ⟨cs,h1,x,h2,h3⟩
 ·rintro ⟨cs,h1,x,h2,h3⟩; exact ⟨_,⟨cs,h1,x,h2,rfl⟩,h3⟩
@[simp] theorem q4c:WI m R (.mkfn f caps) st K=Cd ((caps.map (Opd.get st)).all zpu=true) (K (.fn f (caps.map (Opd.get st))) st):=by
 rw [zf5 (qej m R st f caps),yot,ynp]
@[simp] theorem qxi {z:List PV} {l c:Opd}:WI m R (.mksl b sz z l c) st K=Ob' (zb2 (l.get st)) fun n=>Ob' (zb2 (c.get st)) fun k=>Cd (n<=k/\zag b k=true) (K (newRow st sz (List.replicate n z)).1 (newRow st sz (List.replicate n z)).2):=by
 rw [zf5 (qc1 m R st b sz z l c),eq_iff_iff];simp only [Ob',Cd,Option.bind_eq_some_iff];constructor
 ·rintro ⟨r,⟨n,h1,k,h2,h3⟩,h4⟩;split at h3
  ·rename_i hc; cases h3; exact ⟨n,h1,k,h2,hc,h4⟩
  ·cases h3
 ·rintro ⟨n,h1,k,h2,hc,h4⟩; exact ⟨_,⟨n,h1,k,h2,if_pos hc⟩,h4⟩
@[simp] theorem qt3:WI m R (.slice sz x lo hi mx) st K=Ob' (zbs st lo) fun l=>Ob' (zbs st hi) fun h=>Ob' (zbs st mx) fun k=>Ob' (zlm st sz (x.get st) l h k) fun r=>K r st:=by
 rw [zf5 (qew m R st sz x lo hi mx),eq_iff_iff];simp only [Ob',Option.bind_eq_some_iff,bB];constructor
 ·rintro ⟨r,⟨l,h1,h,h2,k,h3,q,h4,rfl⟩,h5⟩; exact ⟨l,h1,h,h2,k,h3,q,h4,h5⟩
 ·rintro ⟨l,h1,h,h2,k,h3,q,h4,h5⟩; exact ⟨_,⟨l,h1,h,h2,k,h3,q,h4,rfl⟩,h5⟩
@[simp] theorem q3m:WI m R (.sliceS x lo hi) st K=Ob' (zc5 (x.get st)) fun s=>Ob' (zbs st lo) fun l=>Ob' (zbs st hi) fun h=>Ob' (sliceS s l h) fun r=>K r st:=by
 rw [zf5 (o:=(zc5 (x.get st)).bind fun s=>(zbs st lo).bind fun l=>(zbs st hi).bind fun h=>(sliceS s l h).map fun r=>(r,st)) rfl,eq_iff_iff];simp only [Ob',Option.bind_eq_some_iff,bB];constructor
 ·rintro ⟨r,⟨l,h1,h,h2,k,h3,q,h4,rfl⟩,h5⟩; exact ⟨l,h1,h,h2,k,h3,q,h4,h5⟩
 ·rintro ⟨l,h1,h,h2,k,h3,q,h4,h5⟩; exact ⟨_,⟨l,h1,h,h2,k,h3,q,h4,rfl⟩,h5⟩
@[simp] theorem qrz {off:Nat}:WI m R (.faddr off x) st K=Ob' (zjf st off (x.get st)) fun r=>K r st:=zh1 (f:=id) rfl
@[simp] theorem q1k:WI m R (.iaddr sz x i) st K=Ob' (zb2 (i.get st)) fun k=>Ob' (iaddr st sz k (x.get st)) fun r=>K r st:=by
 rw [zf5 (qc6 m R st sz x i),eq_iff_iff];simp only [Ob',Option.bind_eq_some_iff,bB];constructor
 ·rintro ⟨r,⟨cs,h1,x,h2,rfl⟩,h3⟩; exact ⟨cs,h1,x,h2,h3⟩
 ·rintro ⟨cs,h1,x,h2,h3⟩; exact ⟨_,⟨cs,h1,x,h2,rfl⟩,h3⟩
@[simp] theorem q5d:WI m R (.idx x i) st K=Ob' (zc5 (x.get st)) fun s=>Ob' (zb2 (i.get st)) fun k=>Ob' (s[k]?) fun b=>K (.v (.int .u8 (b.toNat:Int))) st:=by
 rw [zf5 (qil m R st x i),eq_iff_iff];simp only [Ob',Option.bind_eq_some_iff,bB];constructor
 ·rintro ⟨r,⟨l,h1,h,h2,k,h3,rfl⟩,h5⟩; exact ⟨l,h1,h,h2,k,h3,h5⟩
 ·rintro ⟨l,h1,h,h2,k,h3,h5⟩; exact ⟨_,⟨l,h1,h,h2,k,h3,rfl⟩,h5⟩
@[simp] theorem qym {i:Nat}:WI m R (.ext i x) st K=Ob' (zmv i (x.get st)) fun r=>K r st:=zh1 (f:=id) rfl
@[simp] theorem qzp:WI m R (.call f args) st K=Ob' (zdy m R st f (args.map fun q=>(q.1,q.2.get st))) fun r=>K r.1 r.2:=zf5 rfl
@[simp] theorem q1l:WI m R (.callv g args) st K=Ob' (zpm m R st (args.map fun q=>(q.1,q.2.get st)) (g.get st)) fun r=>K r.1 r.2:=zf5 rfl
@[simp] theorem q17:WI m R (.len x) st K=Ob' (lenOf st (x.get st)) fun n=>K (.v (.int .i64 ((n:Nat):Int))) st:=zh1 rfl
@[simp] theorem qzj:WI m R (.lenS x) st K=Ob' (zc5 (x.get st)) fun s=>K (.v (.int .i64 (s.size:Int))) st:=zh1 rfl
@[simp] theorem qtr {s x:Opd}:WI m R (.app b sz s x) st K=Ob' (zll st b sz (s.get st) (x.get st)) fun r=>K r.1 r.2:=zf5 rfl
@[simp] theorem qr9 {s x:Opd}:WI m R (.appS s x) st K=Ob' (zc5 (x.get st)) fun t=>Ob' (appS st (s.get st) t) fun r=>K r.1 r.2:=by
 rw [zf5 (o:=(zc5 (x.get st)).bind fun t=>appS st (s.get st) t) rfl,qik]
@[simp] theorem qxy {b:Bool}:WI m R (.mx b x y) st K=Ob' (mxP b (x.get st) (y.get st)) fun r=>K r st:=zh1 (f:=id) rfl
end
section
variable {m:Nat->List Bool} {R:zak} {st:St} {K:St->Prop} {os:List (zac×Nat×Nat)} {todo:List (zac×PV×Nat)} {past:List St} {d:Option Dst} {g:Option (Opd×Bool)}
@[simp] theorem qsc:WQ m R os todo past st K ⟨d,.mv x,g⟩ 0 0 w s=WD m R os todo past (st.put d w) K:=zes rfl
@[simp] theorem q4g:WQ m R os todo past st K ⟨d,.mv x,g⟩ bk (fw+1) w s=Cd (za4 st.V st.E ⟨d,.mv x,g⟩ w bk past) (WD m R os ((⟨d,.mv x,g⟩,w,fw+1)::todo) past (st.put d w) K):=zeg rfl
@[simp] theorem qvh:WQ m R os todo past st K ⟨d,.mv x,g⟩ (bk+1) 0 w s=Cd (za4 st.V st.E ⟨d,.mv x,g⟩ w (bk+1) past) (WD m R os todo past (st.put d w) K):=by rw [zd5 rfl]; rfl
@[simp] theorem q32 (c a b:Opd):WQ m R os todo past st K ⟨d,.pick c a b,g⟩ 0 0 w s=WD m R os todo past (st.put d w) K:=zes rfl
@[simp] theorem qz2 (c a b:Opd):WQ m R os todo past st K ⟨d,.pick c a b,g⟩ bk (fw+1) w s=Cd (za4 st.V st.E ⟨d,.pick c a b,g⟩ w bk past) (WD m R os ((⟨d,.pick c a b,g⟩,w,fw+1)::todo) past (st.put d w) K):=zeg rfl
@[simp] theorem qx3 (c a b:Opd):WQ m R os todo past st K ⟨d,.pick c a b,g⟩ (bk+1) 0 w s=Cd (za4 st.V st.E ⟨d,.pick c a b,g⟩ w (bk+1) past) (WD m R os todo past (st.put d w) K):=by rw [zd5 rfl]; rfl
@[simp] theorem qub (z:List PV):WQ m R os todo past st K ⟨d,.build z ps,g⟩ 0 0 w s=WD m R os todo past (st.put d w) K:=zes rfl
@[simp] theorem qu7 (z:List PV):WQ m R os todo past st K ⟨d,.build z ps,g⟩ bk (fw+1) w s=Cd (za4 st.V st.E ⟨d,.build z ps,g⟩ w bk past) (WD m R os ((⟨d,.build z ps,g⟩,w,fw+1)::todo) past (st.put d w) K):=zeg rfl
@[simp] theorem qxc (z:List PV):WQ m R os todo past st K ⟨d,.build z ps,g⟩ (bk+1) 0 w s=Cd (za4 st.V st.E ⟨d,.build z ps,g⟩ w (bk+1) past) (WD m R os todo past (st.put d w) K):=by rw [zd5 rfl]; rfl
@[simp] theorem qsd (a:Opd):WQ m R os todo past st K ⟨d,.load ag sz a,g⟩ 0 0 w s=WD m R os todo past (st.put d w) K:=zes rfl
@[simp] theorem q23 (a:Opd):WQ m R os todo past st K ⟨d,.load ag sz a,g⟩ bk (fw+1) w s=Cd (za4 st.V st.E ⟨d,.load ag sz a,g⟩ w bk past) (WD m R os ((⟨d,.load ag sz a,g⟩,w,fw+1)::todo) past (st.put d w) K):=zeg rfl
@[simp] theorem qqb (a:Opd):WQ m R os todo past st K ⟨d,.load ag sz a,g⟩ (bk+1) 0 w s=Cd (za4 st.V st.E ⟨d,.load ag sz a,g⟩ w (bk+1) past) (WD m R os todo past (st.put d w) K):=by rw [zd5 rfl]; rfl
@[simp] theorem q2y:WQ m R os todo past st K ⟨d,.nilc x,g⟩ 0 0 w s=WD m R os todo past (st.put d w) K:=zes rfl
@[simp] theorem quy:WQ m R os todo past st K ⟨d,.nilc x,g⟩ bk (fw+1) w s=Cd (za4 st.V st.E ⟨d,.nilc x,g⟩ w bk past) (WD m R os ((⟨d,.nilc x,g⟩,w,fw+1)::todo) past (st.put d w) K):=zeg rfl
@[simp] theorem qv9:WQ m R os todo past st K ⟨d,.nilc x,g⟩ (bk+1) 0 w s=Cd (za4 st.V st.E ⟨d,.nilc x,g⟩ w (bk+1) past) (WD m R os todo past (st.put d w) K):=by rw [zd5 rfl]; rfl
@[simp] theorem qtt (op:BinOp):WQ m R os todo past st K ⟨d,.bin op x y,g⟩ 0 0 w s=WD m R os todo past (st.put d w) K:=zes rfl
@[simp] theorem q42 (op:BinOp):WQ m R os todo past st K ⟨d,.bin op x y,g⟩ bk (fw+1) w s=Cd (za4 st.V st.E ⟨d,.bin op x y,g⟩ w bk past) (WD m R os ((⟨d,.bin op x y,g⟩,w,fw+1)::todo) past (st.put d w) K):=zeg rfl
@[simp] theorem q5n (op:BinOp):WQ m R os todo past st K ⟨d,.bin op x y,g⟩ (bk+1) 0 w s=Cd (za4 st.V st.E ⟨d,.bin op x y,g⟩ w (bk+1) past) (WD m R os todo past (st.put d w) K):=by rw [zd5 rfl]; rfl
@[simp] theorem qs9 (n:Bool):WQ m R os todo past st K ⟨d,.eqb n ks x y,g⟩ 0 0 w s=WD m R os todo past (st.put d w) K:=zes rfl
@[simp] theorem qxh (n:Bool):WQ m R os todo past st K ⟨d,.eqb n ks x y,g⟩ bk (fw+1) w s=Cd (za4 st.V st.E ⟨d,.eqb n ks x y,g⟩ w bk past) (WD m R os ((⟨d,.eqb n ks x y,g⟩,w,fw+1)::todo) past (st.put d w) K):=zeg rfl
@[simp] theorem qv8 (n:Bool):WQ m R os todo past st K ⟨d,.eqb n ks x y,g⟩ (bk+1) 0 w s=Cd (za4 st.V st.E ⟨d,.eqb n ks x y,g⟩ w (bk+1) past) (WD m R os todo past (st.put d w) K):=by rw [zd5 rfl]; rfl
@[simp] theorem qr8 (op:UnOp):WQ m R os todo past st K ⟨d,.un op x,g⟩ 0 0 w s=WD m R os todo past (st.put d w) K:=zes rfl
@[simp] theorem q2z (op:UnOp):WQ m R os todo past st K ⟨d,.un op x,g⟩ bk (fw+1) w s=Cd (za4 st.V st.E ⟨d,.un op x,g⟩ w bk past) (WD m R os ((⟨d,.un op x,g⟩,w,fw+1)::todo) past (st.put d w) K):=zeg rfl
@[simp] theorem qzw (op:UnOp):WQ m R os todo past st K ⟨d,.un op x,g⟩ (bk+1) 0 w s=Cd (za4 st.V st.E ⟨d,.un op x,g⟩ w (bk+1) past) (WD m R os todo past (st.put d w) K):=by rw [zd5 rfl]; rfl
@[simp] theorem qu2:WQ m R os todo past st K ⟨d,.convI k x,g⟩ 0 0 w s=WD m R os todo past (st.put d w) K:=zes rfl
@[simp] theorem q2k:WQ m R os todo past st K ⟨d,.convI k x,g⟩ bk (fw+1) w s=Cd (za4 st.V st.E ⟨d,.convI k x,g⟩ w bk past) (WD m R os ((⟨d,.convI k x,g⟩,w,fw+1)::todo) past (st.put d w) K):=zeg rfl
@[simp] theorem qo8:WQ m R os todo past st K ⟨d,.convI k x,g⟩ (bk+1) 0 w s=Cd (za4 st.V st.E ⟨d,.convI k x,g⟩ w (bk+1) past) (WD m R os todo past (st.put d w) K):=by rw [zd5 rfl]; rfl
@[simp] theorem q02:WQ m R os todo past st K ⟨d,.toS x,g⟩ 0 0 w s=WD m R os todo past (st.put d w) K:=zes rfl
@[simp] theorem qsz:WQ m R os todo past st K ⟨d,.toS x,g⟩ bk (fw+1) w s=Cd (za4 st.V st.E ⟨d,.toS x,g⟩ w bk past) (WD m R os ((⟨d,.toS x,g⟩,w,fw+1)::todo) past (st.put d w) K):=zeg rfl
@[simp] theorem qta:WQ m R os todo past st K ⟨d,.toS x,g⟩ (bk+1) 0 w s=Cd (za4 st.V st.E ⟨d,.toS x,g⟩ w (bk+1) past) (WD m R os todo past (st.put d w) K):=by rw [zd5 rfl]; rfl
@[simp] theorem qum:WQ m R os todo past st K ⟨d,.mkfn f caps,g⟩ 0 0 w s=WD m R os todo past (st.put d w) K:=zes rfl
@[simp] theorem qu4:WQ m R os todo past st K ⟨d,.mkfn f caps,g⟩ bk (fw+1) w s=Cd (za4 st.V st.E ⟨d,.mkfn f caps,g⟩ w bk past) (WD m R os ((⟨d,.mkfn f caps,g⟩,w,fw+1)::todo) past (st.put d w) K):=zeg rfl
@[simp] theorem qs0:WQ m R os todo past st K ⟨d,.mkfn f caps,g⟩ (bk+1) 0 w s=Cd (za4 st.V st.E ⟨d,.mkfn f caps,g⟩ w (bk+1) past) (WD m R os todo past (st.put d w) K):=by rw [zd5 rfl]; rfl
@[simp] theorem quv:WQ m R os todo past st K ⟨d,.slice sz x lo hi mx,g⟩ 0 0 w s=WD m R os todo past (st.put d w) K:=zes rfl
@[simp] theorem qyd:WQ m R os todo past st K ⟨d,.slice sz x lo hi mx,g⟩ bk (fw+1) w s=Cd (za4 st.V st.E ⟨d,.slice sz x lo hi mx,g⟩ w bk past) (WD m R os ((⟨d,.slice sz x lo hi mx,g⟩,w,fw+1)::todo) past (st.put d w) K):=zeg rfl
@[simp] theorem qw9:WQ m R os todo past st K ⟨d,.slice sz x lo hi mx,g⟩ (bk+1) 0 w s=Cd (za4 st.V st.E ⟨d,.slice sz x lo hi mx,g⟩ w (bk+1) past) (WD m R os todo past (st.put d w) K):=by rw [zd5 rfl]; rfl
@[simp] theorem q4p:WQ m R os todo past st K ⟨d,.sliceS x lo hi,g⟩ 0 0 w s=WD m R os todo past (st.put d w) K:=zes rfl
@[simp] theorem q41:WQ m R os todo past st K ⟨d,.sliceS x lo hi,g⟩ bk (fw+1) w s=Cd (za4 st.V st.E ⟨d,.sliceS x lo hi,g⟩ w bk past) (WD m R os ((⟨d,.sliceS x lo hi,g⟩,w,fw+1)::todo) past (st.put d w) K):=zeg rfl
@[simp] theorem qpy:WQ m R os todo past st K ⟨d,.sliceS x lo hi,g⟩ (bk+1) 0 w s=Cd (za4 st.V st.E ⟨d,.sliceS x lo hi,g⟩ w (bk+1) past) (WD m R os todo past (st.put d w) K):=by rw [zd5 rfl]; rfl
@[simp] theorem q0o (off:Nat):WQ m R os todo past st K ⟨d,.faddr off x,g⟩ 0 0 w s=WD m R os todo past (st.put d w) K:=zes rfl
@[simp] theorem qwg (off:Nat):WQ m R os todo past st K ⟨d,.faddr off x,g⟩ bk (fw+1) w s=Cd (za4 st.V st.E ⟨d,.faddr off x,g⟩ w bk past) (WD m R os ((⟨d,.faddr off x,g⟩,w,fw+1)::todo) past (st.put d w) K):=zeg rfl
@[simp] theorem qz9 (off:Nat):WQ m R os todo past st K ⟨d,.faddr off x,g⟩ (bk+1) 0 w s=Cd (za4 st.V st.E ⟨d,.faddr off x,g⟩ w (bk+1) past) (WD m R os todo past (st.put d w) K):=by rw [zd5 rfl]; rfl
@[simp] theorem q2q:WQ m R os todo past st K ⟨d,.iaddr sz x i,g⟩ 0 0 w s=WD m R os todo past (st.put d w) K:=zes rfl
@[simp] theorem qxn:WQ m R os todo past st K ⟨d,.iaddr sz x i,g⟩ bk (fw+1) w s=Cd (za4 st.V st.E ⟨d,.iaddr sz x i,g⟩ w bk past) (WD m R os ((⟨d,.iaddr sz x i,g⟩,w,fw+1)::todo) past (st.put d w) K):=zeg rfl
@[simp] theorem qv5:WQ m R os todo past st K ⟨d,.iaddr sz x i,g⟩ (bk+1) 0 w s=Cd (za4 st.V st.E ⟨d,.iaddr sz x i,g⟩ w (bk+1) past) (WD m R os todo past (st.put d w) K):=by rw [zd5 rfl]; rfl
@[simp] theorem qy1:WQ m R os todo past st K ⟨d,.idx x i,g⟩ 0 0 w s=WD m R os todo past (st.put d w) K:=zes rfl
@[simp] theorem qr1:WQ m R os todo past st K ⟨d,.idx x i,g⟩ bk (fw+1) w s=Cd (za4 st.V st.E ⟨d,.idx x i,g⟩ w bk past) (WD m R os ((⟨d,.idx x i,g⟩,w,fw+1)::todo) past (st.put d w) K):=zeg rfl
@[simp] theorem q3d:WQ m R os todo past st K ⟨d,.idx x i,g⟩ (bk+1) 0 w s=Cd (za4 st.V st.E ⟨d,.idx x i,g⟩ w (bk+1) past) (WD m R os todo past (st.put d w) K):=by rw [zd5 rfl]; rfl
@[simp] theorem q29 (i:Nat):WQ m R os todo past st K ⟨d,.ext i x,g⟩ 0 0 w s=WD m R os todo past (st.put d w) K:=zes rfl
@[simp] theorem q1c (i:Nat):WQ m R os todo past st K ⟨d,.ext i x,g⟩ bk (fw+1) w s=Cd (za4 st.V st.E ⟨d,.ext i x,g⟩ w bk past) (WD m R os ((⟨d,.ext i x,g⟩,w,fw+1)::todo) past (st.put d w) K):=zeg rfl
@[simp] theorem qvs (i:Nat):WQ m R os todo past st K ⟨d,.ext i x,g⟩ (bk+1) 0 w s=Cd (za4 st.V st.E ⟨d,.ext i x,g⟩ w (bk+1) past) (WD m R os todo past (st.put d w) K):=by rw [zd5 rfl]; rfl
@[simp] theorem qug:WQ m R os todo past st K ⟨d,.len x,g⟩ 0 0 w s=WD m R os todo past (st.put d w) K:=zes rfl
@[simp] theorem q3b:WQ m R os todo past st K ⟨d,.len x,g⟩ bk (fw+1) w s=Cd (za4 st.V st.E ⟨d,.len x,g⟩ w bk past) (WD m R os ((⟨d,.len x,g⟩,w,fw+1)::todo) past (st.put d w) K):=zeg rfl
@[simp] theorem qt4:WQ m R os todo past st K ⟨d,.len x,g⟩ (bk+1) 0 w s=Cd (za4 st.V st.E ⟨d,.len x,g⟩ w (bk+1) past) (WD m R os todo past (st.put d w) K):=by rw [zd5 rfl]; rfl
@[simp] theorem qy6:WQ m R os todo past st K ⟨d,.lenS x,g⟩ 0 0 w s=WD m R os todo past (st.put d w) K:=zes rfl
@[simp] theorem q5k:WQ m R os todo past st K ⟨d,.lenS x,g⟩ bk (fw+1) w s=Cd (za4 st.V st.E ⟨d,.lenS x,g⟩ w bk past) (WD m R os ((⟨d,.lenS x,g⟩,w,fw+1)::todo) past (st.put d w) K):=zeg rfl
@[simp] theorem qzg:WQ m R os todo past st K ⟨d,.lenS x,g⟩ (bk+1) 0 w s=Cd (za4 st.V st.E ⟨d,.lenS x,g⟩ w (bk+1) past) (WD m R os todo past (st.put d w) K):=by rw [zd5 rfl]; rfl
@[simp] theorem qte (b:Bool):WQ m R os todo past st K ⟨d,.mx b x y,g⟩ 0 0 w s=WD m R os todo past (st.put d w) K:=zes rfl
@[simp] theorem q0g (b:Bool):WQ m R os todo past st K ⟨d,.mx b x y,g⟩ bk (fw+1) w s=Cd (za4 st.V st.E ⟨d,.mx b x y,g⟩ w bk past) (WD m R os ((⟨d,.mx b x y,g⟩,w,fw+1)::todo) past (st.put d w) K):=zeg rfl
@[simp] theorem qtd (b:Bool):WQ m R os todo past st K ⟨d,.mx b x y,g⟩ (bk+1) 0 w s=Cd (za4 st.V st.E ⟨d,.mx b x y,g⟩ w (bk+1) past) (WD m R os todo past (st.put d w) K):=by rw [zd5 rfl]; rfl
@[simp] theorem q2s (z:List PV):WQ m R os todo past st K ⟨d,.alloc z,g⟩ bk fw w s=Cd (zcl s todo) (WD m R os (zdf todo) (st::past) (s.put d w) K):=zib rfl
@[simp] theorem q07:WQ m R os todo past st K ⟨d,.box x,g⟩ bk fw w s=Cd (zcl s todo) (WD m R os (zdf todo) (st::past) (s.put d w) K):=zib rfl
@[simp] theorem qt9 (z:List PV) (ps:List (Nat×Opd)):WQ m R os todo past st K ⟨d,.bslice n sz z ps,g⟩ bk fw w s=Cd (zcl s todo) (WD m R os (zdf todo) (st::past) (s.put d w) K):=zib rfl
@[simp] theorem qzb (z:List PV):WQ m R os todo past st K ⟨d,.allocL z,g⟩ bk fw w s=Cd (zcl s todo) (WD m R os (zdf todo) (st::past) (s.put d w) K):=zib rfl
@[simp] theorem qxs:WQ m R os todo past st K ⟨d,.mvL x,g⟩ bk fw w s=Cd (zcl s todo) (WD m R os (zdf todo) (st::past) (s.put d w) K):=zib rfl
@[simp] theorem qwp (z:List PV) (ps:List (Nat×Opd)):WQ m R os todo past st K ⟨d,.bsliceL n sz z ps,g⟩ bk fw w s=Cd (zcl s todo) (WD m R os (zdf todo) (st::past) (s.put d w) K):=zib rfl
@[simp] theorem qvx (szs:List Nat) (a x:Opd):WQ m R os todo past st K ⟨d,.store szs a x,g⟩ bk fw w s=Cd (zcl s todo) (WD m R os (zdf todo) (st::past) (s.put d w) K):=zib rfl
@[simp] theorem qt6 (z:List PV) (l c:Opd):WQ m R os todo past st K ⟨d,.mksl b sz z l c,g⟩ bk fw w s=Cd (zcl s todo) (WD m R os (zdf todo) (st::past) (s.put d w) K):=zib rfl
@[simp] theorem qvg:WQ m R os todo past st K ⟨d,.call f args,g⟩ bk fw w s=Cd (zcl s todo) (WD m R os (zdf todo) (st::past) (s.put d w) K):=zib rfl
@[simp] theorem qzy (g0:Opd):WQ m R os todo past st K ⟨d,.callv g0 args,g⟩ bk fw w s=Cd (zcl s todo) (WD m R os (zdf todo) (st::past) (s.put d w) K):=zib rfl
@[simp] theorem qp9:WQ m R os todo past st K ⟨d,.app b sz y x,g⟩ bk fw w s=Cd (zcl s todo) (WD m R os (zdf todo) (st::past) (s.put d w) K):=zib rfl
@[simp] theorem qts:WQ m R os todo past st K ⟨d,.appS y x,g⟩ bk fw w s=Cd (zcl s todo) (WD m R os (zdf todo) (st::past) (s.put d w) K):=zib rfl
end
section
variable {α:Type}
@[simp] theorem ge0 (a:α) (l:List α):(a::l)[0]?=some a:=rfl
@[simp] theorem ge1 (a0 a1:α) (l:List α):(a0::a1::l)[1]?=some a1:=rfl
@[simp] theorem ge2 (a0 a1 a2:α) (l:List α):(a0::a1::a2::l)[2]?=some a2:=rfl
@[simp] theorem ge3 (a0 a1 a2 a3:α) (l:List α):(a0::a1::a2::a3::l)[3]?=some a3:=rfl
@[simp] theorem ge4 (a0 a1 a2 a3 a4:α) (l:List α):(a0::a1::a2::a3::a4::l)[4]?=some a4:=rfl
@[simp] theorem ge5 (a0 a1 a2 a3 a4 a5:α) (l:List α):(a0::a1::a2::a3::a4::a5::l)[5]?=some a5:=rfl
@[simp] theorem ge6 (a0 a1 a2 a3 a4 a5 a6:α) (l:List α):(a0::a1::a2::a3::a4::a5::a6::l)[6]?=some a6:=rfl
@[simp] theorem ge7 (a0 a1 a2 a3 a4 a5 a6 a7:α) (l:List α):(a0::a1::a2::a3::a4::a5::a6::a7::l)[7]?=some a7:=rfl
@[simp] theorem ge8 (a0 a1 a2 a3 a4 a5 a6 a7 a8:α) (l:List α):(a0::a1::a2::a3::a4::a5::a6::a7::a8::l)[8]?=some a8:=rfl
@[simp] theorem ge9 (a0 a1 a2 a3 a4 a5 a6 a7 a8 a9:α) (l:List α):(a0::a1::a2::a3::a4::a5::a6::a7::a8::a9::l)[9]?=some a9:=rfl
@[simp] theorem qsi (a0 a1 a2 a3 a4 a5 a6 a7 a8 a9 a10:α) (l:List α):(a0::a1::a2::a3::a4::a5::a6::a7::a8::a9::a10::l)[10]?=some a10:=rfl
@[simp] theorem q4q (a0 a1 a2 a3 a4 a5 a6 a7 a8 a9 a10 a11:α) (l:List α):(a0::a1::a2::a3::a4::a5::a6::a7::a8::a9::a10::a11::l)[11]?=some a11:=rfl
end
@[simp] theorem q2x:zb2 (.v (.int k ((n:Int)+1)))=some (n+1):=qd5 k (n+1)
@[simp] theorem qq0:zb2 (.v (.int k 1))=some 1:=rfl
@[simp] theorem qzz:zb2 (.v (.int k 2))=some 2:=rfl
@[simp] theorem quj:zb2 (.v (.int k 3))=some 3:=rfl
@[simp] theorem qxl:zb2 (.v (.int k 4))=some 4:=rfl
@[simp] theorem q26:zb2 (.v (.int k 5))=some 5:=rfl
theorem fr {o n:Nat} (h:o<n):(o=n)=False/\(n=o)=False/\(∀ j:Nat,(o=n+j)=False)/\∀ j:Nat,(n+j=o)=False:=by
 refine ⟨?_,?_,fun j => ?_,fun j => ?_⟩ <;> simp <;> omega
@[simp] theorem as1:n+1+1=n+2:=rfl
@[simp] theorem as2:n+2+1=n+3:=rfl
@[simp] theorem as3:n+3+1=n+4:=rfl
@[simp] theorem as4:n+4+1=n+5:=rfl
@[simp] theorem as5:n+5+1=n+6:=rfl
@[simp] theorem as6:n+6+1=n+7:=rfl
@[simp] theorem as7:n+7+1=n+8:=rfl
@[simp] theorem as8:n+8+1=n+9:=rfl
@[simp] theorem as9:n+9+1=n+10:=rfl
@[simp] theorem q2t:n+10+1=n+11:=rfl
@[simp] theorem qsk:n+11+1=n+12:=rfl
@[simp] theorem qu1:n+12+1=n+13:=rfl
@[simp] theorem qrc:n+13+1=n+14:=rfl
@[simp] theorem qq8:n+14+1=n+15:=rfl
@[simp] theorem q5o:n+15+1=n+16:=rfl
@[simp] theorem qvk:n+16+1=n+17:=rfl
@[simp] theorem qqq:n+17+1=n+18:=rfl
@[simp] theorem qpt:n+18+1=n+19:=rfl
@[simp] theorem qq2:n+19+1=n+20:=rfl
@[simp] theorem qpr:n+20+1=n+21:=rfl
@[simp] theorem qtz:n+21+1=n+22:=rfl
@[simp] theorem qqh:n+22+1=n+23:=rfl
@[simp] theorem qzn:n+23+1=n+24:=rfl
theorem zae {T:zci} {ms:List Bool} {rv:List RV} {ic:IC} (hT:T f=some (.code ⟨ms,rv,ic⟩)) {args:List PV} {r:List PV×List PV} {st:St} (hi:zkz args=some st) (h:W (zad T) (RUN T) ic st (Fin rv st.nx r ⟨⟩ ⟨⟩)):RUN T f args=some r:=by
 refine yul hT ?_;obtain ⟨e,s,h1,h2,h3⟩:=h;unfold zyn;rw [hi];simp only [Option.bind_some,h1];rcases h2 with rfl | rfl <;> exact h3
def Rnd (Inv:Nat->St->Prop) (n:Nat) (Q:Ex->St->Prop) (_:Dm Inv) (_:Dm Q):Ex->St->Prop
 | .normal,s => ∃ k,k<n/\Inv k s
 | e,s=>Q e s
@[simp] theorem q3w {Inv:Nat->St->Prop}:Rnd Inv n Q ⟨⟩ ⟨⟩ .ret s=Q .ret s:=rfl
@[simp] theorem qwn {Inv:Nat->St->Prop} {i:Nat}:Rnd Inv n Q ⟨⟩ ⟨⟩ (.exit i) s=Q (.exit i) s:=rfl
theorem zao {m:Nat->List Bool} {R:zak} {c:IC} (Inv:Nat->St->Prop) (step : ∀ n st,Inv n st->W m R c st (Rnd Inv n Q ⟨⟩ ⟨⟩)) : ∀ n st,Inv n st->W m R (.loop c) st Q:=by
 intro n
 induction n using Nat.strongRecOn with
 | ind n ih =>
  intro st hI;obtain ⟨e,s,h1,h2⟩:=step n st hI;cases e with
  | normal =>
   obtain ⟨k,hk,hI'⟩:=h2;obtain ⟨e',s',h3,h4⟩:=ih k hk s hI';exact ⟨e',s',by rw [z9o,h1]; exact h3,h4⟩
  | exit i=>exact ⟨_,_,by rw [z9o,h1]; rfl,h2⟩
  | ret=>exact ⟨_,_,by rw [z9o,h1]; rfl,h2⟩
theorem qgo {m:Nat->List Bool} {R:zak} {c:IC} {st:St}:W m R (.loop c) st Q=W m R c st (Nx (fun s=>W m R (.loop c) s Q) Q ⟨⟩ ⟨⟩):=by
 rw [<- qea];simp only [W,yuo];rw [z9o]
theorem zai {Inv:Nat->St->Prop} (k:Nat) (h:k<n) (hI:Inv k s):Rnd Inv n Q ⟨⟩ ⟨⟩ .normal s:=⟨k,h,hI⟩
theorem W.mono {m:Nat->List Bool} {R:zak} {c:IC} {st:St} {Q Q':Ex->St->Prop} (h:W m R c st Q) (hq : ∀ e s,Q e s->Q' e s):W m R c st Q':=by
 obtain ⟨e,s,h1,h2⟩:=h;exact ⟨e,s,h1,hq e s h2⟩
attribute [irreducible] W WO WD WI WQ Ob' Br Cd Nx Bl Fin
end Go.Pe
namespace Go.Pe
open Go
def zic (sz by_:Nat):List PV->Option (List PV×List PV)
 | [.sl s es]=>if s=sz/\zch es=true/\zag by_ es.length=true then some ([.own sz es],[]) else none
 | _=>none
theorem yd3 {T:zci} {f sz by_:Nat} (hT:T f=some (.known [] (zic sz by_))) {es:List (List PV)} (hv:zch es=true) (hr:zag by_ es.length=true):RUN T f [.sl sz es]=some ([.own sz es],[]) :=
 ybh hT (if_pos ⟨rfl,hv,hr⟩)
def zct (l:List Int):List (List PV):=l.map fun n=>[.v (.int .i64 n)]
def yda:List PV->Option Int
 | [.v (.int .i64 n)]=>some n
 | _=>none
def zp7:List (List PV)->Option (List Int)
 | []=>some []
 | c::cs=>(yda c).bind fun n=>(zp7 cs).map (n :: ·)
theorem yci : ∀ l:List Int,zp7 (zct l)=some l
 | []=>rfl
 | n::l=>by
  have:=yci l;unfold zct at this;simp [zct,zp7,yda,this]
theorem yex : ∀ {es:List (List PV)} {l:List Int},zp7 es=some l->es=zct l
 | [],l,h=>by cases h; rfl
 | c::cs,l,h=>by
  simp only [zp7] at h;obtain ⟨n,h1,h⟩:=bA h;simp only [bB] at h;obtain ⟨l',h2,rfl⟩:=h;rw [yex h2];unfold yda at h1;split at h1
  ·cases h1; rfl
  ·cases h1
def zit (l:List Int):List Int:=l.mergeSort fun x y=>decide (x<=y)
def zp6:List PV->Option (List PV×List PV)
 | [.own 1 es]=>(zp7 es).bind fun l=>if l.length<4611686018427387904 then some ([],[.own 1 (zct (zit l))]) else none
 | _=>none
def zp2:List PV->Option (List PV×List PV)
 | [.own 1 es]=>(zp7 es).bind fun l=>if l.length<4611686018427387904 then some ([.own 1 (zct (Lib.compact l))],[.undef]) else none
 | _=>none
theorem qhq {T:zci} {f:Nat} (hT:T f=some (.known [true] zp6)) {l:List Int} (hl:l.length<4611686018427387904):RUN T f [.own 1 (zct l)]=some ([],[.own 1 (zct (zit l))]) :=
 ybh hT (by simp [zp6,yci,hl])
theorem qc3 {T:zci} {f:Nat} (hT:T f=some (.known [true] zp2)) {l:List Int} (hl:l.length<4611686018427387904):RUN T f [.own 1 (zct l)]=some ([.own 1 (zct (Lib.compact l))],[.undef]) :=
 ybh hT (by simp [zp2,yci,hl])
end Go.Pe
