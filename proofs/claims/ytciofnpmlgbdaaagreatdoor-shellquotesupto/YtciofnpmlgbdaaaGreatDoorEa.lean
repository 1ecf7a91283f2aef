/- An evaluator of the model's code on abstract states, proved sound (part 1 of 4). -/
import Derived.Orders
import GoSem.Op.Equal
import Derived.Below
import Derived.Deep.AppendLies
import Derived.Deep.Upon
import Derived.Laws.CopyRow
import Derived.Laws.Cells
import Derived.Laws.Entries
import Derived.ChangeKeysEq
import Derived.Laws.World
/- The evaluator's data: cells, values, states, and the tree of outcomes. -/
namespace Go.Ev
inductive I (L:Type) where
 | lit (k:IntKind) (n:Int)
 | int (k:IntKind) (n:Int)
 | tt | ff
 | bool (b:Bool)
 | str (s:ByteArray)
 | val (v:Value)
 | fz (l:L)
inductive C (L:Type) where
 | im (x:I L)
 | ptr (b off:Nat)
 | eptr (b i sz off:Nat)
 | sptr (b base:Nat) (i:Int) (n sz off:Nat)
 | fp (cs:List (I L)) (off:Nat)
 | ar (b:Nat)
 | clo (f:FuncId) (first caps:List (Nat×Nat))
 | clv (f:FuncId) (agg:Bool) (cs:List (I L))
 | fc (l:L)
 | fc0 (e:TypeId)
 | top
inductive S (L:Type) where
 | c (x:C L)
 | agg (cs:List (C L))
inductive X (L:Type) where
 | s (x:S L)
 | tup (l:List (S L))
inductive En (L:Type) where
 | var (cs:List (C L)) (t:TypeId)
 | arr (e:TypeId) (l:L)
 | fro (e:TypeId) (l:L) (tip:Bool)
 | pre (b k:Nat)
 | win (b z lo hi:Nat)
 | fvar (cs:List (I L))
 | dead
class LI (L:Type) where
 kn:Bool
 selT:TypeId→Bool
 els:L→List (List (I L))
 sz:L→Nat
 len:L→Nat
 idx:{R:Type}→L→Nat→(List (I L)→Option R)→Option R
 mkL:TypeId→List (List (I L))→Option L
 bytes:L→Option ByteArray
 ofStr:TypeId→ByteArray→Option L
 app:L→L→Option L
 sub:L→Nat→Nat→L
 set:L→Nat→List (I L)→Option L
 rep:TypeId→Nat→Option L
 mrg:Bool→L→L→Option L
 flat:L→Bool
inductive Ex where
 | normal | exit (id:Nat) | ret
structure Cst (L:Type) where
 xs:List (X L)
 hp:List (Nat×En L)
 n:Nat
inductive Out (L R:Type) where
 | ret (r:R)
 | br (c:Bool) (a b:Out L R)
 | ix (l:L) (i:Nat) (k:List (I L)→Out L R)
 | call (f:FuncId) (args:List (S L)) (k:List (S L)→Out L R)
 | sum (id:Nat) (c:Cst L) (k:Ex→Cst L→Out L R)
 | fail (why:Nat)
namespace Out
variable {L R Q:Type}
def bind (o:Out L R)(f:R→Out L Q):Out L Q :=
 match o with
 | .ret r=>f r
 | .br c a b=>.br c (a.bind f) (b.bind f)
 | .ix l i k=>.ix l i fun cs=>(k cs).bind f
 | .call g args k=>.call g args fun rs=>(k rs).bind f
 | .sum g c k=>.sum g c fun e d=>(k e d).bind f
 | .fail n=>.fail n
structure Orc (L:Type) where
 c:(Q:Type)→FuncId→List (S L)→(List (S L)→Option Q)→Option Q
 s:(Q:Type)→Nat→Cst L→(Ex→Cst L→Option Q)→Option Q
def run [LI L](orc:Orc L):Out L R→(R→Option Q)→Option Q
 | .ret r,K=>K r
 | .br c a b,K=>cond c (run orc a K) (run orc b K)
 | .ix l i k,K=>LI.idx l i fun cs=>run orc (k cs) K
 | .call g args k,K=>orc.c Q g args fun rs=>run orc (k rs) K
 | .sum g c k,K=>orc.s Q g c fun e d=>run orc (k e d) K
 | .fail _,_=>none
end Out
def look {α:Type}:List (Nat×α)→Nat→Option α
 | [],_=>none
 | (k,v)::r,d=>cond (Nat.beq k d) (some v) (look r d)
structure St (L:Type) where
 env:List (Nat×X L)
 hp:List (Nat×En L)
inductive Ty where
 | int (k:IntKind) | bool | str
 | ptr (elem:TypeId)
 | slice (elem:TypeId)
 | array (n:Nat) (elem:TypeId)
 | struct (fs:List (Nat×TypeId))
 | other
structure TI where
 ty:Ty
 size:Nat
 bytes:Nat
 zero:Option (List Value)
 eq:Bool
def descTy:TypeDesc→Ty
 | .int k=>.int k
 | .bool=>.bool
 | .string=>.str
 | .pointer e=>.ptr e
 | .slice e=>.slice e
 | .array n e=>.array n e
 | .struct fs=>.struct (fs.toList.map fun f=>(f.offset,f.type))
 | _=>.other
def tiOf (P:Program)(t:TypeId):Option TI :=
 match P.info? t,P.underlying t with
 | some i,some d=>some ⟨descTy d,i.size,i.bytes,i.zero.map fun z=>z.cells.toList,
   !P.stoodInHeld t && !P.eqGuardType P.depth t && (match d with | .struct fs => fs.all fun f => f.name != "_" | _ => true)⟩
 | _,_=>none
def TI.isAgg (i:TI):Bool:=match i.ty with | .array .. | .struct _=>true | _=>false
end Go.Ev
/- The evaluator: what one operation does to the abstract state. -/
namespace Go.Ev
variable {L:Type} [LI L]
def ofVal:Value→I L
  | .int k n=>.lit k n
  | .bool true=>.tt
  | .bool false=>.ff
  | .string s=>.str s
  | v=>.val v
def ofC:Value→C L
  | .agg _ | .tuple _=>.top
  | v=>.im (ofVal v)
def ofConst:Value→S L
  | .agg cs=>.agg (cs.toList.map ofC)
  | v=>.c (ofC v)
def keq:IntKind→IntKind→Bool
  | .i8,.i8 | .i16,.i16 | .i32,.i32 | .i64,.i64 | .u8,.u8 | .u16,.u16 | .u32,.u32 | .u64,.u64=>true
  | _,_=>false
def lim:Nat:=1073741824
def fits (n:Nat):Bool:=decide (n≤lim)
structure IntV where
  k:IntKind
  n:Int
  known:Bool
def intV:I L→Option IntV
  | .lit k n=>some ⟨k,n,true⟩
  | .int k n=>some ⟨k,n,LI.kn L⟩
  | _=>none
def mkInt (known:Bool)(k:IntKind)(n:Int):I L:=cond known (.lit k n) (.int k n)
def mkBool (known:Bool)(b:Bool):I L:=cond known (cond b .tt .ff) (.bool b)
def boolV:I L→Option (Bool×Bool)
  | .tt=>some (true,true)
  | .ff=>some (false,true)
  | .bool b=>some (b,LI.kn L)
  | _=>none
def imOf:X L→Option (I L)
  | .s (.c (.im x))=>some x
  | _=>none
def cOf:X L→Option (C L)
  | .s (.c x)=>some x
  | _=>none
def cellsOf:S L→List (C L)
  | .c x=>[x]
  | .agg cs=>cs
abbrev Hp (L:Type):=List (Nat×En L)
abbrev Res (L:Type):=Out L (X L×Hp L)
def test {R:Type}(known c:Bool)(r:Out L R):Out L R:=cond known (cond c r (.fail 200)) (.br c r (.fail 201))
def one (x:C L):Res L:=.ret (.s (.c x),[])
def oneI (x:I L):Res L:=.ret (.s (.c (.im x)),[])
def listOf (h:Hp L):C L→Option (L×Hp L)
  | .im (.fz l)=>some (l,[])
  | .ar b=>match look h b with
    | some (.arr e l)=>some (l,[(b,.fro e l true)])
    | some (.fro _ l _)=>some (l,[])
    | some (.pre b0 k)=>match look h b0 with
      | some (.arr e l0)=>some (LI.sub l0 0 k,[(b0,.fro e l0 true)])
      | some (.fro _ l0 _)=>some (LI.sub l0 0 k,[])
      | _=>none
    | some (.win b0 z lo hi)=>match look h b0 with
      | some (.arr e l0)=>cond (Nat.beq z (LI.sz l0)) (some (LI.sub l0 lo hi,[(b0,.fro e l0 true)])) none
      | some (.fro _ l0 _)=>cond (Nat.beq z (LI.sz l0)) (some (LI.sub l0 lo hi,[])) none
      | _=>none
    | _=>none
  | .fc l=>some (l,[])
  | .fc0 e=>match LI.mkL e [] with | some l=>some (l,[]) | none=>none
  | _=>none
def isNil:C L→Bool
  | .im (.val (.slice none 0 0))=>true
  | _=>false
def solid:C L→Bool
  | .top=>false
  | _=>true
def toI (h:Hp L):C L→Option (I L×Hp L)
  | .im x=>some (x,[])
  | .ar b=>match listOf h (.ar b) with
    | some (l,u)=>some (.fz l,u)
    | none=>none
  | .fc l=>some (.fz l,[])
  | .fc0 e=>match LI.mkL e [] with | some l=>some (.fz l,[]) | none=>none
  | _=>none
def toIs (h:Hp L):List (C L)→Option (List (I L)×Hp L)
  | []=>some ([],[])
  | c::cs=>match toI h c,toIs h cs with
    | some (x,u),some (xs,v)=>some (x::xs,u++v)
    | _,_=>none
def splice {α:Type}(xs:List α)(off:Nat)(ys:List α):List α:=xs.take off++ys++xs.drop (off+ys.length)
def part (agg:Bool)(cs:List (C L))(off n:Nat):Option (S L) :=
  cond agg
    (cond (Nat.ble (off+n) cs.length) (some (.agg ((cs.drop off).take n))) none)
    (match cs.drop off with | x::_=>some (.c x) | []=>none)
def ims (cs:List (I L)):List (C L):=cs.map .im
def chk (y:IntV)(r:Res L):Res L:=cond y.known (cond (decide (y.n=0)) (.fail 1) r) (.br (decide (y.n=0)) (.fail 2) r)
def andI (k:IntKind)(x y:Int):Int:=k.wrap ((BitVec.ofInt k.bits x &&& BitVec.ofInt k.bits y).toNat:Int)
def isShr (op:BinOp):Bool:=match op with | .shr=>true | _=>false
def intShr (x y:IntV):Res L :=
  cond y.known (cond (decide (0≤y.n) && Nat.ble y.n.toNat x.k.bits) (oneI (mkInt (x.known && y.known) x.k (x.n / (2 ^ y.n.toNat:Int)))) (.fail 273)) (.fail 274)
def intBin (op:BinOp)(x y:IntV):Res L :=
  cond (isShr op) (intShr x y) <|
  cond (keq x.k y.k)
    (let kn:=x.known && y.known
     match op with
     | .add=>oneI (mkInt kn x.k (x.k.wrap (x.n+y.n)))
     | .sub=>oneI (mkInt kn x.k (x.k.wrap (x.n - y.n)))
     | .mul=>oneI (mkInt kn x.k (x.k.wrap (x.n * y.n)))
     | .quo=>chk y (oneI (mkInt kn x.k (x.k.wrap (x.n.tdiv y.n))))
     | .rem=>chk y (oneI (mkInt kn x.k (x.n.tmod y.n)))
     | .eql=>oneI (mkBool kn (x.n == y.n))
     | .neq=>oneI (mkBool kn (x.n != y.n))
     | .lss=>oneI (mkBool kn (decide (x.n < y.n)))
     | .leq=>oneI (mkBool kn (decide (x.n≤y.n)))
     | .gtr=>oneI (mkBool kn (decide (x.n > y.n)))
     | .geq=>oneI (mkBool kn (decide (x.n≥y.n)))
     | .and=>oneI (mkInt kn x.k (andI x.k x.n y.n))
     | _=>(.fail 3))
    (.fail 4)
def strBin (op:BinOp)(x y:ByteArray):Res L :=
  match op with
  | .add=>.br (fits (x.size+y.size)) (oneI (.str (x++y))) (.fail 5)
  | .eql=>oneI (.bool (x.data.toList == y.data.toList))
  | .neq=>oneI (.bool (!(x.data.toList == y.data.toList)))
  | .lss=>oneI (.bool (Op.bytesLess x.data.toList y.data.toList))
  | .leq=>oneI (.bool (Op.bytesLess x.data.toList y.data.toList || x.data.toList == y.data.toList))
  | .gtr=>oneI (.bool (!(Op.bytesLess x.data.toList y.data.toList || x.data.toList == y.data.toList)))
  | .geq=>oneI (.bool (!(Op.bytesLess x.data.toList y.data.toList)))
  | _=>(.fail 6)
def eqI (ty:Ty)(x y:I L):Option Bool :=
  match ty with
  | .int _=>match intV x,intV y with
    | some a,some b=>cond (keq a.k b.k) (some (a.n == b.n)) none
    | _,_=>none
  | .bool=>match boolV x,boolV y with
    | some a,some b=>some (a.1 == b.1)
    | _,_=>none
  | .str=>match x,y with
    | .str a,.str b=>some (a.data.toList == b.data.toList)
    | _,_=>none
  | _=>none
abbrev Tab:=TypeId→Option TI
def sizeT (T:Tab)(t:TypeId):Nat:=match T t with | some i=>i.size | none=>0
def sliceElem (T:Tab)(t:TypeId):Option TypeId:=match T t with | some i=>(match i.ty with | .slice e=>some e | _=>none) | none=>none
def hasT (T:Tab)(t:TypeId):Bool:=match T t with | some _=>true | none=>false
def zOk (T:Tab)(e:TypeId):Bool:=match T e with
  | some i=>(match i.zero with
    | some z=>Nat.beq z.length i.size && Nat.ble i.bytes 131072 && Nat.ble 1 i.size
    | none=>false)
  | none=>false
def eqHead (ty:Ty)(xs ys:List (C L)):Option Bool :=
  match xs,ys with
  | .im x::_,.im y::_=>eqI ty x y
  | _,_=>none
def eqT (T:Tab):Nat→TypeId→List (C L)→List (C L)→Option Bool
  | 0,_,_,_=>none
  | n+1,t,xs,ys=>match T t with
    | some i=>cond i.eq
      (match i.ty with
       | .int k=>eqHead (.int k) xs ys
       | .bool=>eqHead .bool xs ys
       | .str=>eqHead .str xs ys
       | .struct fs=>eqFs (fun f=>cond (Nat.ble (f.1+Nat.max 1 (sizeT T f.2)) i.size) (eqT T n f.2 (xs.drop f.1) (ys.drop f.1)) none) fs
       | .array m e=>cond (Nat.ble 1 (sizeT T e)) (eqFs (fun j=>cond (Nat.ble (j * sizeT T e+Nat.max 1 (sizeT T e)) i.size) (eqT T n e (xs.drop (j * sizeT T e)) (ys.drop (j * sizeT T e))) none) (List.range m)) none
       | _=>none)
      none
    | none=>none
where
  eqFs {α:Type} (f:α→Option Bool):List α→Option Bool
    | []=>some true
    | x::r=>match f x,eqFs f r with
      | some a,some b=>some (cond a b false)
      | _,_=>none
def min2 (x y:Int):Int:=if y < x then y else x
def max2 (x y:Int):Int:=if y > x then y else x
def foldInts (f:Int→Int→Int):IntV→List (X L)→Option IntV
  | a,[]=>some a
  | a,x::xs=>match imOf x with
    | some i=>match intV i with
      | some b=>cond (keq a.k b.k) (foldInts f ⟨a.k,f a.n b.n,a.known && b.known⟩ xs) none
      | none=>none
    | none=>none
def tries {R:Type}(i:Int)(k:Nat→Out L R):Nat→Nat→Out L R
  | 0,_=>(.fail 7)
  | n+1,j=>.br (decide (i=(j:Int))) (k j) (tries i k n (j+1))
def place {R:Type}(n:Nat)(i:IntV)(k:Nat→Out L R):Out L R :=
  cond i.known
    (cond (decide (0≤i.n)) (cond (decide (i.n < (n:Int))) (k i.n.toNat) (.fail 8)) (.fail 9))
    (tries i.n k n 0)
def natOf (x:X L):Option IntV:=match imOf x with | some i=>intV i | none=>none
def shift:C L→Nat→Option (C L)
  | .ptr b off,n=>some (.ptr b (off+n))
  | .eptr b i sz off,n=>some (.eptr b i sz (off+n))
  | .sptr b base i m sz off,n=>some (.sptr b base i m sz (off+n))
  | .fp cs off,n=>some (.fp cs (off+n))
  | _,_=>none
def fillParts (sizes:Nat→Option (Nat×Nat))(cells:List (C L)):List (Nat×X L)→Option (List (C L))
  | []=>some cells
  | (i,x)::r=>match sizes i,x with
    | some (off,n),.s s=>cond (Nat.beq (cellsOf s).length n && Nat.ble (off+n) cells.length && (cellsOf s).all solid) (fillParts sizes (splice cells off (cellsOf s)) r) none
    | _,_=>none
def nth {α:Type}:List α→Nat→Option α
  | [],_=>none
  | x::r,n=>match n with | 0=>some x | n+1=>nth r n
def zeroC (i:TI):Option (List (C L)):=match i.zero with | some vs=>cond ((vs.map (ofC (L:=L))).all solid) (some (vs.map ofC)) none | none=>none
def placeOf (T:Tab)(fs:List (Nat×TypeId))(j:Nat):Option (Nat×Nat):=match nth fs j with | some (o,ft)=>some (o,sizeT T ft) | none=>none
def buildS (T:Tab)(t:TypeId)(parts:List (Nat×X L)):Option (S L) :=
  match T t with
  | some i=>match zeroC i with
    | some z=>match i.ty with
      | .struct fs=>match cond (fs.all fun p=>hasT T p.2) (fillParts (placeOf T fs) z parts) none with
        | some cs=>some (.agg cs)
        | none=>none
      | .array _ e=>match cond (hasT T e) (fillParts (fun j=>some (j * sizeT T e,sizeT T e)) z parts) none with
        | some cs=>some (.agg cs)
        | none=>none
      | _=>none
    | none=>none
  | none=>none
def chop {α:Type}(n:Nat):Nat→List α→List (List α)
  | 0,_=>[]
  | k+1,l=>l.take n::chop n k (l.drop n)
def repl {α:Type}(l:List α):Nat→List α
  | 0=>[]
  | n+1=>l++repl l n
def mI (c:Bool)(x y:I L):Option (I L) :=
  match intV x,intV y with
  | some a,some b=>cond (keq a.k b.k) (some (.int a.k (cond c a.n b.n))) none
  | _,_=>match boolV x,boolV y with
    | some a,some b=>some (.bool (cond c a.1 b.1))
    | _,_=>match x,y with
      | .str a,.str b=>some (.str (cond c a b))
      | .fz a,.fz b=>match LI.mrg c a b with | some l=>some (.fz l) | none=>none
      | _,_=>none
def mIs (c:Bool):List (I L)→List (I L)→Option (List (I L))
  | [],[]=>some []
  | x::r,y::s=>match mI c x y,mIs c r s with
    | some z,some t=>some (z::t)
    | _,_=>none
  | _,_=>none
def selIs (f:Nat→Option (List (I L)×Hp L))(i:Int):Nat→Nat→Option (List (I L)×Hp L)
  | 0,_=>none
  | n+1,j=>match n with
    | 0=>f j
    | _+1=>match f j,selIs f i n (j+1) with
      | some (x,u),some (y,v)=>match mIs (decide (i=(j:Int))) x y with
        | some z=>some (z,u++v)
        | none=>none
      | _,_=>none
def putIs (h:Hp L)(ys:List (I L))(i:Int)(m base z off:Nat):Nat→Nat→List (C L)→Option (List (C L)×Hp L)
  | 0,_,cs=>some (cs,[])
  | k+1,j,cs=>cond (Nat.ble (base+j * z+off+m) cs.length) (match toIs h ((cs.drop (base+j * z+off)).take m) with
    | some (xs,u)=>match mIs (decide (i=(j:Int))) ys xs with
      | some t=>match putIs h ys i m base z off k (j+1) (splice cs (base+j * z+off) (ims t)) with
        | some (cs',v)=>some (cs',u++v)
        | none=>none
      | none=>none
    | none=>none) none
def packSel (agg:Bool)(xs:List (I L))(u:Hp L):Res L :=
  cond agg (.ret (.s (.agg (ims xs)),u)) (match xs with | [x]=>.ret (.s (.c (.im x)),u) | _=>.fail 280)
def loadOp (h:Hp L)(agg:Bool)(n:Nat):C L→Res L
  | .ptr b off=>match look h b with
    | some (.var cs _)=>match part agg cs off n with
      | some s=>.ret (.s s,[])
      | none=>(.fail 10)
    | some (.fvar cs)=>match part agg (ims cs) off n with
      | some s=>.ret (.s s,[])
      | none=>(.fail 10)
    | _=>(.fail 11)
  | .eptr b i z off=>match look h b with
    | some (.arr _ l)=>cond (Nat.beq z (LI.sz l)) (.ix l i fun cs=>match part agg (ims cs) off n with
      | some s=>.ret (.s s,[])
      | none=>(.fail 12)) (.fail 227)
    | _=>(.fail 13)
  | .fp cs off=>match part agg (ims cs) off n with
    | some s=>.ret (.s s,[])
    | none=>(.fail 14)
  | .sptr b base i m z off=>match look h b with
    | some (.var cs _)=>match selIs (fun j=>match part agg cs (base+j * z+off) n with | some s=>toIs h (cellsOf s) | none=>none) i m 0 with
      | some (xs,u)=>packSel agg xs u
      | none=>.fail 281
    | _=>.fail 282
  | _=>(.fail 15)
def storeOp (h:Hp L)(n:Nat)(p:C L)(s:S L):Res L :=
  cond (Nat.beq (cellsOf s).length n && (cellsOf s).all solid)
    (match p with
     | .ptr b off=>match look h b with
       | some (.var cs t)=>cond (Nat.ble (off+n) cs.length) (.ret (.s (.c .top),[(b,.var (splice cs off (cellsOf s)) t)])) (.fail 16)
       | _=>(.fail 17)
     | .eptr b i z off=>match look h b,toIs h (cellsOf s) with
       | some (.arr e l),some (xs,u)=>.ix l i fun cs=>cond (Nat.ble (off+n) cs.length && Nat.beq z (LI.sz l) && !(u.any fun p=>Nat.beq p.1 b))
           (match LI.set l i (splice cs off xs) with
            | some l'=>.ret (.s (.c .top),(b,.arr e l')::u)
            | none=>(.fail 18)) (.fail 19)
       | _,_=>(.fail 20)
     | .sptr b base i m z off=>match look h b,toIs h (cellsOf s) with
       | some (.var cs t),some (ys,u)=>match putIs h ys i n base z off m 0 cs with
         | some (cs',v)=>.ret (.s (.c .top),(b,.var cs' t)::(u++v))
         | none=>.fail 283
       | _,_=>.fail 284
     | _=>(.fail 21))
    (.fail 22)
def lenOp (T:Tab)(h:Hp L)(t:TypeId)(c:C L):Res L :=
  match T t with
  | some i=>match i.ty with
    | .str=>match c with
      | .im (.str s)=>oneI (.int .i64 (s.size:Int))
      | _=>(.fail 17)
    | .slice _=>cond (isNil c) (oneI (.lit .i64 0)) (match listOf h c with
      | some (l,_)=>oneI (.int .i64 (LI.len l:Int))
      | none=>(.fail 16))
    | _=>(.fail 236)
  | none=>(.fail 237)
def srcOf (h:Hp L)(e:TypeId)(x:X L):Option L :=
  match cOf x with
  | some c=>cond (isNil c) (LI.mkL e []) (match listOf h c with | some (l,_)=>some l | none=>none)
  | none=>none
def fullOf:C L→Option (Option L)
  | .fc l=>some (some l)
  | .fc0 _=>some none
  | _=>none
def appendFull (T:Tab)(fresh:Nat)(e:TypeId)(l0:Option L)(l2:L):Res L :=
  match (match l0 with | none=>LI.mkL e [] | some l=>some l) with
  | some l=>match LI.app l l2 with
    | some l'=>cond (Nat.beq (sizeT T e) (LI.sz l)) (.br (decide (0 < LI.len l2)) (.br (fits (LI.len l')) (.ret (.s (.c (.ar fresh)),[(fresh,.arr e l')])) (.fail 27)) (.fail 243)) (.fail 242)
    | none=>.fail 28
  | none=>.fail 26
def appendOp (T:Tab)(h:Hp L)(fresh:Nat)(e:TypeId)(s x:X L):Res L :=
  match srcOf h e x,cOf s with
  | some l2,some c =>
    cond (Nat.beq (sizeT T e) (LI.sz l2) && zOk T e) (cond (isNil c)
      (match LI.mkL e [] with
       | some l=>match LI.app l l2 with
         | some l'=>.br (fits (LI.len l')) (.ret (.s (.c (.ar fresh)),[(fresh,.arr e l')])) (.fail 24)
         | none=>(.fail 25)
       | none=>(.fail 26))
      (match fullOf c with
      | some l0=>appendFull T fresh e l0 l2
      | none=>match c with
       | .ar b=>match look h b with
         | some (.arr e' l)=>match LI.app l l2 with
           | some l'=>cond (Nat.beq e e') (.br (fits (LI.len l')) (.ret (.s (.c (.ar fresh)),[(fresh,.arr e l'),(b,.dead)])) (.fail 27)) (.fail 228)
           | none=>(.fail 28)
         | some (.pre b0 k)=>match look h b0 with
           | some (.arr e' l0)=>match LI.app (LI.sub l0 0 k) l2 with
             | some l'=>cond (Nat.beq e e') (.br (fits (LI.len l')) (.ret (.s (.c (.ar fresh)),[(fresh,.arr e l'),(b,.dead),(b0,.dead)])) (.fail 31)) (.fail 230)
             | none=>(.fail 32)
           | _=>(.fail 218)
         | _=>(.fail 33)
       | _=>(.fail 34))) (.fail 221)
  | _,_=>(.fail 35)
def elOk (T:Tab)(t:TypeId)(l:L):Bool:=match sliceElem T t with | some e=>Nat.beq (sizeT T e) (LI.sz l) && hasT T e | none=>false
def isStrT (T:Tab)(t:TypeId):Bool:=match T t with | some i=>(match i.ty with | .str=>true | _=>false) | none=>false
def isPre (c:C L)(a:IntV)(h:Hp L):Option Nat :=
  match c with
  | .ar b0=>match look h b0 with
    | some (.arr _ _)=>cond (a.known && decide (a.n=0)) (some b0) none
    | _=>none
  | _=>none
def isWin (c:C L)(h:Hp L):Option Nat :=
  match c with
  | .ar b0=>match look h b0 with
    | some (.arr _ _)=>some b0
    | _=>none
  | _=>none
def sliceDone (h:Hp L)(fresh:Nat)(c:C L)(l:L)(u:Hp L)(a b:IntV):Res L :=
  match isPre c a h with
  | some b0=>.ret (.s (.c (.ar fresh)),[(fresh,.pre b0 b.n.toNat)])
  | none=>match isWin c h with
  | some b0=>.ret (.s (.c (.ar fresh)),[(fresh,.win b0 (LI.sz l) a.n.toNat b.n.toNat)])
  | none=>.ret (.s (.c (.im (.fz (LI.sub l a.n.toNat b.n.toNat)))),u)
def sliceOp (T:Tab)(h:Hp L)(fresh:Nat)(t:TypeId)(x:X L)(lo hi:Option (X L)):Res L :=
  let lo':Option IntV:=match lo with | some l=>natOf l | none=>some ⟨.i64,0,true⟩
  match cOf x,lo' with
  | some c,some a=>match c with
    | .im (.str s) =>
      let hi':Option IntV:=match hi with | some v=>natOf v | none=>some ⟨.i64,(s.size:Int),false⟩
      match hi' with
      | some b=>cond (isStrT T t) (test a.known (decide (0≤a.n)) (test (a.known && b.known) (decide (a.n≤b.n)) (test false (decide (b.n≤(s.size:Int))) (oneI (.str (s.extract a.n.toNat b.n.toNat)))))) (.fail 241)
      | none=>(.fail 207)
    | c=>match listOf h c with
      | some (l,u)=>cond (elOk T t l) (
        let hi':Option IntV:=match hi with | some v=>natOf v | none=>some ⟨.i64,(LI.len l:Int),false⟩
        match hi' with
        | some b =>
          test a.known (decide (0≤a.n)) (test (a.known && b.known) (decide (a.n≤b.n)) (test false (decide (b.n≤(LI.len l:Int))) (sliceDone h fresh c l u a b)))
        | none=>(.fail 208)) (.fail 222)
      | none=>cond (isNil c) (.fail 209) (.fail 210)
  | _,_=>(.fail 211)
def isArrP (T:Tab)(t:TypeId):Bool:=match T t with | some i=>(match i.ty with | .array _ _=>true | _=>false) | none=>false
def arrDone (T:Tab)(xs:List (I L))(n:Nat)(e:TypeId)(off:Nat)(k:L→Res L):Res L :=
  cond (Nat.ble (off+n * sizeT T e) xs.length && (hasT T e && (Nat.ble 1 n && Nat.ble 1 (sizeT T e)))) (match LI.mkL e (chop (sizeT T e) n ((xs.drop off).take (n * sizeT T e))) with
    | some l=>cond (Nat.beq (LI.sz l) (sizeT T e)) (k l) (.fail 290)
    | none=>.fail 291) (.fail 289)
def arrSliceOp (T:Tab)(h:Hp L)(t:TypeId)(x:X L):Res L :=
  match T t,cOf x with
  | some ai,some (.ptr b off)=>match ai.ty with
    | .array n e=>match look h b with
      | some (.var cs _)=>match toIs h cs with
        | some (xs,u)=>arrDone T xs n e off fun l=>.ret (.s (.c (.im (.fz l))),(b,.fvar xs)::u)
        | none=>.fail 287
      | some (.fvar xs)=>arrDone T xs n e off fun l=>.ret (.s (.c (.im (.fz l))),[])
      | _=>.fail 288
    | _=>.fail 288
  | _,_=>.fail 288
def slice3Op (T:Tab)(h:Hp L)(t:TypeId)(x:X L)(lo hi:Option (X L))(mx:X L):Res L :=
  let lo':Option IntV:=match lo with | some l=>natOf l | none=>some ⟨.i64,0,true⟩
  match cOf x,lo',(match hi with | some v=>natOf v | none=>none),natOf mx,sliceElem T t with
  | some c,some a,some b,some m,some e=>cond (a.known && decide (a.n=0) && hasT T e)
    (cond (isNil c) (cond (b.known && (m.known && (decide (b.n=0) && decide (m.n=0)))) (one c) (.fail 246))
      (match listOf h c with
       | some (l,u)=>cond (elOk T t l) (cond (b.known && (m.known && (decide (b.n=0) && decide (m.n=0)))) (one (.fc0 e))
         (test b.known (decide (0≤b.n)) (test (b.known && m.known) (decide (b.n=m.n)) (test false (decide (b.n≤(LI.len l:Int))) (.ret (.s (.c (.fc (LI.sub l 0 b.n.toNat))),u)))))) (.fail 222)
       | none=>.fail 247)) (.fail 244)
  | _,_,_,_,_=>.fail 245
def partOf (h:Hp L):C L→Option (Nat×TypeId×L×Nat×Nat)
  | .ar b=>match look h b with
    | some (.arr e l)=>some (b,e,l,0,LI.len l)
    | some (.pre b0 k)=>match look h b0 with
      | some (.arr e l)=>some (b0,e,l,0,k)
      | _=>none
    | some (.win b0 z lo hi)=>match look h b0 with
      | some (.arr e l)=>cond (Nat.beq z (LI.sz l)) (some (b0,e,l,lo,hi)) none
      | _=>none
    | _=>none
  | _=>none
def layL (l l2:L)(lo n:Nat):Option L:=match LI.app (LI.sub l 0 lo) l2 with
  | some l1=>LI.app l1 (LI.sub l (lo+n) (LI.len l))
  | none=>none
def clearOp (T:Tab)(h:Hp L)(e:TypeId)(x:X L):Res L :=
  match cOf x with
  | some c=>match partOf h c with
    | some (b,e',l,lo,hi)=>match LI.rep e (hi - lo) with
      | some z=>cond (Nat.beq e e' && zOk T e && Nat.beq (LI.sz z) (LI.sz l)) (match layL l z lo (hi - lo) with
        | some l'=>.ret (.s (.c .top),[(b,.arr e' l')])
        | none=>.fail 253) (.fail 251)
      | none=>.fail 252
    | none=>.fail 249
  | none=>.fail 248
def indexAddrOp (T:Tab)(h:Hp L)(t:TypeId)(x i:X L):Res L :=
  match T t,cOf x,natOf i with
  | some ti,some c,some j=>match ti.ty with
    | .array n e=>match cond (LI.selT L t && !j.known) (match c with | .ptr b o=>some (b,o) | _=>none) none with
     | some (b,o)=>cond (hasT T e) (.br (decide (0≤j.n) && decide (j.n < (n:Int))) (one (.sptr b o j.n n (sizeT T e) 0)) (.fail 279)) (.fail 235)
     | none=>cond (hasT T e) (place n j fun k=>match shift c (k * sizeT T e) with | some c'=>one c' | none=>(.fail 212)) (.fail 235)
    | .slice e=>match c with
      | .ar b=>match look h b with
        | some (.arr _ l)=>cond (Nat.beq (sizeT T e) (LI.sz l) && hasT T e) (test j.known (decide (0≤j.n)) (test false (decide (j.n < (LI.len l:Int))) (one (.eptr b j.n.toNat (sizeT T e) 0)))) (.fail 223)
        | some (.fro _ l _)=>cond (Nat.beq (sizeT T e) (LI.sz l) && hasT T e) (test j.known (decide (0≤j.n)) (.ix l j.n.toNat fun cs=>one (.fp cs 0))) (.fail 224)
        | some (.pre b0 k)=>match look h b0 with
          | some (.arr _ l)=>cond (Nat.beq (sizeT T e) (LI.sz l) && hasT T e) (test j.known (decide (0≤j.n)) (test false (decide (j.n < (LI.len (LI.sub l 0 k):Int))) (one (.eptr b0 j.n.toNat (sizeT T e) 0)))) (.fail 255)
          | _=>.fail 256
        | some (.win b0 z lo hi)=>match look h b0 with
          | some (.arr _ l)=>cond (Nat.beq (sizeT T e) (LI.sz l) && Nat.beq z (LI.sz l) && hasT T e) (test j.known (decide (0≤j.n)) (test false (decide (j.n < (LI.len (LI.sub l lo hi):Int))) (one (.eptr b0 (lo+j.n.toNat) (sizeT T e) 0)))) (.fail 255)
          | _=>.fail 256
        | _=>(.fail 213)
      | .im (.fz l)=>cond (Nat.beq (sizeT T e) (LI.sz l) && hasT T e) (test j.known (decide (0≤j.n)) (.ix l j.n.toNat fun cs=>one (.fp cs 0))) (.fail 224)
      | _=>(.fail 214)
    | _=>(.fail 215)
  | _,_,_=>(.fail 216)
def indexOp (T:Tab)(h:Hp L)(t:TypeId)(x i:X L):Res L :=
  match T t,x,natOf i with
  | some ti,.s (.agg cs),some j=>match ti.ty with
    | .array n e=>match T e with
      | some ei=>match cond (LI.selT L t && !j.known) (selIs (fun k=>match part ei.isAgg cs (k * ei.size) ei.size with | some s=>toIs h (cellsOf s) | none=>none) j.n n 0) none with
       | some (xs,u)=>.br (decide (0≤j.n) && decide (j.n < (n:Int))) (packSel ei.isAgg xs u) (.fail 279)
       | none=>place n j fun k=>match part ei.isAgg cs (k * ei.size) ei.size with | some s=>.ret (.s s,[]) | none=>(.fail 55)
      | none=>(.fail 56)
    | _=>(.fail 57)
  | some ti,.s (.c (.im (.str s))),some j=>match ti.ty with
    | .str=>.br (decide (0≤j.n)) (.br (decide (j.n < (s.size:Int))) (oneI (.int .u8 ((s[j.n.toNat]?.getD 0).toNat:Int))) (.fail 58)) (.fail 59)
    | _=>(.fail 60)
  | _,_,_=>(.fail 61)
def copyOp (T:Tab)(h:Hp L)(e:TypeId)(d s:X L):Res L :=
  match cOf d,srcOf h e s with
  | some (.ar b),some l2=>match look h b with
    | some (.arr e' l)=>cond (Nat.beq (sizeT T e) (LI.sz l) && Nat.beq (sizeT T e) (LI.sz l2) && hasT T e && Nat.ble 1 (sizeT T e)) (
      let n:=Nat.min (LI.len l2) (LI.len l)
      match LI.app (LI.sub l2 0 n) (LI.sub l n (LI.len l)) with
      | some l'=>.ret (.s (.c (.im (.int .i64 (n:Int)))),[(b,.arr e' l')])
      | none=>(.fail 202)) (.fail 226)
    | _=>match partOf h (.ar b) with
      | some (b0,e',l,lo,hi)=>cond (Nat.beq (sizeT T e) (LI.sz l) && Nat.beq (sizeT T e) (LI.sz l2) && hasT T e && Nat.ble 1 (sizeT T e)) (
        let n:=Nat.min (LI.len l2) (hi - lo)
        match layL l (LI.sub l2 0 n) lo n with
        | some l'=>.ret (.s (.c (.im (.int .i64 (n:Int)))),[(b0,.arr e' l')])
        | none=>(.fail 258)) (.fail 257)
      | none=>(.fail 203)
  | _,_=>(.fail 204)
def sameOpd:Operand→Operand→Bool
  | .tmp a,.tmp b=>Nat.beq a b
  | _,_=>false
def makeOp (T:Tab)(fresh:Nat)(e:TypeId)(same:Bool)(n c:X L):Res L :=
  match natOf n,natOf c with
  | some a,some b=>cond (zOk T e)
    (cond same
      (test a.known (decide (0≤a.n)) (test a.known (fits a.n.toNat)
        (match LI.rep e a.n.toNat with
         | some l=>.ret (.s (.c (.ar fresh)),[(fresh,.arr e l)])
         | none=>(.fail 205))))
      (cond (a.known && decide (a.n=0))
        (test b.known (decide (0≤b.n)) (test b.known (fits b.n.toNat)
          (match LI.rep e 0 with
           | some l=>.ret (.s (.c (.ar fresh)),[(fresh,.arr e l)])
           | none=>(.fail 232))))
        (test a.known (decide (0≤a.n)) (test (a.known && b.known) (decide (a.n≤b.n)) (test b.known (fits b.n.toNat)
          (match LI.rep e a.n.toNat with
           | some l=>.ret (.s (.c (.ar fresh)),[(fresh,.arr e l)])
           | none=>(.fail 233)))))))
    (.fail 231)
  | _,_=>(.fail 206)
def buildSliceOp (T:Tab)(h:Hp L)(fresh:Nat)(e:TypeId)(n:Nat)(parts:List (Nat×X L)):Res L :=
  match T e with
  | some ei=>match zeroC ei with
    | some z=>match fillParts (fun j=>some (j * ei.size,ei.size)) (repl z n) parts with
      | some cs=>match toIs h cs with
        | some (xs,u)=>match cond (zOk T e && Nat.ble (n * ei.size) 16777216) (LI.mkL e (chop ei.size n xs)) none with
          | some l=>.ret (.s (.c (.ar fresh)),(fresh,.arr e l)::u)
          | none=>(.fail 70)
        | none=>(.fail 71)
      | none=>(.fail 72)
    | none=>(.fail 73)
  | none=>(.fail 74)
def ptrs:List (X L)→Option (List (Nat×Nat))
  | []=>some []
  | .s (.c (.ptr b off))::r=>match ptrs r with | some l=>some ((b,off)::l) | none=>none
  | _=>none
def mkFunc (h:Hp L)(f:FuncId)(first captured:List (X L)):Res L :=
  match ptrs first,ptrs captured with
  | some a,some b=>one (.clo f a b)
  | _,_=>match first,captured with
    | [.s (.c x)],[]=>(match toI h x with | some (y,u)=>.ret (.s (.c (.clv f false [y])),u) | none=>.fail 260)
    | [.s (.agg cs)],[]=>(match toIs h cs with | some (ys,u)=>.ret (.s (.c (.clv f true ys)),u) | none=>.fail 260)
    | _,_=>.fail 94
def isByteT (T:Tab)(t:TypeId):Bool:=match T t with | some i=>(match i.ty with | .int .u8=>true | _=>false) | none=>false
def isBoolT (T:Tab)(t:TypeId):Bool:=match T t with | some i=>(match i.ty with | .bool=>true | _=>false) | none=>false
def evOp (T:Tab)(h:Hp L)(fresh:Nat)(ρ:Operand→X L):Op→Res L
  | .move x | .assign x=>.ret (ρ x,[])
  | .pick c a b=>match imOf (ρ c) with
    | some i=>match boolV i with
      | some (t,true)=>.ret (cond t (ρ a) (ρ b),[])
      | some (t,false)=>match imOf (ρ a),imOf (ρ b) with
        | some x,some y=>match boolV x,boolV y with
          | some p,some q=>oneI (.bool (cond t p.1 q.1))
          | _,_=>.br t (.ret (ρ a,[])) (.ret (ρ b,[]))
        | _,_=>.br t (.ret (ρ a,[])) (.ret (ρ b,[]))
      | none=>(.fail 75)
    | none=>(.fail 76)
  | .alloc t=>match T t with
    | some i=>match zeroC i with
      | some z=>.ret (.s (.c (.ptr fresh 0)),[(fresh,.var z t)])
      | none=>(.fail 77)
    | none=>(.fail 78)
  | .box t x=>match ρ x with
    | .s s=>cond ((cellsOf s).all solid) (.ret (.s (.c (.ptr fresh 0)),[(fresh,.var (cellsOf s) t)])) (.fail 219)
    | _=>(.fail 79)
  | .build t parts=>match buildS T t (parts.toList.map fun p=>(p.1,ρ p.2)) with
    | some s=>.ret (.s s,[])
    | none=>(.fail 80)
  | .buildSlice t n parts=>match sliceElem T t with
    | some e=>buildSliceOp T h fresh e n (parts.toList.map fun p=>(p.1,ρ p.2))
    | none=>(.fail 81)
  | .load t a=>match T t,cOf (ρ a) with
    | some i,some c=>loadOp h i.isAgg i.size c
    | _,_=>(.fail 82)
  | .store t a x=>match T t,cOf (ρ a),ρ x with
    | some i,some c,.s s=>storeOp h i.size c s
    | _,_,_=>(.fail 83)
  | .nilCheck x=>match cOf (ρ x) with
    | some (.ptr b off)=>one (.ptr b off)
    | some (.eptr b i sz off)=>one (.eptr b i sz off)
    | some (.sptr b base i n sz off)=>one (.sptr b base i n sz off)
    | some (.fp cs off)=>one (.fp cs off)
    | some (.clo f a b)=>one (.clo f a b)
    | some (.clv f a b)=>one (.clv f a b)
    | _=>(.fail 84)
  | .binOp op t x y _=>match ρ x,ρ y with
   | .s (.agg xs),.s (.agg ys)=>match op,cond (match T t with | some i=>i.isAgg | none=>false) (eqT T 8 t xs ys) none with
    | .eql,some b=>oneI (.bool b)
    | .neq,some b=>oneI (.bool (!b))
    | _,_=>(.fail 220)
   | _,_=>match imOf (ρ x),imOf (ρ y) with
    | some a,some b=>match intV a,intV b with
      | some i,some j=>intBin op i j
      | _,_=>match a,b with
        | .str s,.str t=>strBin op s t
        | a,b=>cond (isBoolT T t) (match boolV a,boolV b,op with
          | some p,some q,.eql=>oneI (mkBool (p.2 && q.2) (p.1 == q.1))
          | some p,some q,.neq=>oneI (mkBool (p.2 && q.2) (!(p.1 == q.1)))
          | _,_,_=>(.fail 85)) (.fail 234)
    | _,_=>(.fail 86)
  | .unOp op _ x=>match imOf (ρ x) with
    | some a=>match op,boolV a,intV a with
      | .not,some p,_=>oneI (mkBool p.2 (!p.1))
      | .neg,_,some i=>oneI (mkInt i.known i.k (i.k.wrap (0 - i.n)))
      | _,_,_=>(.fail 87)
    | none=>(.fail 88)
  | .convert src dst x=>match T src,T dst,cOf (ρ x) with
    | some a,some b,some c=>match a.ty,b.ty,c with
      | .int _,.int k,.im i=>match intV i with
        | some v=>oneI (mkInt v.known k (k.wrap v.n))
        | none=>(.fail 89)
      | .slice e,.str,c=>cond (isByteT T e) (match listOf h c with
        | some (l,_)=>match LI.bytes l with
          | some s=>oneI (.str s)
          | none=>(.fail 238)
        | none=>(.fail 239)) (.fail 240)
      | .str,.slice e,.im (.str s)=>cond (isByteT T e && zOk T e) (match LI.ofStr e s with
        | some l=>oneI (.fz l)
        | none=>.fail 261) (.fail 276)
      | _,_,_=>(.fail 92)
    | _,_,_=>(.fail 93)
  | .makeFunc (.func f) first captured=>mkFunc h f (first.toList.map ρ) (captured.toList.map ρ)
  | .makeSlice t n c=>match sliceElem T t with
    | some e=>makeOp T fresh e (sameOpd n c) (ρ n) (ρ c)
    | none=>(.fail 95)
  | .slice t x lo hi none=>cond (isArrP T t) (match lo,hi with | none,none=>arrSliceOp T h t (ρ x) | _,_=>.fail 292) (sliceOp T h fresh t (ρ x) (lo.map ρ) (hi.map ρ))
  | .slice t x lo hi (some m)=>slice3Op T h t (ρ x) (lo.map ρ) (hi.map ρ) (ρ m)
  | .fieldAddr t x f=>match T t,cOf (ρ x) with
    | some i,some c=>match i.ty with
      | .struct fs=>match nth fs f with
        | some (off,ft)=>cond (Nat.beq (sizeT T ft) 0) (.fail 96) (match shift c off with | some c'=>one c' | none=>(.fail 97))
        | none=>(.fail 98)
      | _=>(.fail 99)
    | _,_=>(.fail 100)
  | .field t x f=>match T t,ρ x with
    | some i,.s (.agg cs)=>match i.ty with
      | .struct fs=>match nth fs f with
        | some (off,ft)=>match T ft with
          | some fi=>match part fi.isAgg cs off fi.size with
            | some s=>.ret (.s s,[])
            | none=>(.fail 101)
          | none=>(.fail 102)
        | none=>(.fail 103)
      | _=>(.fail 104)
    | _,_=>(.fail 105)
  | .indexAddr t x i=>indexAddrOp T h t (ρ x) (ρ i)
  | .index t x i=>indexOp T h t (ρ x) (ρ i)
  | .extract x i=>match ρ x with
    | .tup l=>match nth l i with
      | some s=>.ret (.s s,[])
      | none=>(.fail 106)
    | _=>(.fail 107)
  | .call { callee:=.builtin b,args,argTypes }=>match b,args.toList.map ρ,argTypes.toList with
    | .len,[x],[t]=>match cOf x with
      | some c=>lenOp T h t c
      | none=>(.fail 108)
    | .append,[s,x],[t,u]=>cond (Nat.beq t u) (match sliceElem T t with | some e=>appendOp T h fresh e s x | none=>(.fail 109)) (.fail 110)
    | .clear,[x],[t]=>(match sliceElem T t with | some e=>clearOp T h e x | none=>(.fail 259))
    | .copy,[d,s],[t,u]=>cond (Nat.beq t u) (match sliceElem T t with | some e=>copyOp T h e d s | none=>(.fail 217)) (.fail 111)
    | .min,x::xs,_=>match natOf x with
      | some a=>match foldInts min2 a xs with
        | some r=>oneI (mkInt r.known r.k r.n)
        | none=>(.fail 112)
      | none=>(.fail 113)
    | .max,x::xs,_=>match natOf x with
      | some a=>match foldInts max2 a xs with
        | some r=>oneI (mkInt r.known r.k r.n)
        | none=>(.fail 114)
      | none=>(.fail 115)
    | _,_,_=>(.fail 116)
  | _=>(.fail 117)
end Go.Ev
/- The evaluator: regions, code, functions. -/
namespace Go.Ev
variable {L:Type} [LI L]
structure Sx (L:Type) where
  env:List (Nat×X L)
  hp:Hp L
  nx:Nat
def opd (env:List (Nat×X L)):Operand→X L
  | .tmp t=>match look env t with | some x=>x | none=>.s (.c .top)
  | .const v=>.s (ofConst v)
  | .global _=>.s (.c .top)
  | .func f=>.s (.c (.clo f [] []))
def putE (env:List (Nat×X L)):Option Tmp→X L→List (Nat×X L)
  | some d,x=>(d,x)::env
  | none,_=>env
abbrev CallF (L:Type):=FuncId→List (X L)→Hp L→Nat→Out L (X L×Hp L×Nat)
def ptrX (p:Nat×Nat):X L:=.s (.c (.ptr p.1 p.2))
def idsC:C L→List Nat
  | .ptr b _ | .eptr b _ _ _ | .sptr b _ _ _ _ _ | .ar b=>[b]
  | .clo _ a b=>a.map (·.1)++b.map (·.1)
  | _=>[]
def idsS (s:S L):List Nat:=(cellsOf s).flatMap idsC
def idsX:X L→List Nat
  | .s s=>idsS s
  | .tup l=>l.flatMap idsS
def idsEn:En L→List Nat
  | .var cs _=>cs.flatMap idsC
  | .pre b _=>[b]
  | .win b _ _ _=>[b]
  | _=>[]
def mem (n:Nat):List Nat→Bool
  | []=>false
  | x::r=>Nat.beq x n || mem n r
def behind (h:Hp L)(b:Nat):List Nat:=match look h b with | some (.pre b0 _)=>[b,b0] | some (.win b0 _ _ _)=>[b,b0] | _=>[b]
def restrict (h:Hp L)(ids:List Nat):Hp L:=ids.filterMap fun b=>match look h b with | some e=>some (b,e) | none=>none
def trav (h:Hp L):Nat→List Nat→List Nat→List Nat
  | 0,_,acc=>acc
  | n+1,todo,acc=>match todo with
    | []=>acc
    | b::r=>cond (mem b acc) (trav h n r acc) (match look h b with
      | some e=>trav h n (r++idsEn e) (acc++[b])
      | none=>trav h n r acc)
def blind:Op→Bool
  | .move _ | .assign _ | .pick .. | .alloc _ | .box .. | .build .. | .nilCheck _ | .binOp .. | .unOp .. | .makeFunc .. | .makeSlice .. | .fieldAddr .. | .field .. | .extract ..=>true
  | _=>false
inductive OrcKind where
  | keep | pure | fresh (e:TypeId) | sum | cln (e:TypeId) | ins (e:TypeId) | del (e:TypeId) | rd (off:Nat) (e:TypeId)
def purS (h:Hp L)(s:S L):Option (S L×Hp L) :=
  match s with
  | .c x=>match toI h x with | some (y,u)=>some (.c (.im y),u) | none=>none
  | .agg cs=>match toIs h cs with | some (ys,u)=>some (.agg (ims ys),u) | none=>none
def purAll (h:Hp L):List (X L)→Option (List (S L)×Hp L)
  | []=>some ([],[])
  | .s x::r=>match purS h x,purAll h r with
    | some (y,u),some (ys,v)=>some (y::ys,u++v)
    | _,_=>none
  | _=>none
def packRes:List (S L)→X L
  | [x]=>.s x
  | xs=>.tup xs
def noList:S L→Bool
  | s=>(cellsOf s).all fun | .im (.fz _)=>false | .im _=>true | _=>false
def isBlt:OrcKind→Bool
  | .cln _ | .ins _ | .del _=>true
  | _=>false
def ownedOf (h:Hp L)(e:TypeId)(x:X L):Option (L×Hp L) :=
  match cOf x with
  | some c=>cond (isNil c) (match LI.mkL e [] with | some l=>some (l,[]) | none=>none) (match c with
    | .ar b=>match look h b with
      | some (.arr e' l)=>cond (Nat.beq e e') (some (l,[(b,.dead)])) none
      | _=>none
    | _=>none)
  | none=>none
def szOk (T:Tab)(e:TypeId)(l:L):Bool:=Nat.beq (sizeT T e) (LI.sz l) && zOk T e
def clnOp (T:Tab)(h:Hp L)(fresh:Nat)(e:TypeId)(x:X L):Res L :=
  match srcOf h e x with
  | some l=>cond (szOk T e l) (.br (fits (LI.len l)) (.ret (.s (.c (.ar fresh)),[(fresh,.arr e l)])) (.fail 262)) (.fail 263)
  | none=>.fail 264
def insL (l l2:L)(i:Nat):Option L:=match LI.app (LI.sub l 0 i) l2 with
  | some l1=>LI.app l1 (LI.sub l i (LI.len l))
  | none=>none
def insOp (T:Tab)(h:Hp L)(fresh:Nat)(e:TypeId)(s i v:X L):Res L :=
  match ownedOf h e s,natOf i with
  | some (l,u),some n=>(match srcOf (u++h) e v with
    | some l2=>cond (szOk T e l && (szOk T e l2 && keq n.k .i64))
      (test n.known (decide (0≤n.n)) (test false (decide (n.n≤(LI.len l:Int))) (match insL l l2 n.n.toNat with
        | some l'=>.br (fits (LI.len l')) (.ret (.s (.c (.ar fresh)),(fresh,.arr e l')::u)) (.fail 265)
        | none=>.fail 266))) (.fail 267)
    | none=>.fail 268)
  | _,_=>.fail 268
def delOp (T:Tab)(h:Hp L)(fresh:Nat)(e:TypeId)(s i j:X L):Res L :=
  match ownedOf h e s,natOf i,natOf j with
  | some (l,u),some n,some m=>cond (szOk T e l && (keq n.k .i64 && keq m.k .i64))
    (test n.known (decide (0≤n.n)) (test (n.known && m.known) (decide (n.n≤m.n)) (test false (decide (m.n≤(LI.len l:Int))) (match LI.app (LI.sub l 0 n.n.toNat) (LI.sub l m.n.toNat (LI.len l)) with
      | some l'=>.br (fits (LI.len l)) (.ret (.s (.c (.ar fresh)),(fresh,.arr e l')::u)) (.fail 273)
      | none=>.fail 269)))) (.fail 270)
  | _,_,_=>.fail 271
def bltRes (T:Tab)(k:OrcKind)(args:List (X L))(h:Hp L)(fresh:Nat):Res L :=
  match k,args with
  | .cln e,[x]=>clnOp T h fresh e x
  | .ins e,[s,i,v]=>insOp T h fresh e s i v
  | .del e,[s,i,j]=>delOp T h fresh e s i j
  | _,_=>.fail 272
def orcRes (k:OrcKind)(f:FuncId)(args:List (X L))(h:Hp L)(fresh:Nat):Res L :=
  match purAll h args with
  | some (xs,u)=>match k with
    | .keep=>.call f xs fun rs=>cond (rs.all fun s=>(cellsOf s).all fun | .im _=>true | _=>false) (.ret (packRes rs,u)) (.fail 130)
    | .pure=>.call f xs fun rs=>cond (rs.all noList) (.ret (packRes rs,[])) (.fail 131)
    | .fresh e=>.call f xs fun
      | [.c (.im (.fz l))]=>.ret (.s (.c (.ar fresh)),(fresh,.arr e l)::cond (LI.flat l) [] u)
      | _=>.fail 132
    | _=>.fail 128
  | none=>.fail 133
def plainAll:List (X L)→Option (List (S L))
  | []=>some []
  | .s s::r=>cond (noList s) (match plainAll r with | some ys=>some (s::ys) | none=>none) none
  | _=>none
def rdRes (T:Tab)(f:FuncId)(off:Nat)(e:TypeId)(args:List (X L))(h:Hp L):Res L :=
  match args with
  | x::r=>match cOf x,plainAll r with
    | some (.ptr b o),some ys=>cond (Nat.beq o 0) (match look h b with
      | some (.var cs _)=>match nth cs off with
        | some c=>match srcOf h e (.s (.c c)) with
          | some l=>cond (szOk T e l) (.call f (.c (.im (.fz l))::ys) fun rs=>cond (rs.all noList) (.ret (packRes rs,[])) (.fail 275)) (.fail 276)
          | none=>.fail 276
        | none=>.fail 277
      | _=>.fail 277) (.fail 286)
    | _,_=>.fail 278
  | []=>.fail 278
def packI (agg:Bool)(cs:List (I L)):X L:=.s (cond agg (.agg (ims cs)) (match cs with | x::_=>.c (.im x) | []=>.c .top))
def callee (env:List (Nat×X L)):Op→Option (FuncId×List (X L))
  | .call { callee:=.value f,args,.. }=>match cOf (opd env f) with
    | some (.clo g first caps)=>some (g,first.map ptrX++args.toList.map (opd env)++caps.map ptrX)
    | some (.clv g agg cs)=>some (g,packI agg cs::args.toList.map (opd env))
    | _=>none
  | _=>none
/- Renaming ids. -/
def renP (φ:Nat→Nat)(p:Nat×Nat):Nat×Nat:=(φ p.1,p.2)
def renC (φ:Nat→Nat):C L→C L
  | .ptr b off=>.ptr (φ b) off
  | .eptr b i sz off=>.eptr (φ b) i sz off
  | .sptr b base i n sz off=>.sptr (φ b) base i n sz off
  | .ar b=>.ar (φ b)
  | .clo f a c=>.clo f (a.map (renP φ)) (c.map (renP φ))
  | c=>c
def renS (φ:Nat→Nat):S L→S L
  | .c x=>.c (renC φ x)
  | .agg cs=>.agg (cs.map (renC φ))
def renX (φ:Nat→Nat):X L→X L
  | .s x=>.s (renS φ x)
  | .tup l=>.tup (l.map (renS φ))
def renEn (φ:Nat→Nat):En L→En L
  | .var cs t=>.var (cs.map (renC φ)) t
  | .pre b k=>.pre (φ b) k
  | .win b z lo hi=>.win (φ b) z lo hi
  | e=>e
def renHp (φ:Nat→Nat)(h:Hp L):Hp L:=h.map fun p=>(φ p.1,renEn φ p.2)
def idx (b:Nat):List Nat→Nat→Option Nat
  | [],_=>none
  | x::r,i=>cond (Nat.beq x b) (some i) (idx b r (i+1))
def numAt (R:List Nat)(b:Nat):Nat:=match idx b R 0 with | some i=>i | none=>0
def nodup:List Nat→Bool
  | []=>true
  | x::r=>!(mem x r) && nodup r
def subset (a b:List Nat):Bool:=a.all fun x=>mem x b
def below (n:Nat)(a:List Nat):Bool:=a.all fun x=>Nat.ble (x+1) n
def carve (R:List Nat)(num:Nat→Nat)(n:Nat)(xs:List (X L))(h:Hp L):Option (Cst L) :=
  cond (nodup (R.map num) && (below n (R.map num) && ((xs.all fun x=>subset (idsX x) R) && ((restrict h R).all fun p=>subset (idsEn p.2) R))))
    (some ⟨xs.map (renX num),renHp num (restrict h R),n⟩) none
def travX (h:Hp L)(xs:List (X L))(first:List Nat):List Nat:=trav h 400 (first++xs.flatMap idsX) []
def canon (xs:List (X L))(h:Hp L):Option (Cst L):=carve (travX h xs []) (numAt (travX h xs [])) (travX h xs []).length xs h
def keptAt (R:List Nat)(p:Nat):Bool:=match nth R p with | some b=>Nat.beq b p | none=>false
def canonBack (kp:List Nat)(xs:List (X L))(h:Hp L):Option (Cst L) :=
  cond (kp.all (keptAt (travX h xs []))) (canon xs h) none
def numOut (kp R:List Nat)(m b:Nat):Nat:=cond (mem b kp) b (m+numAt R b)
def canonOut (kp:List Nat)(m:Nat)(xs:List (X L))(h:Hp L):Option (Cst L) :=
  cond (below m kp) (carve (travX h xs kp) (numOut kp (travX h xs kp) m) (m+(travX h xs kp).length) xs h) none
def backId (kp ids:List Nat)(nx i:Nat):Nat:=cond (mem i kp) (match nth ids i with | some b=>b | none=>0) (nx+i)
def sumOut (kp ids:List Nat)(h:Hp L)(nx:Nat)(d:Cst L):List (X L)×Hp L×Nat :=
  (d.xs.map (renX (backId kp ids nx)),renHp (backId kp ids nx) d.hp++(ids.map fun b=>(b,.dead))++h,nx+d.n)
def sumCall0 (sid:Nat)(kp:List Nat)(xs:List (X L))(h:Hp L)(nx:Nat):Out L (Ex×List (X L)×Hp L×Nat) :=
  match canon xs h with
  | some c=>cond (below (travX h xs []).length kp) (.sum sid c fun e d=>.ret (e,sumOut kp (travX h xs []) h nx d)) (.fail 160)
  | none=>.fail 161
/- A state in its plain form: no known numbers, no nil slices. -/
def normI:I L→I L
  | .lit k n=>.int k n
  | .tt=>.bool true
  | .ff=>.bool false
  | x=>x
def normC:C L→C L
  | .im x=>.im (normI x)
  | c=>c
abbrev Sl:=TypeId→List (Nat×TypeId)
def fixC (sl:List (Nat×TypeId))(off:Nat)(c:C L):C L :=
  cond (isNil c) (match look sl off with
    | some e=>match LI.mkL e [] with
      | some l=>.im (.fz l)
      | none=>c
    | none=>c) (normC c)
def fixCs (sl:List (Nat×TypeId)):Nat→List (C L)→List (C L)
  | _,[]=>[]
  | off,c::r=>fixC sl off c::fixCs sl (off+1) r
def fixS (sl:List (Nat×TypeId)):S L→S L
  | .c x=>.c (fixC sl 0 x)
  | .agg cs=>.agg (fixCs sl 0 cs)
def fixSs (sl:Sl):List TypeId→List (S L)→List (S L)
  | t::ts,s::r=>fixS (sl t) s::fixSs sl ts r
  | _,r=>r
def fixX (sl:Sl)(ts:List TypeId):X L→X L
  | .s s=>match ts with | t::_=>.s (fixS (sl t) s) | []=>.s s
  | .tup l=>.tup (fixSs sl ts l)
def fixXs (sl:Sl):List TypeId→List (X L)→List (X L)
  | t::ts,x::r=>fixX sl [t] x::fixXs sl ts r
  | _,r=>r
def prom1 (b off:Nat)(e:TypeId)(s:Hp L×Nat):Hp L×Nat :=
  match look s.1 b with
  | some (.var cs t)=>match nth cs off with
    | some c=>cond (isNil c) (match LI.mkL e [] with
      | some l=>((b,.var (cs.set off (.ar s.2)) t)::(s.2,.arr e l)::s.1,s.2+1)
      | none=>s) s
    | none=>s
  | _=>s
def promL (b:Nat):List (Nat×TypeId)→Hp L×Nat→Hp L×Nat
  | [],s=>s
  | (off,e)::r,s=>promL b r (prom1 b off e s)
def normV (b:Nat)(h:Hp L):Hp L :=
  match look h b with
  | some (.var cs t)=>(b,.var (cs.map normC) t)::h
  | _=>h
def promR (sl:Sl):List Nat→Hp L×Nat→Hp L×Nat
  | [],s=>s
  | b::r,s=>match look s.1 b with
    | some (.var _ t)=>promR sl r (normV b (promL b (sl t) s).1,(promL b (sl t) s).2)
    | _=>promR sl r s
def promX:List (Option TypeId)→List (X L)→Hp L×Nat→List (X L)×Hp L×Nat
  | some e::ts,x::r,s=>match cOf x with
    | some c=>cond (isNil c) (match LI.mkL e [] with
      | some l=>match promX ts r ((s.2,.arr e l)::s.1,s.2+1) with
        | (ys,s')=>(.s (.c (.ar s.2))::ys,s')
      | none=>match promX ts r s with | (ys,s')=>(x::ys,s')) (match promX ts r s with | (ys,s')=>(x::ys,s'))
    | none=>match promX ts r s with | (ys,s')=>(x::ys,s')
  | none::ts,x::r,s=>match promX ts r s with | (ys,s')=>(x::ys,s')
  | _,xs,s=>(xs,s)
def pur1 (sl:Sl)(b off:Nat)(h:Hp L):Hp L :=
  match look h b with
  | some (.var cs t)=>match nth cs off with
    | some c=>match toI h c with
      | some (x,u)=>(b,.var (cs.set off (fixC (sl t) off (.im x))) t)::(u++h)
      | none=>h
    | none=>h
  | _=>h
def purL (sl:Sl)(b:Nat):List Nat→Hp L→Hp L
  | [],h=>h
  | off::r,h=>purL sl b r (pur1 sl b off h)
def purR (sl:Sl)(pv:List (Nat×List Nat)):List Nat→Hp L→Hp L
  | [],h=>h
  | b::r,h=>match look h b with
    | some (.var _ t)=>match look pv t with
      | some offs=>purR sl pv r (purL sl b offs h)
      | none=>purR sl pv r h
    | _=>purR sl pv r h
def purX (x:X L)(h:Hp L):X L×Hp L :=
  match x with
  | .s s=>match purS h s with
    | some (y,u)=>(.s y,u++h)
    | none=>(.s s,h)
  | .tup l=>match purAll h (l.map .s) with
    | some (ys,u)=>(.tup ys,u++h)
    | none=>(.tup l,h)
def purXs:List Bool→List (X L)→Hp L→List (X L)×Hp L
  | true::ps,x::r,h=>match purX x h with
    | (y,h1)=>match purXs ps r h1 with
      | (ys,h2)=>(y::ys,h2)
  | false::ps,x::r,h=>match purXs ps r h with
    | (ys,h2)=>(x::ys,h2)
  | _,xs,h=>(xs,h)
structure Sh where
  ts:List TypeId
  pa:List (Option TypeId)
  pv:List (Nat×List Nat)
  ps:List Bool
  rf:List (Nat×List Nat)
  bu:Bool
def unpre1 (b:Nat)(h:Hp L):Hp L :=
  match look h b with
  | some (.pre b0 k)=>match look h b0 with
    | some (.arr e l)=>(b,.arr e (LI.sub l 0 k))::(b0,.dead)::h
    | _=>h
  | _=>h
def unpreR:List Nat→Hp L→Hp L
  | [],h=>h
  | b::r,h=>unpreR r (unpre1 b h)
def prep (sl:Sl)(sh:Sh)(kp:List Nat)(xs:List (X L))(h:Hp L)(nx:Nat):List (X L)×Hp L×Nat :=
  match purXs sh.ps xs h with
  | (xs1,h1)=>match promX sh.pa xs1 (h1,nx) with
    | (ys,s)=>(fixXs sl sh.ts ys,promR sl (travX s.1 ys kp) (purR sl sh.pv (travX s.1 ys kp) (unpreR (travX s.1 ys kp) s.1),s.2))
def sumCall (sl:Sl)(sh:Sh)(sid:Nat)(kp:List Nat)(xs:List (X L))(h:Hp L)(nx:Nat):Out L (Ex×List (X L)×Hp L×Nat) :=
  match prep sl sh [] xs h nx with
  | (ys,h',n)=>sumCall0 sid kp ys h' n
structure Cx (L:Type) where
  T:Tab
  orc:FuncId→Option OrcKind
  cf:CallF L
  sl:TypeId→List (Nat×TypeId)
  sh:FuncId→Sh×Sh
def evCall (cx:Cx L)(g:FuncId)(args:List (X L))(h:Hp L)(nx:Nat):Out L (X L×Hp L×Nat) :=
  match cx.orc g with
  | some .sum=>match prep cx.sl (cx.sh g).1 [] args h nx with
    | (xs,h1,n1)=>(sumCall0 g (List.range (travX h1 xs []).length) xs h1 n1).bind fun
      | (.normal,[x],h',n)=>.ret (x,h',n)
      | _=>.fail 162
  | some (.rd off e)=>(rdRes cx.T g off e args h).bind fun (x,u)=>.ret (x,u++h,nx+1)
  | some k=>(cond (isBlt k) (bltRes cx.T k args h nx) (orcRes k g args h nx)).bind fun (x,u)=>.ret (x,u++h,nx+1)
  | none=>cx.cf g args h nx
def evStep (cx:Cx L)(env:List (Nat×X L))(h:Hp L)(nx:Nat)(o:Op):Out L (X L×Hp L×Nat) :=
  match callee env o with
  | some (g,args)=>evCall cx g args h nx
  | none=>(evOp cx.T h nx (opd env) o).bind fun (x,u)=>.ret (x,u++h,nx+1)
def mX (c:Bool):X L→X L→Option (X L)
  | .s (.c (.im x)),.s (.c (.im y))=>match mI c x y with | some z=>some (.s (.c (.im z))) | none=>none
  | .s (.c (.ptr a b)),.s (.c (.ptr a' b'))=>cond (Nat.beq a a' && Nat.beq b b') (some (.s (.c (.ptr a b)))) none
  | _,_=>none
def mEnv (c:Bool)(written:List Nat)(e1 e2:List (Nat×X L)):List Nat→Option (List (Nat×X L))
  | []=>some []
  | d::r=>match mEnv c written e1 e2 r with
    | some m=>match look e1 d,look e2 d with
      | some x,some y=>cond (mem d written)
        (match mX c x y with
         | some z=>some ((d,z)::m)
         | none=>none)
        (some ((d,x)::m))
      | _,_=>some m
    | none=>none
def mrg (live written:List Nat)(hl:Nat)(c:Bool)(a b:Out L (Sx L)):Out L (Sx L) :=
  match a,b with
  | .ret s,.ret t=>cond (Nat.beq s.hp.length hl && Nat.beq t.hp.length hl)
    (match mEnv c written s.env t.env live with
     | some m=>.ret { env:=m,hp:=s.hp,nx:=Nat.max s.nx t.nx }
     | none=>.br c (.ret s) (.ret t))
    (.br c (.ret s) (.ret t))
  | a,b=>.br c a b
def keepE (env:List (Nat×X L)):List Nat→List (Nat×X L)
  | []=>[]
  | d::r=>match look env d with
    | some x=>(d,x)::keepE env r
    | none=>keepE env r
def dstOf (ops:List Oper)(j:Nat):Option Tmp:=match nth ops j with | some o=>o.dst | none=>none
def edgeTo (ops:List Oper)(i j:Nat):Bool:=match nth ops j with
  | some o=>o.after.toList.any fun e=>Nat.beq e.on i && Region.binds .any e
  | none=>false
def waits (ops:List Oper):Nat→Nat→Nat→Bool
  | 0,i,j=>edgeTo ops i j
  | n+1,i,j=>edgeTo ops i j || (match nth ops j with
    | some o=>o.after.toList.any fun e=>Region.binds .any e && waits ops n i e.on
    | none=>false)
def ordered (ops:List Oper)(i j:Nat):Bool:=waits ops 4 i j || waits ops 4 j i
def clash (a b:List Nat):Bool:=a.any fun x=>mem x b
structure Fp where
  i:Nat
  d:List Nat
  w:List Nat
def fpOk (ops:List Oper):List Fp→Bool
  | []=>true
  | p::r=>(r.all fun q=>(!(clash p.w q.d || (clash q.w p.d || clash p.w q.w))) || ordered ops p.i q.i) && fpOk ops r
def named (ops:List Oper)(o:Oper):List Tmp :=
  (match o.guard with | some (j,_)=>(dstOf ops j).toList | none=>[])++(o.dst.toList++o.op.operands.toList.filterMap fun | .tmp t=>some t | _=>none)
def tmpsOkFrom (ops:List Oper)(i:Nat)(d:Tmp):List Oper→Nat→Bool
  | [],_=>true
  | o::r,j=>(Nat.beq i j || (!(mem d (named ops o)) || ordered ops i j)) && tmpsOkFrom ops i d r (j+1)
def tmpsOk (ops:List Oper):List Oper→Nat→Bool
  | [],_=>true
  | o::r,i=>(match o.dst with | some d=>tmpsOkFrom ops i d ops 0 | none=>true) && tmpsOk ops r (i+1)
def edgesOk:List Oper→Nat→Bool
  | [],_=>true
  | o::r,i=>(o.after.toList.all fun e=>!(Region.binds .any e) || Nat.ble (e.on+1) i) && edgesOk r (i+1)
def noSel (ops:List Oper):Bool:=ops.all fun o=>match o.op with | .select ..=>false | _=>true
structure Rg where
  ops:List Oper
  live:List Nat
  written:List Nat
  hl:Nat
  base:Nat
def stride:Nat:=4096
def isCall:Op→Bool
  | .call { callee:=.value _,.. }=>true
  | _=>false
def opdIds (env:List (Nat×X L))(o:Op):List Nat:=o.operands.toList.flatMap fun x=>idsX (opd env x)
def isS (env:List (Nat×X L))(o:Op):Bool:=o.operands.toList.any fun x=>match cOf (opd env x) with | some (.sptr _ _ _ _ _ _)=>true | _=>false
def opIds (env:List (Nat×X L))(h:Hp L)(o:Op):List Nat :=
  cond (blind o) [] (cond (isCall o || isS env o) (trav h 400 (opdIds env o) []) ((opdIds env o).flatMap (behind h)))
def lowIds (env:List (Nat×X L))(h:Hp L)(nx:Nat)(o:Op):Bool :=
  cond (isCall o) (below nx (opdIds env o) && h.all fun p=>Nat.ble (p.1+1) nx && below nx (idsEn p.2)) true
def addFp (i:Nat)(d:List Nat)(u:Hp L)(fp:List Fp):List Fp:=match d,u with
  | [],[]=>fp
  | d,u=>⟨i,d,u.map (·.1)⟩::fp
def opTmps (o:Op):List Nat:=o.operands.toList.filterMap fun | .tmp t=>some t | _=>none
def drawOne (cx:Cx L)(base:Nat)(o:Op)(i:Nat)(env:List (Nat×X L))(h:Hp L):Out L (X L×Hp L×List Nat) :=
  let e:=keepE env (opTmps o)
  let ids:=opIds e h o
  let hr:=restrict h ids
  cond (lowIds e hr (base+i * stride) o)
    ((evStep cx e hr (base+i * stride) o).bind fun (x,h',n) =>
      cond (Nat.ble n (base+i * stride+stride)) (.ret (x,h'.take (h'.length - hr.length),ids)) (.fail 151))
    (.fail 152)
def undefX:X L→Bool
  | .tup []=>true
  | _=>false
def evDraw (cx:Cx L)(rg:Rg):List Oper→Nat→List Fp→Sx L→Out L (Sx L)
  | [],i,fp,s=>cond (fpOk rg.ops fp) (.ret { env:=keepE s.env rg.live,hp:=s.hp,nx:=rg.base+i * stride }) (.fail 135)
  | o::r,i,fp,s =>
    let exec (s:Sx L):Out L (Sx L) :=
      (drawOne cx rg.base o.op i s.env s.hp).bind fun (x,u,ids)=>evDraw cx rg r (i+1) (addFp i ids u fp) { env:=putE s.env o.dst x,hp:=u++s.hp,nx:=s.nx }
    let skip (s:Sx L):Out L (Sx L):=evDraw cx rg r (i+1) fp { s with env:=putE s.env o.dst (.tup []) }
    match o.guard with
    | none=>exec s
    | some (j,want)=>match dstOf rg.ops j with
      | none=>.fail 136
      | some d=>match look s.env d with
        | some x=>match imOf x with
          | some v=>match boolV v with
            | some (t,true)=>cond (t == want) (exec s) (skip s)
            | some (t,false) =>
              mrg rg.live rg.written rg.hl t
                (cond want (exec { s with env:=(d,.s (.c (.im .tt)))::s.env }) (skip { s with env:=(d,.s (.c (.im .tt)))::s.env }))
                (cond want (skip { s with env:=(d,.s (.c (.im .ff)))::s.env }) (exec { s with env:=(d,.s (.c (.im .ff)))::s.env }))
            | none=>.fail 137
          | none=>cond (undefX x) (skip s) (.fail 138)
        | none=>.fail 139
def evOps (cx:Cx L)(rg:Rg):List Oper→Sx L→Out L (Sx L)
  | [],s=>.ret { s with env:=keepE s.env rg.live }
  | o::r,s =>
    let exec (s:Sx L):Out L (Sx L):=(evStep cx s.env s.hp s.nx o.op).bind fun (x,h,n)=>evOps cx rg r { env:=putE s.env o.dst x,hp:=h,nx:=n }
    let skip (s:Sx L):Out L (Sx L):=evOps cx rg r { s with env:=putE s.env o.dst (.tup []) }
    match o.guard with
    | none=>exec s
    | some (j,want)=>match dstOf rg.ops j with
      | none=>.fail 136
      | some d=>match look s.env d with
        | some x=>match imOf x with
          | some v=>match boolV v with
            | some (t,true)=>cond (t == want) (exec s) (skip s)
            | some (t,false) =>
              mrg rg.live rg.written rg.hl t
                (cond want (exec { s with env:=(d,.s (.c (.im .tt)))::s.env }) (skip { s with env:=(d,.s (.c (.im .tt)))::s.env }))
                (cond want (skip { s with env:=(d,.s (.c (.im .ff)))::s.env }) (exec { s with env:=(d,.s (.c (.im .ff)))::s.env }))
            | none=>.fail 137
          | none=>cond (undefX x) (skip s) (.fail 138)
        | none=>.fail 139
def dsts (ops:List Oper):List Nat:=ops.filterMap (·.dst)
def evRegion (cx:Cx L)(live:List Nat)(ops:List Oper)(draw:Bool)(s:Sx L):Out L (Sx L) :=
  cond draw
    (evDraw cx ⟨ops,live,dsts ops,s.hp.length,s.nx⟩ ops 0 [] s)
    (evOps cx ⟨ops,live,dsts ops,s.hp.length,0⟩ ops s)
structure LoopA where
  sid:Nat
  live:List Nat
  out:List Nat
  kp:List Nat
  ls:Sh
  os:Sh
structure Ann where
  reg:Nat→List Nat
  cnd:Nat→Option (List Nat)
  lp:Nat→Option LoopA
def mrgE (live written:List Nat)(hl:Nat)(c:Bool)(a b:Out L (Ex×Sx L)):Out L (Ex×Sx L) :=
  match a,b with
  | .ret (.normal,s),.ret (.normal,t)=>(mrg live written hl c (.ret s) (.ret t)).bind fun u=>.ret (.normal,u)
  | a,b=>.br c a b
def iter {R:Type}(body:R→Out L (Ex×R)):Nat→R→Out L (Ex×R)
  | 0,_=>.fail 141
  | n+1,s=>(body s).bind fun
    | (.normal,t)=>iter body n t
    | (e,t)=>.ret (e,t)
def keyOf:Code→Nat
  | .region id _ _=>id
  | .seq a _=>keyOf a
  | .block _ b=>keyOf b
  | _=>0
def getE (env:List (Nat×X L)):List Nat→Option (List (X L))
  | []=>some []
  | d::r=>match look env d,getE env r with
    | some x,some xs=>some (x::xs)
    | _,_=>none
def zipE:List Nat→List (X L)→List (Nat×X L)
  | d::r,x::xs=>(d,x)::zipE r xs
  | _,_=>[]
def dstsC (an:Ann):Code→List Nat
  | .region _ ops _=>dsts ops.toList
  | .seq a b=>dstsC an a++dstsC an b
  | .cond _ a b=>dstsC an a++dstsC an b
  | .block _ b=>dstsC an b
  | .loop b=>(match an.lp (keyOf b) with | some q=>q.out | none=>[])++dstsC an b
  | _=>[]
def evCode (cx:Cx L)(an:Ann)(fuel:Nat):Code→Sx L→Out L (Ex×Sx L)
  | .skip,s=>.ret (.normal,s)
  | .region id ops draw,s=>(evRegion cx (an.reg id) ops.toList draw s).bind fun t=>.ret (.normal,t)
  | .seq a b,s=>(evCode cx an fuel a s).bind fun
    | (.normal,t)=>evCode cx an fuel b t
    | (e,t)=>.ret (e,t)
  | .cond c x y,s=>match imOf (opd s.env c) with
    | some v=>match boolV v with
      | some (t,true)=>cond t (evCode cx an fuel x s) (evCode cx an fuel y s)
      | some (t,false)=>match c with
        | .tmp d=>match an.cnd d with
          | some live=>mrgE live (dstsC an x++dstsC an y) s.hp.length t (evCode cx an fuel x s) (evCode cx an fuel y s)
          | none=>.br t (evCode cx an fuel x s) (evCode cx an fuel y s)
        | _=>.fail 142
      | none=>.fail 143
    | none=>.fail 144
  | .block id b,s=>(evCode cx an fuel b s).bind fun
    | (.exit j,t)=>cond (Nat.beq j id) (.ret (.normal,t)) (.ret (.exit j,t))
    | (e,t)=>.ret (e,t)
  | .loop b,s=>match an.lp (keyOf b) with
    | some q=>match getE s.env q.live with
      | some xs=>(sumCall cx.sl q.ls q.sid q.kp xs s.hp s.nx).bind fun (e,ys,h,n)=>cond (Nat.beq ys.length q.out.length) (.ret (e,{ env:=zipE q.out ys,hp:=h,nx:=n })) (.fail 163)
      | none=>.fail 164
    | none=>iter (evCode cx an fuel b) fuel s
  | .exit id,s=>.ret (.exit id,s)
  | .ret,s=>.ret (.ret,s)
  | _,_=>.fail 145
def resOne (T:Tab)(s:Sx L):ResultVar→Option (S L)
  | .tmp t=>match look s.env t with
    | some (.s x)=>some x
    | _=>none
  | .cell a t=>match look s.env a,T t with
    | some x,some i=>match cOf x with
      | some (.ptr b off)=>match look s.hp b with
        | some (.var cs _)=>part i.isAgg cs off i.size
        | _=>none
      | _=>none
    | _,_=>none
def resAll (T:Tab)(s:Sx L):List ResultVar→Option (List (S L))
  | []=>some []
  | r::rs=>match resOne T s r,resAll T s rs with
    | some x,some xs=>some (x::xs)
    | _,_=>none
def number (i:Nat):List (X L)→List (Nat×X L)
  | []=>[]
  | x::r=>(i,x)::number (i+1) r
structure FnDef where
  body:Code
  results:List ResultVar
  nparams:Nat
  an:Ann
structure Env where
  T:Tab
  fn:FuncId→Option FnDef
  orc:FuncId→Option OrcKind
  sl:TypeId→List (Nat×TypeId)
  sh:FuncId→Sh×Sh
def evBody (E:Env)(loops:Nat)(cf:CallF L)(d:FnDef)(args:List (X L))(h:Hp L)(nx:Nat):Out L (X L×Hp L×Nat) :=
  cond (Nat.beq args.length d.nparams)
    ((evCode ⟨E.T,E.orc,cf,E.sl,E.sh⟩ d.an loops d.body { env:=number 0 args,hp:=h,nx:=nx }).bind fun
      | (.exit _,_)=>.fail 146
      | (_,s)=>match resAll E.T s d.results with
        | some xs=>.ret (packRes xs,s.hp,s.nx)
        | none=>.fail 147)
    (.fail 148)
def evFn (E:Env)(loops:Nat):Nat→CallF L
  | 0,_,_,_,_=>.fail 149
  | n+1,f,args,h,nx=>match E.fn f with
    | some d=>evBody E loops (evFn E loops n) d args h nx
    | none=>.fail 150
def evRound (E:Env)(loops n:Nat)(an:Ann)(q:LoopA)(b:Code)(c:Cst L):Out L (Ex×Cst L) :=
  (evCode ⟨E.T,E.orc,evFn E loops n,E.sl,E.sh⟩ an loops b { env:=zipE q.live c.xs,hp:=c.hp,nx:=c.n }).bind fun
    | (.normal,s)=>match getE s.env q.live with
      | some xs=>match prep E.sl q.ls [] xs s.hp s.nx with
        | (ys,h,_)=>match canonBack q.kp ys h with
          | some d=>.ret (.normal,d)
          | none=>.fail 166
      | none=>.fail 167
    | (e,s)=>match getE s.env q.out with
      | some xs=>match prep E.sl q.os q.kp xs s.hp s.nx with
        | (ys,h,_)=>match canonOut q.kp c.n ys h with
          | some d=>.ret (e,d)
          | none=>.fail 168
      | none=>.fail 169
/- What is asked of code, once for all. -/
def regB (nt:Nat)(ops:List Oper)(draw:Bool):Bool :=
  below nt (dsts ops) && (!draw || (tmpsOk ops ops 0 && (edgesOk ops 0 && noSel ops)))
def codeB (nt:Nat):Code→Bool
  | .region _ ops draw=>regB nt ops.toList draw
  | .seq a b=>codeB nt a && codeB nt b
  | .cond _ a b=>codeB nt a && codeB nt b
  | .block _ b=>codeB nt b
  | .loop b=>codeB nt b
  | _=>true
def loopsOf:Code→List Code
  | .seq a b=>loopsOf a++loopsOf b
  | .cond _ a b=>loopsOf a++loopsOf b
  | .block _ b=>loopsOf b
  | .loop b=>b::loopsOf b
  | _=>[]
end Go.Ev
/- What the abstract state says of the world: readings, and that they stay. -/
namespace Go.Ev
variable {L:Type} [LI L]
abbrev Fz:=Nat→Nat→Option Value
def FzLe (G G':Fz):Prop:=∀ k o v,G k o=some v→G' k o=some v
inductive RepI (G:Fz):I L→Value→Prop
 | lit {k n}:RepI G (.lit k n) (.int k n)
 | int {k n}:RepI G (.int k n) (.int k n)
 | tt:RepI G .tt (.bool true)
 | ff:RepI G .ff (.bool false)
 | bool {b}:RepI G (.bool b) (.bool b)
 | str {s}:RepI G (.str s) (.string s)
 | val {v} (h:v.oneCell'=true):RepI G (.val v) v
 | fz {l:L} {a n cap k o} {vals:Nat→Nat→Value} (hn:n=(LI.els l).length) (hc:n≤cap) (ha:0 < n→a=some ⟨k,o,none⟩)
   (hG:∀ i j cs x,(LI.els l)[i]?=some cs→cs[j]?=some x→G k (o+i * LI.sz l+j)=some (vals i j))
   (hx:∀ i j cs x,(LI.els l)[i]?=some cs→cs[j]?=some x→RepI G x (vals i j)):RepI G (.fz l) (.slice a n cap)
theorem RepI.mono {G G':Fz}(hG:FzLe G G'){x:I L}{v:Value}(h:RepI G x v):RepI G' x v:=by
 induction h with
 | lit=>exact .lit
 | int=>exact .int
 | tt=>exact .tt
 | ff=>exact .ff
 | bool=>exact .bool
 | str=>exact .str
 | val h=>exact .val h
 | fz hn hc ha h1 _ ih=>exact .fz hn hc ha (fun i j cs x a b=>hG _ _ _ (h1 i j cs x a b)) ih
theorem RepI.one {G:Fz}{x:I L}{v:Value}(h:RepI G x v):v.oneCell'=true:=by
 cases h<;>first | rfl | assumption
def Le (x y:I L):Prop:=∀ (G:Fz) v,RepI G x v→RepI G y v
structure Gh where
 blk:Nat→Nat
 sv:Nat→Option Addr×Nat×Nat
 G:Fz
def Gh.v (g:Gh)(b:Nat):Value:=.slice (g.sv b).1 (g.sv b).2.1 (g.sv b).2.2
def Gh.p (g:Gh)(p:Nat×Nat):Value:=.pointer (some ⟨g.blk p.1,p.2,none⟩)
inductive All2 {α β:Type} (R:α→β→Prop):List α→List β→Prop
 | nil:All2 R [] []
 | cons {a b as bs} (h:R a b) (t:All2 R as bs):All2 R (a::as) (b::bs)
def packV (agg:Bool)(vs:List Value):Value:=cond agg (.agg vs.toArray) (match vs with | v::_=>v | []=>undef)
def RepC (g:Gh):C L→Value→Prop
 | .im x,v=>RepI g.G x v
 | .ptr b off,v=>v=.pointer (some ⟨g.blk b,off,none⟩)
 | .eptr b i sz off,v=>v=.pointer (some ⟨g.blk b,i * sz+off,none⟩)
 | .sptr b base i n sz off,v=>∃ m:Nat,i=(m:Int)∧m < n∧v=.pointer (some ⟨g.blk b,base+m * sz+off,none⟩)
 | .fp cs off,v=>∃ k o,v=.pointer (some ⟨k,o+off,none⟩)∧∀ j x,cs[j]?=some x→∃ u,g.G k (o+j)=some u∧RepI g.G x u
 | .ar b,v=>v=g.v b
 | .clo f first caps,v=>v=.func (.func f) (first.map g.p).toArray (caps.map g.p).toArray
 | .clv f agg cs,v=>∃ vs,All2 (RepI g.G) cs vs∧v=.func (.func f) #[packV agg vs] #[]
 | .fc l,v=>RepI g.G (.fz l) v∧∃ a n,v=.slice a n n
 | .fc0 _,v=>∃ a,v=.slice a 0 0
 | .top,_=>True
namespace All2
variable {α β:Type} {R R':α→β→Prop}
theorem monoR {as:List α}{bs:List β}(f:∀ a b,R a b→R' a b)(h:All2 R as bs):All2 R' as bs:=by
 induction h with
 | nil=>exact .nil
 | cons h _ ih=>exact .cons (f _ _ h) ih
theorem length {as:List α}{bs:List β}(h:All2 R as bs):as.length=bs.length:=by
 induction h with
 | nil=>rfl
 | cons _ _ ih=>simp [ih]
theorem mono {as:List α}{bs:List β}(h:All2 R as bs)(f:∀ a b,a∈as→R a b→R' a b):All2 R' as bs:=by
 induction h with
 | nil=>exact .nil
 | cons h _ ih=>exact .cons (f _ _ (by simp) h) (ih fun a b m r=>f a b (by simp [m]) r)
theorem get {as:List α}{bs:List β}(h:All2 R as bs){i:Nat}{a:α}(ha:as[i]?=some a):∃ b,bs[i]?=some b∧R a b:=by
 induction h generalizing i with
 | nil=>simp at ha
 | cons h _ ih =>
  cases i with
  | zero=>simp at ha;subst ha;exact ⟨_,rfl,h⟩
  | succ i=>simpa using ih (by simpa using ha)
theorem take {as:List α}{bs:List β}(h:All2 R as bs)(n:Nat):All2 R (as.take n) (bs.take n):=by
 induction h generalizing n with
 | nil=>simp;exact .nil
 | cons h _ ih=>cases n<;>simp<;>first | exact .nil | exact .cons h (ih _)
theorem drop {as:List α}{bs:List β}(h:All2 R as bs)(n:Nat):All2 R (as.drop n) (bs.drop n):=by
 induction h generalizing n with
 | nil=>simp;exact .nil
 | cons h t ih=>cases n<;>simp<;>first | exact .cons h t | exact ih _
theorem append {as as':List α}{bs bs':List β}(h:All2 R as bs)(h':All2 R as' bs'):All2 R (as++as') (bs++bs'):=by
 induction h with
 | nil=>exact h'
 | cons h _ ih=>exact .cons h ih
theorem of_get {as:List α}{bs:List β}(hl:as.length=bs.length)(h:∀ (i:Nat) (a:α) (b:β),as[i]?=some a→bs[i]?=some b→R a b):All2 R as bs:=by
 induction as generalizing bs with
 | nil=>cases bs<;>simp_all;exact .nil
 | cons a as ih =>
  cases bs with
  | nil=>simp at hl
  | cons b bs=>exact .cons (h 0 a b rfl rfl) (ih (by simpa using hl) fun i x y hx hy=>h (i+1) x y (by simpa using hx) (by simpa using hy))
end All2
def RepS (g:Gh):S L→Value→Prop
 | .c x,v=>RepC g x v
 | .agg cs,v=>∃ vs:List Value,v=.agg vs.toArray∧All2 (RepC g) cs vs
def RepX (g:Gh):X L→Value→Prop
 | .s x,v=>RepS g x v
 | .tup l,v=>∃ vs:List Value,v=.tuple vs.toArray∧All2 (RepS g) l vs
structure GhLe (U:Nat→Prop) (g g':Gh):Prop where
 blk:∀ b,U b→g'.blk b=g.blk b
 sv:∀ b,U b→g'.sv b=g.sv b
 G:FzLe g.G g'.G
theorem GhLe.refl (U:Nat→Prop)(g:Gh):GhLe U g g:=⟨fun _ _=>rfl,fun _ _=>rfl,fun _ _ _ h=>h⟩
theorem GhLe.trans {U:Nat→Prop}{a b c:Gh}(h:GhLe U a b)(k:GhLe U b c):GhLe U a c :=
 ⟨fun x hx=>(k.blk x hx).trans (h.blk x hx),fun x hx=>(k.sv x hx).trans (h.sv x hx),fun _ _ _ hz=>k.G _ _ _ (h.G _ _ _ hz)⟩
theorem GhLe.weaken {U V:Nat→Prop}{a b:Gh}(h:GhLe U a b)(k:∀ x,V x→U x):GhLe V a b:=⟨fun x hx=>h.blk x (k x hx),fun x hx=>h.sv x (k x hx),h.G⟩
theorem RepC.mono {U:Nat→Prop}{g g':Gh}(hg:GhLe U g g'){x:C L}{v:Value}(hi:∀ b∈idsC x,U b)(h:RepC g x v):RepC g' x v:=by
 cases x with
 | im x=>exact RepI.mono hg.G h
 | ptr b off=>simp only [RepC] at h ⊢;rw [hg.blk b (hi b (by simp [idsC])),h]
 | eptr b i sz off=>simp only [RepC] at h ⊢;rw [hg.blk b (hi b (by simp [idsC])),h]
 | sptr b base i n sz off=>simp only [RepC] at h ⊢;rw [hg.blk b (hi b (by simp [idsC]))];exact h
 | fp cs off =>
  obtain ⟨k,o,hv,hc⟩:=h
  exact ⟨k,o,hv,fun j x hx=>let ⟨u,h1,h2⟩:=hc j x hx;⟨u,hg.G _ _ _ h1,RepI.mono hg.G h2⟩⟩
 | ar b=>simp only [RepC,Gh.v] at h ⊢;rw [hg.sv b (hi b (by simp [idsC])),h]
 | clo f a b =>
  simp only [RepC] at h ⊢
  have e:∀ l:List (Nat×Nat),(∀ x∈l,U x.1)→l.map g'.p=l.map g.p:=by
   intro l hl
   apply List.map_congr_left
   intro p hp
   simp [Gh.p,hg.blk _ (hl p hp)]
  rw [h,e a fun p hp=>hi _ (by simp only [idsC,List.mem_append,List.mem_map];exact .inl ⟨p,hp,rfl⟩),e b fun p hp=>hi _ (by simp only [idsC,List.mem_append,List.mem_map];exact .inr ⟨p,hp,rfl⟩)]
 | clv f agg cs=>obtain ⟨vs,h1,h2⟩:=h;exact ⟨vs,All2.monoR (fun _ _=>RepI.mono hg.G) h1,h2⟩
 | fc l=>exact ⟨RepI.mono hg.G h.1,h.2⟩
 | fc0 e=>exact h
 | top=>trivial
theorem RepCs.mono {U:Nat→Prop}{g g':Gh}(hg:GhLe U g g'){cs:List (C L)}{vs:List Value}(hi:∀ b∈cs.flatMap idsC,U b)(h:All2 (RepC g) cs vs):All2 (RepC g') cs vs :=
 h.mono fun x _ hx hr=>RepC.mono hg (fun b hb=>hi b (List.mem_flatMap.2 ⟨x,hx,hb⟩)) hr
theorem RepS.mono {U:Nat→Prop}{g g':Gh}(hg:GhLe U g g'){x:S L}{v:Value}(hi:∀ b∈idsS x,U b)(h:RepS g x v):RepS g' x v:=by
 cases x with
 | c x=>exact RepC.mono hg (fun b hb=>hi b (by simpa [idsS,cellsOf] using hb)) h
 | agg cs=>obtain ⟨vs,hv,hc⟩:=h;exact ⟨vs,hv,RepCs.mono hg (by simpa [idsS,cellsOf] using hi) hc⟩
theorem RepX.mono {U:Nat→Prop}{g g':Gh}(hg:GhLe U g g'){x:X L}{v:Value}(hi:∀ b∈idsX x,U b)(h:RepX g x v):RepX g' x v:=by
 cases x with
 | s x=>exact RepS.mono hg hi h
 | tup l =>
  obtain ⟨vs,hv,hc⟩:=h
  exact ⟨vs,hv,hc.mono fun x _ hx hr=>RepS.mono hg (fun b hb=>hi b (by simp only [idsX,List.mem_flatMap];exact ⟨x,hx,hb⟩)) hr⟩
theorem RepC.one {g:Gh}{x:C L}{v:Value}(h:RepC g x v)(hs:solid x=true):v.oneCell'=true:=by
 cases x with
 | im x=>exact RepI.one h
 | fp cs off=>obtain ⟨k,o,hv,_⟩:=h;subst hv;rfl
 | top=>simp [solid] at hs
 | clv f agg cs=>obtain ⟨vs,_,hv⟩:=h;subst hv;rfl
 | fc l=>exact RepI.one h.1
 | fc0 e=>obtain ⟨a,hv⟩:=h;subst hv;rfl
 | sptr b base i n sz off=>obtain ⟨m,_,_,hv⟩:=h;subst hv;rfl
 | _=>simp only [RepC] at h;subst h;rfl
def RepIs (G:Fz)(xs:List (I L))(vs:List Value):Prop:=All2 (RepI G) xs vs
def RepEn (g:Gh)(w:World)(B b:Nat):En L→Prop
 | .var cs t=>∃ vs:List Value,w.heap[g.blk b]?=some (.cells vs.toArray t (0,0))∧All2 (RepC g) cs vs∧∀ v∈vs,v.oneCell'=true
 | .arr e l=>∃ xs,w.ownsRow B e (LI.sz l) (g.v b) (LI.els l).length xs∧RepIs g.G (LI.els l).flatten xs∧∀ k,(g.v b).ownBlock=some k→k=g.blk b
 | .fro e l tip=>RepI g.G (.fz l) (g.v b)∧(tip=true→∃ xs,w.ownsRow B e (LI.sz l) (g.v b) (LI.els l).length xs∧RepIs g.G (LI.els l).flatten xs∧∀ k,(g.v b).ownBlock=some k→k=g.blk b)
 | .pre _ _=>True
 | .win _ _ _ _=>True
 | .fvar cs=>∀ j x,cs[j]?=some x→∃ u,g.G (g.blk b) j=some u∧RepI g.G x u
 | .dead=>True
def Alias (g:Gh)(b:Nat):En L→Prop
 | .pre b0 k=>k≤(g.sv b0).2.1∧g.sv b=((g.sv b0).1,k,(g.sv b0).2.2)∧g.blk b=g.blk b0
 | .win b0 z lo hi=>lo≤hi∧hi≤(g.sv b0).2.1∧g.sv b=(if (g.sv b0).2.2=lo then (g.sv b0).1 else (g.sv b0).1.map (·.add (lo * z)),hi - lo,(g.sv b0).2.2 - lo)
 | _=>True
def Owns (g:Gh)(b:Nat):En L→Prop
 | .var _ _=>True
 | .arr _ _=>(g.v b).ownBlock≠none
 | .fro _ _ tip=>tip=true∧(g.v b).ownBlock≠none
 | _=>False
omit [LI L] in
theorem Alias.mono {U:Nat→Prop}{g g':Gh}(hg:GhLe U g g'){b:Nat}(hb:U b){e:En L}(hi:∀ c∈idsEn e,U c)(h:Alias g b e):Alias g' b e:=by
 cases e with
 | pre b0 k=>simp only [Alias] at h ⊢;rw [hg.sv b hb,hg.sv b0 (hi b0 (by simp [idsEn])),hg.blk b hb,hg.blk b0 (hi b0 (by simp [idsEn]))];exact h
 | win b0 z lo k=>simp only [Alias] at h ⊢;rw [hg.sv b hb,hg.sv b0 (hi b0 (by simp [idsEn]))];exact h
 | _=>trivial
omit [LI L] in
theorem Alias.cg {g g':Gh}(hs:g'.sv=g.sv)(hk:g'.blk=g.blk){b:Nat}{e:En L}(h:Alias g b e):Alias g' b e:=by
 cases e<;>simp only [Alias,hs,hk] at h ⊢<;>exact h
structure RepH (U:Nat→Prop) (g:Gh) (B:Nat) (h:Hp L) (w:World):Prop where
 fz:∀ k o v,g.G k o=some v→w.cell? ⟨k,o,none⟩=some v
 ent:∀ b e,look h b=some e→RepEn g w B b e
 ids:∀ b e,look h b=some e→U b∧∀ c∈idsEn e,U c
 dis:∀ b b' e e',look h b=some e→look h b'=some e'→Owns g b e→Owns g b' e'→b≠b'→g.blk b≠g.blk b'
 own:∀ b e,look h b=some e→Owns g b e→B≤g.blk b
 free:∀ b e,look h b=some e→Owns g b e→∀ o v,g.G (g.blk b) o=some v→∃ t l,e=.fro t l true∧o < (LI.els l).length * LI.sz l
 pre:∀ b e,look h b=some e→Alias g b e
 base:B≤w.heap.size
structure RepE (U:Nat→Prop) (g:Gh) (env:List (Nat×X L)) (a:Act):Prop where
 val:∀ d x,look env d=some x→∃ v,a.tmps[d]?=some v∧RepX g x v
 ids:∀ d x,look env d=some x→∀ b∈idsX x,U b
 defers:a.defers=[]
end Go.Ev
/- The laws that typed lists keep; what an outcome holds; operands. -/
namespace Go.Ev
variable {L:Type} [LI L]
class LLaws (L:Type) [LI L]:Prop where
 len:∀ l:L,LI.len l=(LI.els l).length
 idx:∀ {R:Type} (l:L) (i:Nat) (k:List (I L)→Option R),LI.idx l i k=match (LI.els l)[i]? with | some cs=>k cs | none=>none
 size:∀ (l:L) cs,cs∈LI.els l→cs.length=LI.sz l
 mkL:∀ t css (l:L),LI.mkL t css=some l→All2 (All2 Le) css (LI.els l)
 app:∀ a b l:L,LI.app a b=some l→LI.els l=LI.els a++LI.els b∧LI.sz l=LI.sz a∧LI.sz l=LI.sz b
 sub:∀ (l:L) lo hi,LI.els (LI.sub l lo hi)=((LI.els l).take hi).drop lo∧LI.sz (LI.sub l lo hi)=LI.sz l
 set:∀ (l:L) i cs l',LI.set l i cs=some l'→∃ cs',All2 Le cs cs'∧LI.els l'=(LI.els l).set i cs'∧LI.sz l'=LI.sz l
 mrg:∀ c (a b l:L),LI.mrg c a b=some l→LI.els l=LI.els (cond c a b)∧LI.sz l=LI.sz (cond c a b)
 flat:∀ (l:L),LI.flat l=true→∀ cs∈LI.els l,∀ x∈cs,∀ (G G':Fz) v,RepI G x v→RepI G' x v
 ofStr:∀ t s (l:L),LI.ofStr t s=some l→(LI.els l).length=s.size∧LI.sz l=1∧∀ G:Fz,All2 (RepI G) (LI.els l).flatten (s.data.toList.map fun b=>Value.int .u8 b.toNat)
 bytes:∀ (l:L) s,LI.bytes l=some s→∃ ns:List Int,LI.els l=ns.map (fun n=>[.int .u8 n])∧s=⟨(ns.map fun n=>n.toNat.toUInt8).toArray⟩
structure TLaws (L:Type) [LI L] (T:Tab):Prop where
 mkL:∀ t css (l:L) i,LI.mkL t css=some l→T t=some i→LI.sz l=i.size
 rep:∀ t n (l:L),LI.rep t n=some l→∃ i z cs,T t=some i∧i.zero=some z∧LI.els l=List.replicate n cs∧LI.sz l=i.size∧All2 (fun v x=>∀ G:Fz,RepI G (x:I L) v) z cs
structure OrcD (L:Type) where
 c:FuncId→List (S L)→List (S L)→Prop
 s:Nat→Cst L→Ex→Cst L→Prop
namespace Out
variable {R Q:Type}
def holds (oD:OrcD L):Out L R→(R→Prop)→Prop
 | .ret r,q=>q r
 | .br c a b,q=>(c=true∧holds oD a q)∨(c=false∧holds oD b q)
 | .ix l i k,q=>∃ cs,(LI.els l)[i]?=some cs∧holds oD (k cs) q
 | .call f args k,q=>∃ rs,oD.c f args rs∧holds oD (k rs) q
 | .sum f c k,q=>∃ e d,oD.s f c e d∧holds oD (k e d) q
 | .fail _,_=>False
theorem holds_mono {oD:OrcD L}{o:Out L R}{p q:R→Prop}(h:holds oD o p)(hpq:∀ r,p r→q r):holds oD o q:=by
 induction o with
 | ret r=>exact hpq r h
 | br c a b iha ihb=>exact h.imp (fun x=>⟨x.1,iha x.2⟩) (fun x=>⟨x.1,ihb x.2⟩)
 | ix l i k ih=>obtain ⟨cs,h1,h2⟩:=h;exact ⟨cs,h1,ih cs h2⟩
 | call f args k ih=>obtain ⟨rs,h1,h2⟩:=h;exact ⟨rs,h1,ih rs h2⟩
 | sum f c k ih=>obtain ⟨e,d,h1,h2⟩:=h;exact ⟨e,d,h1,ih e d h2⟩
 | fail n=>exact h
theorem holds_bind {oD:OrcD L}{o:Out L R}{f:R→Out L Q}{q:Q→Prop}:holds oD (o.bind f) q↔holds oD o fun r=>holds oD (f r) q:=by
 induction o with
 | ret r=>exact Iff.rfl
 | br c a b iha ihb=>simp only [bind,holds,iha,ihb]
 | ix l i k ih=>simp only [bind,holds,ih]
 | call f args k ih=>simp only [bind,holds,ih]
 | sum f c k ih=>simp only [bind,holds,ih]
 | fail n=>exact Iff.rfl
theorem holds_ex {oD:OrcD L}{o:Out L R}{q:R→Prop}(h:holds oD o q):∃ r,q r∧holds oD o fun x=>x=r:=by
 induction o with
 | ret r=>exact ⟨r,h,rfl⟩
 | br c a b iha ihb =>
  rcases h with ⟨hc,h⟩ | ⟨hc,h⟩
  ·obtain ⟨r,h1,h2⟩:=iha h;exact ⟨r,h1,.inl ⟨hc,h2⟩⟩
  ·obtain ⟨r,h1,h2⟩:=ihb h;exact ⟨r,h1,.inr ⟨hc,h2⟩⟩
 | ix l i k ih=>obtain ⟨cs,h1,h2⟩:=h;obtain ⟨r,h3,h4⟩:=ih cs h2;exact ⟨r,h3,cs,h1,h4⟩
 | call f args k ih=>obtain ⟨rs,h1,h2⟩:=h;obtain ⟨r,h3,h4⟩:=ih rs h2;exact ⟨r,h3,rs,h1,h4⟩
 | sum f c k ih=>obtain ⟨e,d,h1,h2⟩:=h;obtain ⟨r,h3,h4⟩:=ih e d h2;exact ⟨r,h3,e,d,h1,h4⟩
 | fail n=>exact h.elim
structure OrcFits (oD:OrcD L) (orc:Orc L):Prop where
 c:∀ {Q:Type} f args (K:List (S L)→Option Q) q,orc.c Q f args K=some q→∃ rs,oD.c f args rs∧K rs=some q
 s:∀ {Q:Type} f c (K:Ex→Cst L→Option Q) q,orc.s Q f c K=some q→∃ e d,oD.s f c e d∧K e d=some q
theorem holds_of_run [LLaws L]{oD:OrcD L}{orc:Orc L}(ho:OrcFits oD orc)
  {o:Out L R} {K:R→Option Q} {q:Q} (h:run orc o K=some q):holds oD o fun r=>K r=some q:=by
 induction o with
 | ret r=>exact h
 | br c a b iha ihb =>
  cases c with
  | true=>exact .inl ⟨rfl,iha h⟩
  | false=>exact .inr ⟨rfl,ihb h⟩
 | ix l i k ih =>
  simp only [run,LLaws.idx] at h
  cases hc:(LI.els l)[i]? with
  | none=>simp [hc] at h
  | some cs=>simp only [hc] at h;exact ⟨cs,hc,ih cs h⟩
 | call f args k ih =>
  obtain ⟨rs,h1,h2⟩:=ho.c f args _ q h
  exact ⟨rs,h1,ih rs h2⟩
 | sum f c k ih =>
  obtain ⟨e,d,h1,h2⟩:=ho.s f c _ q h
  exact ⟨e,d,h1,ih e d h2⟩
 | fail n=>simp [run] at h
end Out
theorem look_cons {α:Type}(k:Nat)(v:α)(r:List (Nat×α))(d:Nat):look ((k,v)::r) d=if k=d then some v else look r d:=by
 simp only [look]
 by_cases h:k=d
 ·simp [h]
 ·have:Nat.beq k d=false:=by rw [← Bool.not_eq_true,Nat.beq_eq];exact h
  simp [this,h]
theorem look_append {α:Type}(a b:List (Nat×α))(d:Nat):look (a++b) d=match look a d with | some x=>some x | none=>look b d:=by
 induction a with
 | nil=>rfl
 | cons p r ih =>
  obtain ⟨k,v⟩:=p
  rw [List.cons_append,look_cons,look_cons]
  by_cases h:k=d
  ·simp [h]
  ·simp [h,ih]
def TabOK (P:Program)(T:Tab):Prop:=∀ t i,T t=some i→tiOf P t=some i
theorem RepI.ofVal {G:Fz}{v:Value}(h:v.oneCell'=true):RepI G (ofVal v:I L) v:=by
 cases v with
 | int k n=>exact .lit
 | bool b=>cases b;exact .ff;exact .tt
 | string s=>exact .str
 | _=>first | exact .val h | simp [Value.oneCell'] at h
theorem RepC.ofC {g:Gh}(v:Value):RepC g (ofC v:C L) v:=by
 cases v<;>first | exact RepI.ofVal rfl | trivial
theorem RepS.ofConst {g:Gh}(v:Value):RepS g (ofConst v:S L) v:=by
 cases v with
 | agg cs =>
  refine ⟨cs.toList,by simp,?_⟩
  generalize cs.toList=l
  induction l with
  | nil=>exact .nil
  | cons x r ih=>exact .cons (RepC.ofC x) ih
 | _=>simp only [Ev.ofConst,RepS];exact RepC.ofC _
omit [LI L] in
theorem idsC_ofC (v:Value):idsC (ofC v:C L)=[]:=by cases v<;>rfl
theorem opd_rep {U:Nat→Prop}{g:Gh}{env:List (Nat×X L)}{a:Act}(h:RepE U g env a)(x:Operand):RepX g (opd env x) (a.eval x):=by
 cases x with
 | tmp t =>
  simp only [opd]
  cases hl:look env t with
  | none=>trivial
  | some y =>
   obtain ⟨v,hv,hr⟩:=h.val t y hl
   have:a.eval (.tmp t)=v:=by simp [Act.eval,Array.getD_eq_getD_getElem?,hv]
   rw [this];exact hr
 | const v=>exact RepS.ofConst v
 | global n=>trivial
 | func f=>simp [opd,RepX,RepS,RepC,Act.eval]
theorem opd_ids {U:Nat→Prop}{g:Gh}{env:List (Nat×X L)}{a:Act}(h:RepE U g env a)(x:Operand):∀ b∈idsX (opd env x),U b:=by
 cases x with
 | tmp t =>
  simp only [opd]
  cases hl:look env t with
  | none=>simp [idsX,idsS,cellsOf,idsC]
  | some y=>exact h.ids t y hl
 | const v =>
  cases v with
  | agg cs=>simp [opd,idsX,idsS,ofConst,cellsOf,idsC_ofC]
  | _=>simp [opd,idsX,idsS,ofConst,cellsOf,idsC_ofC]
 | global n=>simp [opd,idsX,idsS,cellsOf,idsC]
 | func f=>simp [opd,idsX,idsS,cellsOf,idsC]
end Go.Ev
/- What an operation leaves; freezing an array. -/
namespace Go.Ev
variable {L:Type} [LI L]
theorem flatten_get {α:Type}{s:Nat}:∀ {css:List (List α)} {i j:Nat} {cs:List α} {x:α},(∀ c∈css,c.length=s)→css[i]?=some cs→cs[j]?=some x→css.flatten[i * s+j]?=some x
 | [],i,j,cs,x,_,h,_=>by simp at h
 | c::r,0,j,cs,x,hs,h,hx=>by
  simp at h;subst h
  have hj:j < c.length:=by
   rcases Nat.lt_or_ge j c.length with h | h
   ·exact h
   ·simp [List.getElem?_eq_none h] at hx
  simp [List.getElem?_append_left hj,hx]
 | c::r,i+1,j,cs,x,hs,h,hx=>by
  have hc:c.length=s:=hs c (by simp)
  have ih:=flatten_get (css:=r) (i:=i) (fun c hc=>hs c (by simp [hc])) (by simpa using h) hx
  have e:(i+1) * s+j=c.length+(i * s+j):=by rw [hc,Nat.succ_mul];omega
  rw [List.flatten_cons,e,List.getElem?_append_right (by omega)]
  simpa using ih
theorem flatten_length {α:Type}{s:Nat}:∀ {css:List (List α)},(∀ c∈css,c.length=s)→css.flatten.length=css.length * s
 | [],_=>by simp
 | c::r,h=>by
  have:=flatten_length (css:=r) fun c hc=>h c (by simp [hc])
  simp only [List.flatten_cons,List.length_append,List.length_cons,this,h c (by simp),Nat.succ_mul];omega
structure Same (w w':World):Prop where
 os:w'.os=w.os
 tape:w'.tape=w.tape
 output:w'.output=w.output
 size:w.heap.size≤w'.heap.size
theorem Same.refl (w:World):Same w w:=⟨rfl,rfl,rfl,Nat.le_refl _⟩
theorem Same.trans {a b c:World}(h:Same a b)(k:Same b c):Same a c:=⟨k.os.trans h.os,k.tape.trans h.tape,k.output.trans h.output,Nat.le_trans h.size k.size⟩
structure Post (U:Nat→Prop) (g:Gh) (B:Nat) (h:Hp L) (fresh:Nat) (w:World) (x:X L) (u:Hp L) (v:Value) (w':World) (g':Gh):Prop where
 le:GhLe U g g'
 rx:RepX g' x v
 ix:∀ b∈idsX x,U b∨b=fresh
 rh:RepH (fun b=>U b∨b=fresh) g' B (u++h) w'
 nf:∀ k o z,g'.G k o=some z→g.G k o=some z∨(∃ b e,look h b=some e∧Owns g b e∧g.blk b=k)∨w.heap.size≤k
 nb:∀ b e,look (u++h) b=some e→Owns g' b e→(∃ c e',look h c=some e'∧Owns g c e'∧g.blk c=g'.blk b)∨w.heap.size≤g'.blk b
 ws:Same w w'
 fr:∀ k,k < w.heap.size→(∀ b e,look h b=some e→Owns g b e→g.blk b≠k)→w'.heap[k]?=w.heap[k]?
 uu:∀ b e,look u b=some e→b=fresh∨∃ e',look h b=some e'
theorem RepH.weaken {U V:Nat→Prop}{g:Gh}{B:Nat}{h:Hp L}{w:World}(hr:RepH U g B h w)(k:∀ b,U b→V b):RepH V g B h w :=
 ⟨hr.fz,hr.ent,fun b e hb=>let ⟨a,c⟩:=hr.ids b e hb;⟨k _ a,fun d hd=>k _ (c d hd)⟩,hr.dis,hr.own,hr.free,hr.pre,hr.base⟩
theorem Post.pure {U:Nat→Prop}{g:Gh}{B:Nat}{h:Hp L}{fresh:Nat}{w:World}{x:X L}{v:Value}(hh:RepH U g B h w)(hx:RepX g x v)(hi:∀ b∈idsX x,U b) :
  Post U g B h fresh w x [] v w g :=
 ⟨.refl _ _,hx,fun b hb=>.inl (hi b hb),hh.weaken fun _=>.inl,fun _ _ _ hz=>.inl hz,fun b e hb ho=>.inl ⟨b,e,by simpa using hb,ho,rfl⟩,.refl w,fun _ _ _=>rfl,fun b e hb=>by simp [look] at hb⟩
theorem cell_of_block {w:World}{k:Nat}{cs:Array Value}{t:TypeId}{f:Nat×Nat}(h:w.heap[k]?=some (.cells cs t f))(o:Nat):w.cell? ⟨k,o,none⟩=cs[o]?:=by
 simp [World.cell?,h]
theorem own_cells [LLaws L]{g:Gh}{w:World}{B:Nat}{e:TypeId}{l:L}{v:Value}{xs:List Value}(ho:w.ownsRow B e (LI.sz l) v (LI.els l).length xs)(_hx:RepIs g.G (LI.els l).flatten xs) :
  (v=.slice none 0 0∧LI.els l=[])∨∃ k cap,v=.slice (some ⟨k,0,none⟩) (LI.els l).length cap∧(LI.els l).length≤cap∧B≤k∧k < w.heap.size ∧
   (∀ o,o < (LI.els l).length * LI.sz l→w.cell? ⟨k,o,none⟩=xs[o]?)∧xs.length=(LI.els l).length * LI.sz l:=by
 obtain ⟨hl,h⟩:=ho
 rcases h with ⟨hv,hn⟩ | ⟨k,cap,cur,hv,hb,hk,hnc,_,_,ht⟩
 ·exact .inl ⟨hv,List.eq_nil_of_length_eq_zero hn⟩
 ·refine .inr ⟨k,cap,hv,hnc,hb,?_,fun o ho=>?_,hl⟩
  ·exact (Array.getElem?_eq_some_iff.1 hk).1
  ·rw [cell_of_block hk,← ht,List.getElem?_take_of_lt ho,Array.getElem?_toList]
theorem RepH.preOf {U:Nat→Prop}{g:Gh}{B:Nat}{h:Hp L}{w:World}(hr:RepH U g B h w){b b0 k:Nat}(hb:look h b=some (.pre b0 k)){e:TypeId}{l0:L}
  (h0:look h b0=some (.arr e l0)∨∃ tip,look h b0=some (.fro e l0 tip)):k≤(LI.els l0).length∧g.sv b=((g.sv b0).1,k,(g.sv b0).2.2):=by
 obtain ⟨h1,h2,_⟩:=hr.pre b _ hb
 refine ⟨?_,h2⟩
 rcases h0 with h0 | ⟨tip,h0⟩
 ·obtain ⟨xs,ho,_⟩:=hr.ent _ _ h0
  rcases ho.2 with ⟨hv,hn⟩ | ⟨_,_,_,hv,_⟩
  ·simp only [Gh.v,Value.slice.injEq] at hv;omega
  ·simp only [Gh.v,Value.slice.injEq] at hv;omega
 ·have hI:=(hr.ent _ _ h0).1
  unfold Gh.v at hI
  cases hI with
  | fz hn=>omega
theorem RepH.winOf {U:Nat→Prop}{g:Gh}{B:Nat}{h:Hp L}{w:World}(hr:RepH U g B h w){b b0 z lo hi:Nat}(hb:look h b=some (.win b0 z lo hi)){e:TypeId}{l0:L}
  (h0:look h b0=some (.arr e l0)∨∃ tip,look h b0=some (.fro e l0 tip)):lo≤hi∧hi≤(LI.els l0).length∧g.sv b=(if (g.sv b0).2.2=lo then (g.sv b0).1 else (g.sv b0).1.map (·.add (lo * z)),hi - lo,(g.sv b0).2.2 - lo):=by
 obtain ⟨h1,h2,h3⟩:=hr.pre b _ hb
 refine ⟨h1,?_,h3⟩
 rcases h0 with h0 | ⟨tip,h0⟩
 ·obtain ⟨xs,ho,_⟩:=hr.ent _ _ h0
  rcases ho.2 with ⟨hv,hn⟩ | ⟨_,_,_,hv,_⟩
  ·simp only [Gh.v,Value.slice.injEq] at hv;omega
  ·simp only [Gh.v,Value.slice.injEq] at hv;omega
 ·have hI:=(hr.ent _ _ h0).1
  unfold Gh.v at hI
  cases hI with
  | fz hn=>omega
theorem RepH.freeze [LLaws L]{U:Nat→Prop}{g:Gh}{B:Nat}{h:Hp L}{w:World}(hr:RepH U g B h w){b:Nat}{e:TypeId}{l:L}(hb:look h b=some (.arr e l)) :
  ∃ G',FzLe g.G G'∧RepH U { g with G:=G' } B ((b,.fro e l true)::h) w∧(∀ k o z,G' k o=some z→g.G k o=some z∨(Owns g b (.arr e l)∧g.blk b=k))∧RepI G' (.fz l) (g.v b):=by
 obtain ⟨xs,ho,hx,hk⟩:=hr.ent b _ hb
 let G':Fz:=fun k o=>if (g.v b).ownBlock=some k∧o < (LI.els l).length * LI.sz l then w.cell? ⟨k,o,none⟩ else g.G k o
 have hfree:∀ k o z,(g.v b).ownBlock=some k→g.G k o=some z→False:=by
  intro k o z h1 h2
  have hO:Owns g b (.arr e l:En L):=by simp [Owns,h1]
  have:=hk k h1;subst this
  obtain ⟨t,l',he,_⟩:=hr.free b _ hb hO o z h2
  cases he
 have hle:FzLe g.G G':=by
  intro k o z hz
  show (if _ then _ else _)=_
  split
  ·rename_i hc;exact (hfree k o z hc.1 hz).elim
  ·exact hz
 have hsound:∀ k o z,G' k o=some z→w.cell? ⟨k,o,none⟩=some z:=by
  intro k o z hz
  change (if _ then _ else _)=_ at hz
  split at hz
  ·exact hz
  ·exact hr.fz k o z hz
 have hI:RepI G' (.fz l) (g.v b):=by
  rcases own_cells ho hx with ⟨hv,he⟩ | ⟨k,cap,hv,hc,_,_,hcell,hlen⟩
  ·rw [hv]
   exact .fz (k:=0) (o:=0) (vals:=fun _ _=>.nilFunc) (by simp [he]) (Nat.le_refl _) (by simp) (by simp [he]) (by simp [he])
  ·rw [hv]
   have hob:(g.v b).ownBlock=some k:=by rw [hv];rfl
   have key:∀ (i j:Nat) cs x,(LI.els l)[i]?=some cs→cs[j]?=some x→i * LI.sz l+j < (LI.els l).length * LI.sz l∧∃ v,xs[i * LI.sz l+j]?=some v∧RepI g.G x v:=by
    intro i j cs x hi hj
    have hf:=flatten_get (fun c hc=>LLaws.size l c hc) hi hj
    have hlt:i * LI.sz l+j < (LI.els l).flatten.length:=(List.getElem?_eq_some_iff.1 hf).1
    rw [flatten_length fun c hc=>LLaws.size l c hc] at hlt
    exact ⟨hlt,hx.get hf⟩
   refine .fz (k:=k) (o:=0) (vals:=fun i j=>(xs[i * LI.sz l+j]?).getD .nilFunc) rfl hc (fun _=>rfl) ?_ ?_
   ·intro i j cs x hi hj
    obtain ⟨hlt,v,hv,_⟩:=key i j cs x hi hj
    show (if _ then _ else _)=_
    rw [if_pos ⟨hob,by simpa using hlt⟩]
    simp only [Nat.zero_add]
    rw [hcell _ hlt,hv];rfl
   ·intro i j cs x hi hj
    obtain ⟨hlt,v,hv,hR⟩:=key i j cs x hi hj
    simp only [hv,Option.getD_some]
    exact hR.mono hle
 have hgle:GhLe (fun _=>True) g { g with G:=G' }:=⟨fun _ _=>rfl,fun _ _=>rfl,hle⟩
 have hent:∀ (c:Nat) (en:En L),RepEn g w B c en→RepEn { g with G:=G' } w B c en:=by
  intro c en hc
  cases en with
  | var cs t=>obtain ⟨vs,h1,h2,h3⟩:=hc;exact ⟨vs,h1,RepCs.mono hgle (fun _ _=>trivial) h2,h3⟩
  | arr e l=>obtain ⟨ys,h1,h2,h3⟩:=hc;exact ⟨ys,h1,h2.mono fun _ _ _ h=>h.mono hle,h3⟩
  | fro e l tip=>obtain ⟨h1,h2⟩:=hc;exact ⟨h1.mono hle,fun ht=>let ⟨ys,a,b,c⟩:=h2 ht;⟨ys,a,b.mono fun _ _ _ h=>h.mono hle,c⟩⟩
  | pre _ _=>trivial
  | win _ _ _ _=>trivial
  | fvar cs=>exact fun j x hx=>let ⟨u,a,b⟩:=hc j x hx;⟨u,hle _ _ _ a,b.mono hle⟩
  | dead=>trivial
 refine ⟨G',hle,⟨hsound,?_,?_,?_,?_,?_,?_,hr.base⟩,?_,hI⟩
 ·intro c en hc
  rw [look_cons] at hc
  split at hc
  ·rename_i hbc;subst hbc;cases hc
   exact ⟨hI,fun _=>⟨xs,ho,hx.mono fun _ _ _ h=>h.mono hle,hk⟩⟩
  ·exact hent c en (hr.ent c en hc)
 ·intro c en hc
  rw [look_cons] at hc
  split at hc
  ·rename_i hbc;subst hbc;cases hc
   exact ⟨(hr.ids b _ hb).1,by simp [idsEn]⟩
  ·exact hr.ids c en hc
 ·intro c c' en en' hc hc' ho1 ho2 hne
  rw [look_cons] at hc hc'
  have aux:∀ (d:Nat) (ed:En L),(if b=d then some (En.fro e l true) else look h d)=some ed→Owns { g with G:=G' } d ed→∃ ed',look h d=some ed'∧Owns g d ed':=by
   intro d ed hd hO
   split at hd
   ·rename_i hbd;subst hbd;cases hd;exact ⟨_,hb,hO.2⟩
   ·exact ⟨ed,hd,by cases ed<;>exact hO⟩
  obtain ⟨e1,a1,b1⟩:=aux c en hc ho1
  obtain ⟨e2,a2,b2⟩:=aux c' en' hc' ho2
  exact hr.dis c c' e1 e2 a1 a2 b1 b2 hne
 ·intro c en hc hO
  rw [look_cons] at hc
  split at hc
  ·rename_i hbc;subst hbc;cases hc;exact hr.own b _ hb hO.2
  ·exact hr.own c en hc (by cases en<;>exact hO)
 ·intro c en hc hO o z hz
  rw [look_cons] at hc
  change (if _ then _ else _)=_ at hz
  split at hc
  ·rename_i hbc;subst hbc;cases hc
   refine ⟨e,l,rfl,?_⟩
   split at hz
   ·rename_i hh;exact hh.2
   ·have hO':Owns g b (.arr e l:En L):=hO.2
    obtain ⟨t,l',he,_⟩:=hr.free b _ hb hO' o z hz
    cases he
  ·rename_i hbc
   have hO':Owns g c en:=by cases en<;>exact hO
   split at hz
   ·rename_i hh
    have hOb:Owns g b (.arr e l:En L):=by simp [Owns,hh.1]
    exact absurd (hk _ hh.1) fun he=>hr.dis b c _ en hb hc hOb hO' hbc he.symm
   ·exact hr.free c en hc hO' o z hz
 ·intro c en hc
  rw [look_cons] at hc
  split at hc
  ·cases hc;trivial
  ·exact Alias.cg rfl rfl (hr.pre c en hc)
 ·intro k o z hz
  change (if _ then _ else _)=_ at hz
  split at hz
  ·rename_i hh;exact .inr ⟨by simp [Owns,hh.1],(hk _ hh.1).symm⟩
  ·exact .inl hz
end Go.Ev
/- Freezing many; what the table says of the program; loads and stores. -/
namespace Go.Ev
variable {L:Type}
def Frz (h u:Hp L):Prop:=∀ p∈u,∃ e l,p.2=.fro e l true∧look h p.1=some (.arr e l)
theorem Frz.nil (h:Hp L):Frz h []:=fun _ hp=>by simp at hp
theorem Frz.append {h u v:Hp L}(a:Frz h u)(b:Frz h v):Frz h (u++v):=fun p hp=>(List.mem_append.1 hp).elim (a p) (b p)
theorem look_mem {α:Type}{l:List (Nat×α)}{d:Nat}{x:α}(h:look l d=some x):(d,x)∈l:=by
  induction l with
  | nil=>simp [look] at h
  | cons p r ih =>
    obtain ⟨k,v⟩:=p
    rw [look_cons] at h
    split at h
    · rename_i hk;subst hk;cases h;simp
    · simp [ih h]
theorem look_of_key {α:Type}{l:List (Nat×α)}{d:Nat}{x:α}(h:(d,x)∈l):∃ y,look l d=some y:=by
  induction l with
  | nil=>simp at h
  | cons p r ih =>
    obtain ⟨k,v⟩:=p
    rw [look_cons]
    by_cases hk:k=d
    · exact ⟨v,by simp [hk]⟩
    · simp only [hk,if_false]
      rcases List.mem_cons.1 h with h | h
      · cases h;exact absurd rfl hk
      · exact ih h
theorem Frz.at_ {h u:Hp L}(hf:Frz h u){b:Nat}{en:En L}(hb:look (u++h) b=some en):look h b=some en∨∃ e l,look h b=some (.arr e l)∧en=.fro e l true:=by
  rw [look_append] at hb
  cases hu:look u b with
  | none=>rw [hu] at hb;exact .inl hb
  | some x =>
    rw [hu] at hb;cases hb
    obtain ⟨e,l,h1,h2⟩:=hf _ (look_mem hu)
    exact .inr ⟨e,l,h2,h1⟩
theorem Frz.look_of {h u:Hp L}(hf:Frz h u){b:Nat}{x:En L}(hm:(b,x)∈u):∃ e l,look h b=some (.arr e l)∧x=.fro e l true∧look (u++h) b=some (.fro e l true):=by
  obtain ⟨e,l,h1,h2⟩:=hf _ hm
  refine ⟨e,l,h2,h1,?_⟩
  obtain ⟨y,hy⟩:=look_of_key hm
  obtain ⟨e',l',h3,h4⟩:=hf _ (look_mem hy)
  rw [h2] at h4;cases h4
  simp only at h3
  rw [look_append,hy,h3]
variable [LI L]
theorem RepH.of_look {U:Nat→Prop}{g:Gh}{B:Nat}{h h':Hp L}{w:World}(hr:RepH U g B h w)(hl:∀ d,look h' d=look h d):RepH U g B h' w :=
  ⟨hr.fz,fun b e hb=>hr.ent b e (hl b ▸ hb),fun b e hb=>hr.ids b e (hl b ▸ hb),fun b b' e e' h1 h2=>hr.dis b b' e e' (hl b ▸ h1) (hl b' ▸ h2),
   fun b e hb=>hr.own b e (hl b ▸ hb),fun b e hb=>hr.free b e (hl b ▸ hb),fun b e hb=>hr.pre b e (hl b ▸ hb),hr.base⟩
theorem RepH.freezeL [LLaws L]{U:Nat→Prop}{g:Gh}{B:Nat}{h:Hp L}{w:World}(hr:RepH U g B h w):∀ (u:Hp L),Frz h u →
    ∃ G',FzLe g.G G'∧RepH U { g with G:=G' } B (u++h) w∧(∀ k o z,G' k o=some z→g.G k o=some z∨∃ b e,look h b=some e∧Owns g b e∧g.blk b=k)
  | [],_=>⟨g.G,fun _ _ _ h=>h,hr,fun _ _ _ hz=>.inl hz⟩
  | (b,x)::u,hf=>by
    obtain ⟨G1,h1,h2,h3⟩:=RepH.freezeL hr u fun p hp=>hf p (by simp [hp])
    obtain ⟨e,l,hx,hb⟩:=hf (b,x) (by simp)
    simp only at hx hb;subst hx
    have hf':Frz h u:=fun p hp=>hf p (by simp [hp])
    have hcase:look (u++h) b=some (.arr e l)∨look (u++h) b=some (.fro e l true):=by
      rw [look_append]
      cases hu:look u b with
      | none=>exact .inl hb
      | some y =>
        obtain ⟨e',l',h4,h5⟩:=hf' _ (look_mem hu)
        rw [hb] at h5;cases h5
        simp only at h4;subst h4;exact .inr rfl
    rcases hcase with hc | hc
    · obtain ⟨G2,k1,k2,k3,_⟩:=h2.freeze hc
      refine ⟨G2,fun k o z hz=>k1 k o z (h1 k o z hz),k2,fun k o z hz=>?_⟩
      rcases k3 k o z hz with h6 | ⟨h6,h7⟩
      · exact h3 k o z h6
      · exact .inr ⟨b,_,hb,h6,h7⟩
    · refine ⟨G1,h1,h2.of_look fun d=>?_,h3⟩
      rw [List.cons_append,look_cons]
      split
      · rename_i hd;subst hd;exact hc.symm
      · rfl
theorem RepC.empty [LLaws L]{g:Gh}{e:TypeId}{v:Value}{l:L}(hc:RepC g (.fc0 e:C L) v)(hl:LI.mkL e []=some l):RepI g.G (.fz l) v:=by
  obtain ⟨a,rfl⟩:=hc
  have he:LI.els l=[]:=List.eq_nil_of_length_eq_zero (LLaws.mkL e [] l hl).length.symm
  exact .fz (k:=0) (o:=0) (vals:=fun _ _=>.nilFunc) (by simp [he]) (Nat.le_refl _) (by simp) (by simp [he]) (by simp [he])
theorem listOf_frz {h:Hp L}{c:C L}{l:L}{u:Hp L}(hl:listOf h c=some (l,u)):Frz h u:=by
  unfold listOf at hl
  split at hl
  · cases hl;exact .nil h
  · rename_i b
    split at hl
    · rename_i hb;cases hl
      intro p hp;simp at hp;subst hp;exact ⟨_,_,rfl,hb⟩
    · cases hl;exact .nil h
    · rename_i b0 k hb
      split at hl
      · rename_i hb0;cases hl
        intro p hp;simp at hp;subst hp;exact ⟨_,_,rfl,hb0⟩
      · cases hl;exact .nil h
      · cases hl
    · rename_i b0 z lo hi hb
      split at hl
      · rename_i e l0 hb0
        cases hz:Nat.beq z (LI.sz l0) with
        | false=>rw [hz] at hl;cases hl
        | true =>
          rw [hz] at hl;cases hl
          intro p hp;simp at hp;subst hp;exact ⟨_,_,rfl,hb0⟩
      · rename_i e l0 tip hb0
        cases hz:Nat.beq z (LI.sz l0) with
        | false=>rw [hz] at hl;cases hl
        | true=>rw [hz] at hl;cases hl;exact .nil h
      · cases hl
    · cases hl
  · cases hl;exact .nil h
  · split at hl
    · cases hl;exact .nil h
    · cases hl
  · cases hl
theorem RepI.sub [LLaws L]{G:Fz}{l:L}{a:Option Addr}{n cap:Nat}(h:RepI G (.fz l) (.slice a n cap)){lo hi m:Nat}(h1:lo≤hi)(h2:hi≤n)(h3:hi≤m) :
    RepI G (.fz (LI.sub l lo hi)) (.slice (if m=lo then a else a.map (·.add (lo * LI.sz l))) (hi - lo) (m - lo)):=by
  cases h with
  | @fz _ _ _ _ k o vals hn hc ha hG hx =>
    obtain ⟨he,hs⟩:=LLaws.sub l lo hi
    have key:∀ (i:Nat) cs,(LI.els (LI.sub l lo hi))[i]?=some cs→(LI.els l)[lo+i]?=some cs:=by
      intro i cs hi'
      rw [he,List.getElem?_drop] at hi'
      rw [List.getElem?_take] at hi'
      split at hi'
      · exact hi'
      · cases hi'
    refine .fz (k:=k) (o:=o+lo * LI.sz l) (vals:=fun i j=>vals (lo+i) j) ?_ (by omega) ?_ ?_ ?_
    · rw [he];simp;omega
    · intro hpos
      have hm:m≠lo:=by omega
      rw [if_neg hm,ha (by omega)]
      simp only [Option.map_some]
      congr 1
      unfold Addr.add
      split
      · rename_i h0;simp [h0]
      · rfl
    · intro i j cs x hi' hj
      have:=hG (lo+i) j cs x (key i cs hi') hj
      rw [hs]
      have e:o+lo * LI.sz l+i * LI.sz l+j=o+(lo+i) * LI.sz l+j:=by rw [Nat.add_mul];omega
      rw [e];exact this
    · intro i j cs x hi' hj
      exact hx (lo+i) j cs x (key i cs hi') hj
theorem listOf_rep [LLaws L]{U:Nat→Prop}{g:Gh}{B:Nat}{h u u':Hp L}{w:World}{c:C L}{l:L}{v:Value}(hl:listOf h c=some (l,u))(hf:Frz h u')(hsub:∀ p∈u,p∈u')
    (hr:RepH U g B (u'++h) w) (hc:RepC g c v):RepI g.G (.fz l) v:=by
  unfold listOf at hl
  split at hl
  · cases hl;exact hc
  · rename_i b
    simp only [RepC] at hc;subst hc
    have keep:∀ {d:Nat} {en:En L},look h d=some en→(∀ (e:TypeId) (l:L),en≠En.arr e l)→look (u'++h) d=some en:=by
      intro d en hd hne
      rw [look_append]
      cases hu:look u' d with
      | none=>exact hd
      | some y =>
        obtain ⟨e,l,_,h5⟩:=hf _ (look_mem hu)
        rw [hd] at h5;cases h5;exact absurd rfl (hne e l)
    split at hl
    · rename_i e l' hb;cases hl
      obtain ⟨e',l2,h1,h2,h3⟩:=hf.look_of (hsub (b,.fro e l true) (by simp))
      cases h2
      exact (hr.ent b _ h3).1
    · rename_i e l' tip hb;cases hl
      exact (hr.ent b _ (keep hb (by intro _ _ h;cases h))).1
    · rename_i b0 k hb
      have hb':=keep hb (by intro _ _ h;cases h)
      split at hl
      · rename_i e l0 hb0;cases hl
        obtain ⟨e',l2,h1,h2,h3⟩:=hf.look_of (hsub (b0,.fro e l0 true) (by simp))
        cases h2
        obtain ⟨hk,hsv⟩:=hr.preOf hb' (.inr ⟨true,h3⟩)
        have hI:=(hr.ent b0 _ h3).1
        have hcap:(LI.els l0).length≤(g.sv b0).2.2:=by unfold Gh.v at hI;cases hI with | fz hn hc _ _ _=>omega
        have hn:(g.sv b0).2.1=(LI.els l0).length:=by unfold Gh.v at hI;cases hI with | fz hn hc _ _ _=>exact hn
        have:=RepI.sub (lo:=0) (hi:=k) (m:=(g.sv b0).2.2) hI (Nat.zero_le _) (by omega) (by omega)
        unfold Gh.v;rw [hsv]
        simp only [Nat.zero_mul,Nat.sub_zero] at this
        have e1:(if (g.sv b0).2.2=0 then (g.sv b0).1 else (g.sv b0).1.map (·.add 0))=(g.sv b0).1:=by
          split
          · rfl
          · cases (g.sv b0).1<;>simp [Addr.add]
        rw [e1] at this;exact this
      · rename_i e l0 tip hb0;cases hl
        have h3:=keep hb0 (by intro _ _ h;cases h)
        obtain ⟨hk,hsv⟩:=hr.preOf hb' (.inr ⟨tip,h3⟩)
        have hI:=(hr.ent b0 _ h3).1
        have hcap:(LI.els l0).length≤(g.sv b0).2.2:=by unfold Gh.v at hI;cases hI with | fz hn hc _ _ _=>omega
        have hn:(g.sv b0).2.1=(LI.els l0).length:=by unfold Gh.v at hI;cases hI with | fz hn hc _ _ _=>exact hn
        have:=RepI.sub (lo:=0) (hi:=k) (m:=(g.sv b0).2.2) hI (Nat.zero_le _) (by omega) (by omega)
        unfold Gh.v;rw [hsv]
        simp only [Nat.zero_mul,Nat.sub_zero] at this
        have e1:(if (g.sv b0).2.2=0 then (g.sv b0).1 else (g.sv b0).1.map (·.add 0))=(g.sv b0).1:=by
          split
          · rfl
          · cases (g.sv b0).1<;>simp [Addr.add]
        rw [e1] at this;exact this
      · cases hl
    · rename_i b0 z lo hi hb
      have hb':=keep hb (by intro _ _ h;cases h)
      have fin:∀ (e:TypeId) (l0:L),z=LI.sz l0→RepI g.G (.fz l0) (g.v b0)→(lo≤hi∧hi≤(LI.els l0).length∧g.sv b=(if (g.sv b0).2.2=lo then (g.sv b0).1 else (g.sv b0).1.map (·.add (lo * z)),hi - lo,(g.sv b0).2.2 - lo))→RepI g.G (.fz (LI.sub l0 lo hi)) (g.v b):=by
        intro e l0 hz hI ⟨h1,h2,hsv⟩
        have hcap:(LI.els l0).length≤(g.sv b0).2.2:=by unfold Gh.v at hI;cases hI with | fz hn hc _ _ _=>omega
        have hn:(g.sv b0).2.1=(LI.els l0).length:=by unfold Gh.v at hI;cases hI with | fz hn hc _ _ _=>exact hn
        have:=RepI.sub (lo:=lo) (hi:=hi) (m:=(g.sv b0).2.2) hI h1 (by omega) (by omega)
        unfold Gh.v;rw [hsv,hz]
        exact this
      split at hl
      · rename_i e l0 hb0
        cases hz:Nat.beq z (LI.sz l0) with
        | false=>rw [hz] at hl;cases hl
        | true =>
          rw [hz] at hl;cases hl
          obtain ⟨e',l2,h1,h2,h3⟩:=hf.look_of (hsub (b0,.fro e l0 true) (by simp))
          cases h2
          exact fin e l0 (Nat.eq_of_beq_eq_true hz) (hr.ent b0 _ h3).1 (hr.winOf hb' (.inr ⟨true,h3⟩))
      · rename_i e l0 tip hb0
        cases hz:Nat.beq z (LI.sz l0) with
        | false=>rw [hz] at hl;cases hl
        | true =>
          rw [hz] at hl;cases hl
          have h3:=keep hb0 (by intro _ _ h;cases h)
          exact fin e l0 (Nat.eq_of_beq_eq_true hz) (hr.ent b0 _ h3).1 (hr.winOf hb' (.inr ⟨tip,h3⟩))
      · cases hl
    · cases hl
  · cases hl;exact hc.1
  · rename_i e
    split at hl
    · rename_i l' hl';cases hl
      exact RepC.empty hc hl'
    · cases hl
  · cases hl
theorem toI_frz {h:Hp L}{c:C L}{x:I L}{u:Hp L}(ht:toI h c=some (x,u)):Frz h u:=by
  unfold toI at ht
  split at ht
  · cases ht;exact .nil h
  · split at ht
    · rename_i hl;cases ht;exact listOf_frz hl
    · cases ht
  · cases ht;exact .nil h
  · split at ht
    · cases ht;exact .nil h
    · cases ht
  · cases ht
theorem toI_rep [LLaws L]{U:Nat→Prop}{g:Gh}{B:Nat}{h u u':Hp L}{w:World}{c:C L}{x:I L}{v:Value}(ht:toI h c=some (x,u))(hf:Frz h u')(hsub:∀ p∈u,p∈u')
    (hr:RepH U g B (u'++h) w) (hc:RepC g c v):RepI g.G x v:=by
  unfold toI at ht
  split at ht
  · cases ht;exact hc
  · split at ht
    · rename_i hl;cases ht;exact listOf_rep hl hf hsub hr hc
    · cases ht
  · cases ht;exact hc.1
  · split at ht
    · rename_i l' hl';cases ht;exact RepC.empty hc hl'
    · cases ht
  · cases ht
theorem toIs_frz {h:Hp L}:∀ {cs:List (C L)} {xs:List (I L)} {u:Hp L},toIs h cs=some (xs,u)→Frz h u
  | [],xs,u,ht=>by simp [toIs] at ht;obtain ⟨_,rfl⟩:=ht;exact .nil h
  | c::cs,xs,u,ht=>by
    simp only [toIs] at ht
    split at ht
    · rename_i x u1 xs' v h1 h2;cases ht;exact (toI_frz h1).append (toIs_frz h2)
    · cases ht
theorem toIs_rep [LLaws L]{U:Nat→Prop}{g:Gh}{B:Nat}{h u':Hp L}{w:World}(hf:Frz h u')(hr:RepH U g B (u'++h) w) :
    ∀ {cs:List (C L)} {xs:List (I L)} {u:Hp L} {vs:List Value},toIs h cs=some (xs,u)→(∀ p∈u,p∈u')→All2 (RepC g) cs vs→All2 (RepI g.G) xs vs
  | [],xs,u,vs,ht,_,hc=>by simp [toIs] at ht;obtain ⟨rfl,_⟩:=ht;cases hc;exact .nil
  | c::cs,xs,u,vs,ht,hsub,hc=>by
    simp only [toIs] at ht
    split at ht
    · rename_i x u1 xs' v h1 h2;cases ht
      cases hc with
      | cons ha ht'=>exact .cons (toI_rep h1 hf (fun p hp=>hsub p (by simp [hp])) hr ha) (toIs_rep hf hr h2 (fun p hp=>hsub p (by simp [hp])) ht')
    · cases ht
end Go.Ev
/- New variables, stores into variables, loads. -/
namespace Go.Ev
variable {L:Type} [LI L]
theorem ownsRow_frame {w w':World}{B:Nat}{e:TypeId}{s:Nat}{v:Value}{n:Nat}{xs:List Value}(h:w.ownsRow B e s v n xs)(hk:∀ k,v.ownBlock=some k→w'.heap[k]?=w.heap[k]?):w'.ownsRow B e s v n xs:=by
 refine ⟨h.1,?_⟩
 rcases h.2 with h2 | ⟨k,cap,cur,hv,hb,hg,rest⟩
 ·exact .inl h2
 ·refine .inr ⟨k,cap,cur,hv,hb,?_,rest⟩
  rw [hk k (by rw [hv];rfl)];exact hg
theorem RepEn.frame {g:Gh}{w w':World}{B c:Nat}{en:En L}(h:RepEn g w B c en)(hk:Owns g c en→w'.heap[g.blk c]?=w.heap[g.blk c]?):RepEn g w' B c en:=by
 cases en with
 | var cs t=>obtain ⟨vs,h1,h2⟩:=h;exact ⟨vs,by rw [hk trivial];exact h1,h2⟩
 | arr e l =>
  obtain ⟨xs,h1,h2,h3⟩:=h
  refine ⟨xs,ownsRow_frame h1 fun k hk'=>?_,h2,h3⟩
  have:=h3 k hk';subst this
  exact hk (by simp [Owns,hk'])
 | fro e l tip =>
  obtain ⟨h0,h⟩:=h
  refine ⟨h0,fun ht=>?_⟩
  obtain ⟨xs,h1,h2,h3⟩:=h ht
  refine ⟨xs,ownsRow_frame h1 fun k hk'=>?_,h2,h3⟩
  have:=h3 k hk';subst this
  exact hk (by simp [Owns,hk',ht])
 | pre _ _=>trivial
 | win _ _ _ _=>trivial
 | fvar cs=>exact h
 | dead=>trivial
theorem RepEn.mono {U:Nat→Prop}{g g':Gh}{w:World}{B c:Nat}{en:En L}(hg:GhLe U g g')(hc:U c)(hi:∀ b∈idsEn en,U b)(h:RepEn g w B c en):RepEn g' w B c en:=by
 have hv:g'.v c=g.v c:=by unfold Gh.v;rw [hg.sv c hc]
 cases en with
 | var cs t=>obtain ⟨vs,h1,h2,h3⟩:=h;exact ⟨vs,by rw [hg.blk c hc];exact h1,RepCs.mono hg hi h2,h3⟩
 | arr e l =>
  obtain ⟨xs,h1,h2,h3⟩:=h
  exact ⟨xs,by rw [hv];exact h1,h2.mono fun _ _ _ h=>h.mono hg.G,by rw [hv,hg.blk c hc];exact h3⟩
 | fro e l tip =>
  obtain ⟨h0,h⟩:=h
  refine ⟨by rw [hv];exact h0.mono hg.G,fun ht=>?_⟩
  obtain ⟨xs,h1,h2,h3⟩:=h ht
  exact ⟨xs,by rw [hv];exact h1,h2.mono fun _ _ _ h=>h.mono hg.G,by rw [hv,hg.blk c hc];exact h3⟩
 | pre _ _=>trivial
 | win _ _ _ _=>trivial
 | fvar cs=>exact fun j x hx=>let ⟨u,p,q⟩:=h j x hx;⟨u,by rw [hg.blk c hc];exact hg.G _ _ _ p,q.mono hg.G⟩
 | dead=>trivial
omit [LI L] in
theorem Owns.congr {U:Nat→Prop}{g g':Gh}(hg:GhLe U g g'){c:Nat}(hc:U c){en:En L}:Owns g' c en↔Owns g c en:=by
 have hv:g'.v c=g.v c:=by unfold Gh.v;rw [hg.sv c hc]
 cases en<;>simp [Owns,hv]
theorem RepH.lt_size {U:Nat→Prop}{g:Gh}{B:Nat}{h:Hp L}{w:World}(hr:RepH U g B h w){b:Nat}{e:En L}(hb:look h b=some e)(ho:Owns g b e):g.blk b < w.heap.size:=by
 have aux:∀ {k:Nat} {ob:Obj},w.heap[k]?=some ob→k < w.heap.size:=fun hk=>(Array.getElem?_eq_some_iff.1 hk).1
 have hrow:∀ {e s n xs},w.ownsRow B e s (g.v b) n xs→(∀ k,(g.v b).ownBlock=some k→k=g.blk b)→(g.v b).ownBlock≠none→g.blk b < w.heap.size:=by
  intro e s n xs hw h3 hne
  rcases hw.2 with ⟨hv,_⟩ | ⟨k,cap,cur,hv,_,hg,_⟩
  ·rw [hv] at hne;simp [Value.ownBlock] at hne
  ·have:k=g.blk b:=h3 k (by rw [hv];rfl)
   subst this;exact aux hg
 have he:=hr.ent b e hb
 cases e with
 | var cs t=>obtain ⟨vs,h1,_⟩:=he;exact aux h1
 | arr e l=>obtain ⟨xs,h1,_,h3⟩:=he;exact hrow h1 h3 ho
 | fro e l tip=>obtain ⟨xs,h1,_,h3⟩:=he.2 ho.1;exact hrow h1 h3 ho.2
 | pre _ _=>exact ho.elim
 | win _ _ _ _=>exact ho.elim
 | fvar _=>exact ho.elim
 | dead=>exact ho.elim
theorem RepH.setVar {U:Nat→Prop}{g:Gh}{B:Nat}{h:Hp L}{w:World}(hr:RepH U g B h w){b:Nat}{cs cs':List (C L)}{t:TypeId}{vs':List Value}(hb:look h b=some (.var cs t))
  (hc:All2 (RepC g) cs' vs') (h1:∀ v∈vs',v.oneCell'=true) (hi:∀ d∈cs'.flatMap idsC,U d):RepH U g B ((b,.var cs' t)::h) (w.setRow (g.blk b) vs'.toArray):=by
 obtain ⟨vs,hv,_,_⟩:=hr.ent b _ hb
 have hOb:Owns g b (.var cs t:En L):=trivial
 have old:∀ (d:Nat) (ed:En L),(if b=d then some (En.var cs' t) else look h d)=some ed→Owns g d ed→∃ ed',look h d=some ed'∧Owns g d ed':=by
  intro d ed hd hO
  split at hd
  ·rename_i hbd;subst hbd;exact ⟨_,hb,trivial⟩
  ·exact ⟨ed,hd,hO⟩
 refine ⟨?_,?_,?_,?_,?_,?_,?_,by simpa using hr.base⟩
 ·intro k o v hG
  have hne:k≠g.blk b:=by
   intro he;subst he
   obtain ⟨_,_,hx,_⟩:=hr.free b _ hb hOb o v hG
   cases hx
  have:=hr.fz k o v hG
  simpa [World.cell?,setRow_other w _ k _ hne] using this
 ·intro c en hce
  rw [look_cons] at hce
  split at hce
  ·rename_i hbc;subst hbc;cases hce
   exact ⟨vs',setRow_heap w _ _ _ _ _ hv,hc,h1⟩
  ·rename_i hbc
   refine (hr.ent c en hce).frame fun hO=>setRow_other w _ _ _ fun he=>?_
   exact hr.dis b c _ _ hb hce hOb hO hbc he.symm
 ·intro c en hce
  rw [look_cons] at hce
  split at hce
  ·rename_i hbc;subst hbc;cases hce;exact ⟨(hr.ids b _ hb).1,hi⟩
  ·exact hr.ids c en hce
 ·intro c c' en en' h2 h3 o1 o2 hne
  rw [look_cons] at h2 h3
  obtain ⟨e1,a1,b1⟩:=old c en h2 o1
  obtain ⟨e2,a2,b2⟩:=old c' en' h3 o2
  exact hr.dis c c' e1 e2 a1 a2 b1 b2 hne
 ·intro c en h2 hO
  rw [look_cons] at h2
  obtain ⟨e1,a1,b1⟩:=old c en h2 hO
  exact hr.own c e1 a1 b1
 ·intro c en h2 hO o v hG
  rw [look_cons] at h2
  split at h2
  ·rename_i hbc;subst hbc
   obtain ⟨_,_,hx,_⟩:=hr.free b _ hb hOb o v hG
   cases hx
  ·exact hr.free c en h2 hO o v hG
 ·intro c en h2
  rw [look_cons] at h2
  split at h2
  ·cases h2;trivial
  ·exact hr.pre c en h2
def Gh.withBlk (g:Gh)(f k:Nat):Gh:={ g with blk:=fun b=>if b=f then k else g.blk b }
theorem Gh.withBlk_le {U:Nat→Prop}{g:Gh}{f k:Nat}(hf:¬ U f):GhLe U g (g.withBlk f k) :=
 ⟨fun b hb=>by simp only [Gh.withBlk];rw [if_neg];intro h;subst h;exact hf hb,fun _ _=>rfl,fun _ _ _ h=>h⟩
theorem heap_alloc_old {w:World}{o:Obj}{k:Nat}(hk:k < w.heap.size):(w.alloc o).heap[k]?=w.heap[k]?:=by
 show (w.heap.push o)[k]?=_
 rw [Array.getElem?_push,if_neg (Nat.ne_of_lt hk)]
theorem heap_alloc_new {w:World}{o:Obj}:(w.alloc o).heap[w.heap.size]?=some o:=by
 show (w.heap.push o)[w.heap.size]?=_
 simp
theorem size_alloc' {w:World}{o:Obj}:(w.alloc o).heap.size=w.heap.size+1:=by
 show (w.heap.push o).size=_
 simp
theorem cell_lt {w:World}{k o:Nat}{v:Value}(h:w.cell? ⟨k,o,none⟩=some v):k < w.heap.size:=by
 simp only [World.cell?] at h
 rcases Nat.lt_or_ge k w.heap.size with h' | h'
 ·exact h'
 ·rw [Array.getElem?_eq_none h'] at h;simp at h
theorem RepH.alloc {U:Nat→Prop}{g:Gh}{B:Nat}{h:Hp L}{w:World}(hr:RepH U g B h w)(o:Obj):RepH U g B h (w.alloc o):=by
 refine ⟨?_,?_,hr.ids,hr.dis,hr.own,hr.free,hr.pre,by have:=hr.base;rw [size_alloc'];omega⟩
 ·intro k p v hG
  have hc:=hr.fz k p v hG
  simpa [World.cell?,heap_alloc_old (cell_lt hc)] using hc
 ·intro c en hc
  exact (hr.ent c en hc).frame fun hO=>heap_alloc_old (hr.lt_size hc hO)
theorem RepH.newVar {U:Nat→Prop}{g:Gh}{B:Nat}{h:Hp L}{w:World}(hr:RepH U g B h w){f:Nat}(hf:¬ U f){cs:List (C L)}{vs:List Value}{t:TypeId}(hc:All2 (RepC g) cs vs)(h1:∀ v∈vs,v.oneCell'=true)
  (hi:∀ d∈cs.flatMap idsC,U d) :
  RepH (fun b=>U b∨b=f) (g.withBlk f w.heap.size) B ((f,.var cs t)::h) (w.alloc (.cells vs.toArray t (0,0))):=by
 have hle:=Gh.withBlk_le (g:=g) (k:=w.heap.size) hf
 have hra:=hr.alloc (.cells vs.toArray t (0,0))
 have hnot:∀ {c en},look h c=some en→c≠f:=fun hc he=>hf (he ▸ (hr.ids _ _ hc).1)
 have hblk:(g.withBlk f w.heap.size).blk f=w.heap.size:=by simp [Gh.withBlk]
 refine ⟨hra.fz,?_,?_,?_,?_,?_,?_,hra.base⟩
 ·intro c en hce
  rw [look_cons] at hce
  split at hce
  ·rename_i hbc;subst hbc;cases hce
   exact ⟨vs,by rw [hblk];exact heap_alloc_new,RepCs.mono hle hi hc,h1⟩
  ·exact (hra.ent c en hce).mono hle (hr.ids c en hce).1 (hr.ids c en hce).2
 ·intro c en hce
  rw [look_cons] at hce
  split at hce
  ·rename_i hbc;subst hbc;cases hce
   exact ⟨.inr rfl,fun d hd=>.inl (hi d hd)⟩
  ·exact ⟨.inl (hr.ids c en hce).1,fun d hd=>.inl ((hr.ids c en hce).2 d hd)⟩
 ·intro c c' en en' h2 h3 o1 o2 hne
  rw [look_cons] at h2 h3
  have new_ne:∀ {d ed},look h d=some ed→Owns (g.withBlk f w.heap.size) d ed→(g.withBlk f w.heap.size).blk d≠w.heap.size:=by
   intro d ed hd hO he
   rw [hle.blk d (hr.ids d ed hd).1] at he
   exact Nat.lt_irrefl _ (he ▸ hr.lt_size hd ((Owns.congr hle (hr.ids d ed hd).1).1 hO))
  split at h2
  ·rename_i hbc;subst hbc
   split at h3
   ·rename_i hbc';exact absurd hbc' hne
   ·rw [hblk];exact fun he=>new_ne h3 o2 he.symm
  ·split at h3
   ·rename_i hbc';subst hbc';rw [hblk];exact new_ne h2 o1
   ·rw [hle.blk c (hr.ids _ _ h2).1,hle.blk c' (hr.ids _ _ h3).1]
    exact hr.dis c c' en en' h2 h3 ((Owns.congr hle (hr.ids _ _ h2).1).1 o1) ((Owns.congr hle (hr.ids _ _ h3).1).1 o2) hne
 ·intro c en h2 hO
  rw [look_cons] at h2
  split at h2
  ·rename_i hbc;subst hbc;rw [hblk];exact hr.base
  ·rw [hle.blk c (hr.ids _ _ h2).1];exact hr.own c en h2 ((Owns.congr hle (hr.ids _ _ h2).1).1 hO)
 ·intro c en h2 hO o v hG
  rw [look_cons] at h2
  split at h2
  ·rename_i hbc;subst hbc
   rw [hblk] at hG
   exact absurd (cell_lt (hr.fz _ _ _ hG)) (Nat.lt_irrefl _)
  ·rw [hle.blk c (hr.ids _ _ h2).1] at hG
   exact hr.free c en h2 ((Owns.congr hle (hr.ids _ _ h2).1).1 hO) o v hG
 ·intro c en h2
  rw [look_cons] at h2
  split at h2
  ·cases h2;trivial
  ·exact (hr.pre c en h2).mono hle (hr.ids c en h2).1 (hr.ids c en h2).2
end Go.Ev
/- Arrays: entries that are given up, new ones, ones whose cells change. -/
namespace Go.Ev
variable {L:Type} [LI L]
theorem RepH.kill {U:Nat→Prop}{g:Gh}{B:Nat}{h h1:Hp L}{w:World}(hr:RepH U g B h w)
  (hA:∀ c en,look h1 c=some en→look h c=some en∨(en=.dead∧∃ e',look h c=some e')):RepH U g B h1 w:=by
 have own:∀ {c en},look h1 c=some en→Owns g c en→look h c=some en:=by
  intro c en hc hO
  rcases hA c en hc with h' | ⟨rfl,_⟩
  ·exact h'
  ·exact hO.elim
 refine ⟨hr.fz,?_,?_,fun b b' e e' h1 h2 o1 o2=>hr.dis b b' e e' (own h1 o1) (own h2 o2) o1 o2,fun b e hb hO=>hr.own b e (own hb hO) hO,fun b e hb hO=>hr.free b e (own hb hO) hO,?_,hr.base⟩
 ·intro c en hc
  rcases hA c en hc with h' | ⟨rfl,_⟩
  ·exact hr.ent c en h'
  ·trivial
 ·intro c en hc
  rcases hA c en hc with h' | ⟨rfl,e',h'⟩
  ·exact hr.ids c en h'
  ·exact ⟨(hr.ids c _ h').1,by simp [idsEn]⟩
 ·intro c en hc
  rcases hA c en hc with h' | ⟨rfl,_⟩
  ·exact hr.pre c en h'
  ·trivial
def Gh.withRow (g:Gh)(f k:Nat)(s:Option Addr×Nat×Nat):Gh:={ g with blk:=fun b=>if b=f then k else g.blk b,sv:=fun b=>if b=f then s else g.sv b }
theorem Gh.withRow_le {U:Nat→Prop}{g:Gh}{f k:Nat}{s:Option Addr×Nat×Nat}(hf:¬ U f):GhLe U g (g.withRow f k s) :=
 ⟨fun b hb=>by simp only [Gh.withRow];rw [if_neg];intro h;subst h;exact hf hb,fun b hb=>by simp only [Gh.withRow];rw [if_neg];intro h;subst h;exact hf hb,fun _ _ _ h=>h⟩
theorem RepH.addRow {U:Nat→Prop}{g:Gh}{B:Nat}{h:Hp L}{w w':World}(hr:RepH U g B h w){f:Nat}(hf:¬ U f){k:Nat}(hk:B≤k)
  (hown:∀ c en,look h c=some en→Owns g c en→g.blk c≠k) (hG:∀ o v,g.G k o=some v→False) (hfr:∀ j,j < w.heap.size→j≠k→((∃ c en,look h c=some en∧Owns g c en∧g.blk c=j)∨∃ o v,g.G j o=some v)→w'.heap[j]?=w.heap[j]?) (hsz:w.heap.size≤w'.heap.size)
  {s:Option Addr×Nat×Nat} {e:TypeId} {l:L} {xs:List Value} (hrow:w'.ownsRow B e (LI.sz l) (.slice s.1 s.2.1 s.2.2) (LI.els l).length xs) (hxs:RepIs g.G (LI.els l).flatten xs)
  (hb:∀ j,(Value.slice s.1 s.2.1 s.2.2).ownBlock=some j→j=k) :
  RepH (fun b=>U b∨b=f) (g.withRow f k s) B ((f,.arr e l)::h) w':=by
 have hle:=Gh.withRow_le (g:=g) (k:=k) (s:=s) hf
 have hblk:(g.withRow f k s).blk f=k:=by simp [Gh.withRow]
 have hsv:(g.withRow f k s).v f=.slice s.1 s.2.1 s.2.2:=by simp [Gh.withRow,Gh.v]
 refine ⟨?_,?_,?_,?_,?_,?_,?_,Nat.le_trans hr.base hsz⟩
 ·intro j o v hv
  have hc:=hr.fz j o v hv
  have hne:j≠k:=by intro he;subst he;exact hG o v hv
  simpa [World.cell?,hfr j (cell_lt hc) hne (.inr ⟨o,v,hv⟩)] using hc
 ·intro c en hce
  rw [look_cons] at hce
  split at hce
  ·rename_i hbc;subst hbc;cases hce
   exact ⟨xs,by rw [hsv];exact hrow,hxs,by rw [hsv,hblk];exact hb⟩
  ·refine RepEn.mono hle (hr.ids c en hce).1 (hr.ids c en hce).2 ((hr.ent c en hce).frame fun hO=>?_)
   exact hfr _ (hr.lt_size hce hO) (hown c en hce hO) (.inl ⟨c,en,hce,hO,rfl⟩)
 ·intro c en hce
  rw [look_cons] at hce
  split at hce
  ·rename_i hbc;subst hbc;cases hce;exact ⟨.inr rfl,by simp [idsEn]⟩
  ·exact ⟨.inl (hr.ids c en hce).1,fun d hd=>.inl ((hr.ids c en hce).2 d hd)⟩
 ·intro c c' en en' h2 h3 o1 o2 hne
  rw [look_cons] at h2 h3
  have new_ne:∀ {d ed},look h d=some ed→Owns (g.withRow f k s) d ed→(g.withRow f k s).blk d≠k:=by
   intro d ed hd hO
   rw [hle.blk d (hr.ids d ed hd).1]
   exact hown d ed hd ((Owns.congr hle (hr.ids d ed hd).1).1 hO)
  split at h2
  ·rename_i hbc;subst hbc
   split at h3
   ·rename_i hbc';exact absurd hbc' hne
   ·rw [hblk];exact fun he=>new_ne h3 o2 he.symm
  ·split at h3
   ·rename_i hbc';subst hbc';rw [hblk];exact new_ne h2 o1
   ·rw [hle.blk c (hr.ids _ _ h2).1,hle.blk c' (hr.ids _ _ h3).1]
    exact hr.dis c c' en en' h2 h3 ((Owns.congr hle (hr.ids _ _ h2).1).1 o1) ((Owns.congr hle (hr.ids _ _ h3).1).1 o2) hne
 ·intro c en h2 hO
  rw [look_cons] at h2
  split at h2
  ·rename_i hbc;subst hbc;rw [hblk];exact hk
  ·rw [hle.blk c (hr.ids _ _ h2).1];exact hr.own c en h2 ((Owns.congr hle (hr.ids _ _ h2).1).1 hO)
 ·intro c en h2 hO o v hv
  rw [look_cons] at h2
  split at h2
  ·rename_i hbc;subst hbc
   rw [hblk] at hv;exact (hG o v hv).elim
  ·rw [hle.blk c (hr.ids _ _ h2).1] at hv
   exact hr.free c en h2 ((Owns.congr hle (hr.ids _ _ h2).1).1 hO) o v hv
 ·intro c en h2
  rw [look_cons] at h2
  split at h2
  ·cases h2;trivial
  ·exact (hr.pre c en h2).mono hle (hr.ids _ _ h2).1 (hr.ids _ _ h2).2
theorem RepH.setArr {U:Nat→Prop}{g:Gh}{B:Nat}{h:Hp L}{w w':World}(hr:RepH U g B h w){b:Nat}{e:TypeId}{l l':L}(hb:look h b=some (.arr e l))(_hlen:(LI.els l').length=(LI.els l).length)
  {xs:List Value} (hfr:∀ j,j < w.heap.size→(Owns g b (.arr e l:En L)→j≠g.blk b)→w'.heap[j]?=w.heap[j]?) (hsz:w.heap.size≤w'.heap.size)
  (hrow:w'.ownsRow B e (LI.sz l') (g.v b) (LI.els l').length xs) (hxs:RepIs g.G (LI.els l').flatten xs):RepH U g B ((b,.arr e l')::h) w':=by
 obtain ⟨_,_,_,hbk⟩:=hr.ent b _ hb
 have old:∀ (d:Nat) (ed:En L),(if b=d then some (En.arr e l') else look h d)=some ed→Owns g d ed→∃ ed',look h d=some ed'∧Owns g d ed':=by
  intro d ed hd hO
  split at hd
  ·rename_i hbd;subst hbd;cases hd;exact ⟨_,hb,hO⟩
  ·exact ⟨ed,hd,hO⟩
 refine ⟨?_,?_,?_,?_,?_,?_,?_,Nat.le_trans hr.base hsz⟩
 ·intro j o v hv
  have hc:=hr.fz j o v hv
  have:w'.heap[j]?=w.heap[j]?:=by
   refine hfr j (cell_lt hc) fun hO he=>?_
   subst he
   obtain ⟨_,_,hx,_⟩:=hr.free b _ hb hO o v hv
   cases hx
  simpa [World.cell?,this] using hc
 ·intro c en hce
  rw [look_cons] at hce
  split at hce
  ·rename_i hbc;subst hbc;cases hce;exact ⟨xs,hrow,hxs,hbk⟩
  ·rename_i hbc
   exact (hr.ent c en hce).frame fun hO=>hfr _ (hr.lt_size hce hO) fun hO' he=>hr.dis b c _ en hb hce hO' hO hbc he.symm
 ·intro c en hce
  rw [look_cons] at hce
  split at hce
  ·rename_i hbc;subst hbc;cases hce;exact ⟨(hr.ids b _ hb).1,by simp [idsEn]⟩
  ·exact hr.ids c en hce
 ·intro c c' en en' h2 h3 o1 o2 hne
  rw [look_cons] at h2 h3
  obtain ⟨e1,a1,b1⟩:=old c en h2 o1
  obtain ⟨e2,a2,b2⟩:=old c' en' h3 o2
  exact hr.dis c c' e1 e2 a1 a2 b1 b2 hne
 ·intro c en h2 hO
  rw [look_cons] at h2
  obtain ⟨e1,a1,b1⟩:=old c en h2 hO
  exact hr.own c e1 a1 b1
 ·intro c en h2 hO o v hv
  rw [look_cons] at h2
  split at h2
  ·rename_i hbc;subst hbc;cases h2
   obtain ⟨_,_,hx,_⟩:=hr.free b _ hb hO o v hv
   cases hx
  ·exact hr.free c en h2 hO o v hv
 ·intro c en h2
  rw [look_cons] at h2
  split at h2
  ·cases h2;trivial
  ·exact hr.pre c en h2
open Go.RowKit in
theorem RepH.later {U:Nat→Prop}{g:Gh}{B:Nat}{h:Hp L}{w w':World}(hr:RepH U g B h w)(hb:Below w.heap.size w w'){G':Fz}(hle:FzLe g.G G')(hnew:∀ k o v,G' k o=some v→g.G k o=some v∨w.heap.size≤k)
  (hs:∀ k o v,G' k o=some v→w'.cell? ⟨k,o,none⟩=some v):RepH U { g with G:=G' } B h w':=by
 have hgl:GhLe (fun _=>True) g { g with G:=G' }:=⟨fun _ _=>rfl,fun _ _=>rfl,hle⟩
 have own:∀ {c:Nat} {en:En L},Owns ({ g with G:=G' }:Gh) c en↔Owns g c en:=fun {c en}=>Owns.congr hgl trivial
 refine ⟨hs,?_,hr.ids,fun b b' e e' h1 h2 o1 o2=>hr.dis b b' e e' h1 h2 (own.1 o1) (own.1 o2),fun b e hb' hO=>hr.own b e hb' (own.1 hO),?_,fun b e hb'=>Alias.cg rfl rfl (hr.pre b e hb'),Nat.le_trans hr.base hb.size⟩
 ·intro c en hc
  exact RepEn.mono hgl trivial (fun _ _=>trivial) ((hr.ent c en hc).frame fun hO=>hb.block _ (hr.lt_size hc hO))
 ·intro b e hb' hO o v hG
  rcases hnew _ _ _ hG with h1 | h1
  ·exact hr.free b e hb' (own.1 hO) o v h1
  ·exact absurd (hr.lt_size hb' (own.1 hO)) (by have:w.heap.size≤g.blk b:=h1;omega)
end Go.Ev
/- Operations on variables: new ones, loads, stores. -/
namespace Go.Ev
variable {L:Type} [LI L]
theorem intV_val {G:Fz}{x:I L}{a:IntV}{v:Value}(h:intV x=some a)(hv:RepI G x v):v=.int a.k a.n:=by
 cases hv<;>simp [intV] at h<;>subst h<;>rfl
theorem boolV_val {G:Fz}{x:I L}{a:Bool×Bool}{v:Value}(h:boolV x=some a)(hv:RepI G x v):v=.bool a.1:=by
 cases hv<;>simp [boolV] at h<;>subst h<;>rfl
theorem RepI.ofList {G:Fz}{a l:L}{v:Value}(he:LI.els l=LI.els a)(hs:LI.sz l=LI.sz a)(h:RepI G (.fz a) v):RepI G (.fz l) v:=by
 cases h with
 | fz hn hc ha hG hx=>exact .fz (by rw [he];exact hn) hc ha (by rw [he,hs];exact hG) (by rw [he];exact hx)
theorem mI_rep [LLaws L]{c:Bool}{x y z:I L}(h:mI c x y=some z){G:Fz}{v:Value}:(c=true→RepI G x v→RepI G z v)∧(c=false→RepI G y v→RepI G z v):=by
 unfold mI at h
 split at h
 ·rename_i a b ha hb
  cases hk:keq a.k b.k with
  | false=>rw [hk] at h;cases h
  | true =>
   rw [hk] at h;cases h
   have hkk:a.k=b.k:=by revert hk;cases a.k<;>cases b.k<;>simp [keq]
   constructor
   ·rintro rfl hv;rw [intV_val ha hv];exact .int
   ·rintro rfl hv;rw [intV_val hb hv,← hkk];exact .int
 ·split at h
  ·rename_i a b ha hb
   cases h
   constructor
   ·rintro rfl hv;rw [boolV_val ha hv];exact .bool
   ·rintro rfl hv;rw [boolV_val hb hv];exact .bool
  ·split at h
   ·cases h
    constructor
    ·rintro rfl hv;cases hv;exact .str
    ·rintro rfl hv;cases hv;exact .str
   ·rename_i a b _ _
    split at h
    ·rename_i l hl
     cases h
     obtain ⟨h1,h2⟩:=LLaws.mrg _ _ _ _ hl
     constructor
     ·rintro rfl hv;exact hv.ofList h1 h2
     ·rintro rfl hv;exact hv.ofList h1 h2
    ·cases h
   ·cases h
theorem All2.splice {α β:Type}{R:α→β→Prop}{as bs:List α}{xs ys:List β}(h:All2 R as xs)(k:All2 R bs ys)(off:Nat):All2 R (splice as off bs) (xs.take off++ys++xs.drop (off+ys.length)):=by
 unfold Ev.splice
 rw [k.length]
 exact ((h.take off).append k).append (h.drop _)
theorem Post.of_freeze {U:Nat→Prop}{g g':Gh}{B:Nat}{h u:Hp L}{w w':World}{fresh:Nat}{x:X L}{v:Value}(hf:Frz h u)
  (hblk:g'.blk=g.blk) (hsv:g'.sv=g.sv) (hle:FzLe g.G g'.G) (hnf:∀ k o z,g'.G k o=some z→g.G k o=some z∨∃ b e,look h b=some e∧Owns g b e∧g.blk b=k)
  (hh:RepH U g' B (u++h) w') (hx:RepX g' x v) (hi:∀ b∈idsX x,U b) (hs:Same w w') (hfr:∀ k,k < w.heap.size→w'.heap[k]?=w.heap[k]?):Post U g B h fresh w x u v w' g':=by
 refine ⟨⟨fun b _=>by rw [hblk],fun b _=>by rw [hsv],hle⟩,hx,fun b hb=>.inl (hi b hb),hh.weaken fun _=>.inl,fun k o z hz=>(hnf k o z hz).imp id .inl,?_,hs,fun k hk _=>hfr k hk,?_⟩
 ·intro b e hb hO
  refine .inl ?_
  have hv:g'.v b=g.v b:=by unfold Gh.v;rw [hsv]
  rcases hf.at_ hb with h1 | ⟨t,l,h1,rfl⟩
  ·refine ⟨b,e,h1,?_,by rw [hblk]⟩
   cases e<;>first | exact hO | (simp only [Owns,hv] at hO ⊢;exact hO)
  ·exact ⟨b,_,h1,by simpa [Owns,hv] using hO,by rw [hblk]⟩
 ·intro b e hb
  obtain ⟨t,l,_,h1⟩:=hf _ (look_mem hb)
  exact .inr ⟨_,h1⟩
theorem tab_info {P:Program}{T:Tab}(hT:TabOK P T){t:TypeId}{i:TI}(h:T t=some i) :
  ∃ info d,P.info? t=some info∧P.underlying t=some d∧i.ty=descTy d∧i.size=info.size∧i.bytes=info.bytes∧i.zero=info.zero.map (fun z=>z.cells.toList):=by
 have h2:=hT t i h
 unfold tiOf at h2
 split at h2
 ·rename_i info d h3 h4;cases h2;exact ⟨info,d,h3,h4,rfl,rfl,rfl,rfl⟩
 ·cases h2
theorem run_isAgg {P:Program}{T:Tab}(hT:TabOK P T){t:TypeId}{i:TI}(h:T t=some i)(w:World):(isAgg t).run P w=.ok i.isAgg w:=by
 obtain ⟨info,d,h1,h2,h3,_⟩:=tab_info hT h
 simp only [isAgg,Sem.run_bind,run_underlying h2,Result.andThen_ok,TI.isAgg,h3]
 cases d<;>rfl
theorem run_size {P:Program}{T:Tab}(hT:TabOK P T){t:TypeId}{i:TI}(h:T t=some i)(w:World):(sizeOf t).run P w=.ok i.size w:=by
 obtain ⟨info,d,h1,_,_,h4,_⟩:=tab_info hT h
 rw [run_sizeOf w h1,h4]
 simp [Program.cellsOf,h1]
def Fine (U:Nat→Prop)(g:Gh)(B:Nat)(h:Hp L)(fresh:Nat)(w:World)(r:Result Next)(x:X L)(u:Hp L):Prop :=
 ∃ n v w' g',r=.ok n w'∧(n=.value v∨(n=.skip∧v=undef))∧Post U g B h fresh w x u v w' g'
theorem addr_add (k o n:Nat):(⟨k,o,none⟩:Addr).add n=⟨k,o+n,none⟩:=by
 unfold Addr.add;split
 ·rename_i h;simp [h]
 ·rfl
omit [LI L] in
theorem part_eq {agg:Bool}{cs:List (C L)}{off n:Nat}{s:S L}(h:part agg cs off n=some s) :
  (agg=true∧off+n≤cs.length∧s=.agg ((cs.drop off).take n))∨(agg=false∧∃ x,cs[off]?=some x∧s=.c x):=by
 unfold part at h
 cases agg with
 | true =>
  simp only [cond_true] at h
  cases hb:Nat.ble (off+n) cs.length with
  | true=>rw [hb] at h;simp at h;exact .inl ⟨rfl,Nat.le_of_ble_eq_true hb,h.symm⟩
  | false=>rw [hb] at h;simp at h
 | false =>
  simp only [cond_false] at h
  split at h
  ·rename_i x r hd;cases h
   refine .inr ⟨rfl,x,?_,rfl⟩
   have:(cs.drop off)[0]?=some x:=by rw [hd];rfl
   simpa using this
  ·cases h
theorem load_part {P:Program}{T:Tab}(hT:TabOK P T){t:TypeId}{i:TI}(ht:T t=some i){g:Gh}{w:World}{cs:List (C L)}{vs:List Value}(hc:All2 (RepC g) cs vs){k o off:Nat}
  (hcell:∀ (j:Nat) v,vs[j]?=some v→w.cell? ⟨k,o+j,none⟩=some v) {s:S L} (hp:part i.isAgg cs off i.size=some s) :
  ∃ v,(Instr.loadAt t (.pointer (some ⟨k,o+off,none⟩))).run P w=.ok v w∧RepS g s v:=by
 rcases part_eq hp with ⟨ha,hle,rfl⟩ | ⟨ha,x,hx,rfl⟩
 ·refine ⟨.agg ((vs.drop off).take i.size).toArray,?_,_,rfl,(hc.drop off).take i.size⟩
  have hl:((vs.drop off).take i.size).length=i.size:=by have:=hc.length;simp;omega
  have hr:=run_loadCells_list (P:=P) w ⟨k,o+off,none⟩ ((vs.drop off).take i.size) (fun j v hj=>by
   rw [addr_add,Nat.add_assoc]
   refine hcell (off+j) v ?_
   rw [List.getElem?_take] at hj
   split at hj
   ·rw [List.getElem?_drop] at hj;exact hj
   ·cases hj)
  rw [hl] at hr
  simp [Instr.loadAt,Instr.sureAddr,loadVar,run_isAgg hT ht,ha,run_size hT ht,hr]
 ·obtain ⟨v,hv,hR⟩:=hc.get hx
  refine ⟨v,?_,hR⟩
  simp [Instr.loadAt,Instr.sureAddr,loadVar,run_isAgg hT ht,ha,load,Sem.run,hcell off v hv]
omit [LI L] in
theorem part_ids {agg:Bool}{cs:List (C L)}{off n:Nat}{s:S L}(h:part agg cs off n=some s):∀ b∈idsS s,b∈cs.flatMap idsC:=by
 intro b hb
 rcases part_eq h with ⟨_,_,rfl⟩ | ⟨_,x,hx,rfl⟩
 ·simp only [idsS,cellsOf,List.mem_flatMap] at hb ⊢
  obtain ⟨c,hc,hm⟩:=hb
  exact ⟨c,List.mem_of_mem_drop (List.mem_of_mem_take hc),hm⟩
 ·simp only [idsS,cellsOf,List.flatMap_cons,List.flatMap_nil,List.append_nil] at hb
  exact List.mem_flatMap.2 ⟨x,List.mem_of_getElem? hx,hb⟩
omit [LI L] in
theorem ids_ims (cs:List (I L)):(ims cs).flatMap idsC=[]:=by
 simp [ims,idsC]
theorem rep_ims {g:Gh}{xs:List (I L)}{vs:List Value}(h:All2 (RepI g.G) xs vs):All2 (RepC g) (ims xs) vs:=by
 induction h with
 | nil=>exact .nil
 | cons h _ ih=>exact .cons h ih
theorem arr_elem [LLaws L]{g:Gh}{w:World}{B:Nat}{e:TypeId}{l:L}{v:Value}{xs:List Value}(ho:w.ownsRow B e (LI.sz l) v (LI.els l).length xs)(hx:RepIs g.G (LI.els l).flatten xs)
  {i:Nat} {cs:List (I L)} (hi:(LI.els l)[i]?=some cs):∃ k cap,v=.slice (some ⟨k,0,none⟩) (LI.els l).length cap ∧
   ∃ vs:List Value,All2 (RepI g.G) cs vs∧∀ (j:Nat) u,vs[j]?=some u→w.cell? ⟨k,i * LI.sz l+j,none⟩=some u:=by
 rcases own_cells ho hx with ⟨_,he⟩ | ⟨k,cap,hv,_,_,_,hcell,hlen⟩
 ·rw [he] at hi;simp at hi
 ·refine ⟨k,cap,hv,(xs.drop (i * LI.sz l)).take (LI.sz l),?_,?_⟩
  ·have hcs:cs.length=LI.sz l:=LLaws.size l cs (List.mem_of_getElem? hi)
   have hilt:i < (LI.els l).length:=(List.getElem?_eq_some_iff.1 hi).1
   have hmul:(i+1) * LI.sz l≤(LI.els l).length * LI.sz l:=Nat.mul_le_mul_right _ hilt
   rw [Nat.succ_mul] at hmul
   refine All2.of_get (by simp;omega) fun j a b ha hb=>?_
   have hf:=flatten_get (fun c hc=>LLaws.size l c hc) hi ha
   obtain ⟨u,hu,hR⟩:=hx.get hf
   have:b=u:=by
    rw [List.getElem?_take] at hb
    split at hb
    ·rw [List.getElem?_drop,hu] at hb;exact (Option.some.inj hb).symm
    ·cases hb
   subst this;exact hR
  ·intro j u hu
   rw [List.getElem?_take] at hu
   split at hu
   ·rw [List.getElem?_drop] at hu
    have hlt:i * LI.sz l+j < xs.length:=(List.getElem?_eq_some_iff.1 hu).1
    rw [hcell _ (by omega)];exact hu
   ·cases hu
theorem mIs_rep [LLaws L]{c:Bool}:∀ {xs ys zs:List (I L)},mIs c xs ys=some zs→∀ {G:Fz} {vs:List Value},(c=true→All2 (RepI G) xs vs→All2 (RepI G) zs vs)∧(c=false→All2 (RepI G) ys vs→All2 (RepI G) zs vs)
 | [],[],zs,h,G,vs=>by cases h;exact ⟨fun _ h=>h,fun _ h=>h⟩
 | [],_::_,_,h,_,_=>by cases h
 | _::_,[],_,h,_,_=>by cases h
 | x::r,y::s,zs,h,G,vs=>by
  simp only [mIs] at h
  split at h
  ·rename_i z t hz ht
   cases h
   constructor
   ·intro hc hv
    cases hv with
    | cons a b=>exact .cons ((mI_rep hz).1 hc a) ((mIs_rep ht).1 hc b)
   ·intro hc hv
    cases hv with
    | cons a b=>exact .cons ((mI_rep hz).2 hc a) ((mIs_rep ht).2 hc b)
  ·cases h
theorem selIs_spec [LLaws L]{f:Nat→Option (List (I L)×Hp L)}{i:Int}:∀ {n j:Nat} {z:List (I L)} {u:Hp L},selIs f i n j=some (z,u)→∀ m:Nat,j≤m→m < j+n→i=(m:Int) →
  ∃ x u',f m=some (x,u')∧(∀ p∈u',p∈u)∧∀ (G:Fz) (vs:List Value),All2 (RepI G) x vs→All2 (RepI G) z vs
 | 0,j,_,_,h,_,_,_,_=>by cases h
 | 1,j,z,u,h,m,h1,h2,_=>by
  obtain rfl:m=j:=by omega
  exact ⟨z,u,h,fun _ hp=>hp,fun _ _ hv=>hv⟩
 | n+2,j,z,u,h,m,h1,h2,hi=>by
  simp only [selIs] at h
  split at h
  ·rename_i x u1 y v hf hs
   split at h
   ·rename_i z' hz
    cases h
    by_cases hmj:m=j
    ·subst hmj
     exact ⟨x,u1,hf,fun p hp=>List.mem_append.2 (.inl hp),fun G vs hv=>(mIs_rep hz).1 (by rw [hi];simp) hv⟩
    ·obtain ⟨x',u',a,b,c⟩:=selIs_spec (n:=n+1) (j:=j+1) hs m (by omega) (by omega) hi
     exact ⟨x',u',a,fun p hp=>List.mem_append.2 (.inr (b p hp)),fun G vs hv=>(mIs_rep hz).2 (by rw [hi];simp;omega) (c G vs hv)⟩
   ·cases h
  ·cases h
theorem selIs_frz {h:Hp L}{f:Nat→Option (List (I L)×Hp L)}(hf:∀ j x u,f j=some (x,u)→Frz h u){i:Int}:∀ {n j:Nat} {z:List (I L)} {u:Hp L},selIs f i n j=some (z,u)→Frz h u
 | 0,j,_,_,hs=>by cases hs
 | 1,j,z,u,hs=>hf j z u hs
 | n+2,j,z,u,hs=>by
  simp only [selIs] at hs
  split at hs
  ·rename_i x u1 y v hx hy
   split at hs
   ·cases hs
    exact (hf _ _ _ hx).append (selIs_frz hf (n:=n+1) hy)
   ·cases hs
  ·cases hs
theorem putIs_frz {h:Hp L}{ys:List (I L)}{i:Int}{m base z off:Nat}:∀ {k j:Nat} {cs cs':List (C L)} {v:Hp L},putIs h ys i m base z off k j cs=some (cs',v)→Frz h v
 | 0,j,cs,cs',v,hp=>by cases hp;exact .nil h
 | k+1,j,cs,cs',v,hp=>by
  simp only [putIs] at hp
  cases hb:Nat.ble (base+j * z+off+m) cs.length with
  | false=>rw [hb] at hp;cases hp
  | true =>
   rw [hb,cond_true] at hp
   split at hp
   ·rename_i xs u hx
    split at hp
    ·rename_i t ht
     split at hp
     ·rename_i cs1 v1 hr
      cases hp
      exact (toIs_frz hx).append (putIs_frz hr)
     ·cases hp
    ·cases hp
   ·cases hp
omit [LI L] in
theorem splice_length {α:Type}(cs ys:List α)(p:Nat)(h:p+ys.length≤cs.length):(splice cs p ys).length=cs.length:=by
 unfold splice;simp;omega
theorem mIs_len {c:Bool}:∀ {xs ys zs:List (I L)},mIs c xs ys=some zs→zs.length=xs.length∧xs.length=ys.length
 | [],[],zs,h=>by cases h;simp
 | [],_::_,_,h=>by cases h
 | _::_,[],_,h=>by cases h
 | x::r,y::s,zs,h=>by
  simp only [mIs] at h
  split at h
  ·rename_i z t hz ht
   cases h
   obtain ⟨a,b⟩:=mIs_len ht
   simp;omega
  ·cases h
theorem putIs_bound {h:Hp L}{ys:List (I L)}{i:Int}{m base z off:Nat}(hm:ys.length=m):∀ {k j:Nat} {cs cs':List (C L)} {v:Hp L},putIs h ys i m base z off k j cs=some (cs',v)→∀ M,j≤M→M < j+k→base+M * z+off+m≤cs.length
 | 0,j,cs,cs',v,_,M,h1,h2=>by omega
 | k+1,j,cs,cs',v,hp,M,h1,h2=>by
  simp only [putIs] at hp
  cases hb:Nat.ble (base+j * z+off+m) cs.length with
  | false=>rw [hb] at hp;cases hp
  | true =>
   rw [hb,cond_true] at hp
   have hb':=Nat.le_of_ble_eq_true hb
   by_cases hj:M=j
   ·subst hj;exact hb'
   ·split at hp
    ·rename_i xs u hx
     split at hp
     ·rename_i t ht
      split at hp
      ·rename_i cs1 v1 hr
       have:=putIs_bound hm hr M (by omega) (by omega)
       rw [splice_length _ _ _ (by rw [show (ims t).length=t.length from by simp [ims],(mIs_len ht).1,hm];exact hb')] at this
       exact this
      ·cases hp
     ·cases hp
    ·cases hp
theorem putIs_ids {h:Hp L}{ys:List (I L)}{i:Int}{m base z off:Nat}{U:Nat→Prop}:∀ {k j:Nat} {cs cs':List (C L)} {v:Hp L},putIs h ys i m base z off k j cs=some (cs',v)→(∀ d∈cs.flatMap idsC,U d)→∀ d∈cs'.flatMap idsC,U d
 | 0,j,cs,cs',v,hp,hu=>by cases hp;exact hu
 | k+1,j,cs,cs',v,hp,hu=>by
  simp only [putIs] at hp
  cases hb:Nat.ble (base+j * z+off+m) cs.length with
  | false=>rw [hb] at hp;cases hp
  | true =>
   rw [hb,cond_true] at hp
   split at hp
   ·rename_i xs u hx
    split at hp
    ·rename_i t ht
     split at hp
     ·rename_i cs1 v1 hr
      cases hp
      refine putIs_ids hr ?_
      intro d hd
      simp only [Ev.splice,List.flatMap_append,List.mem_append] at hd
      rcases hd with (hd | hd) | hd
      ·obtain ⟨x,hx,hm⟩:=List.mem_flatMap.1 hd;exact hu d (List.mem_flatMap.2 ⟨x,List.mem_of_mem_take hx,hm⟩)
      ·rw [ids_ims] at hd;simp at hd
      ·obtain ⟨x,hx,hm⟩:=List.mem_flatMap.1 hd;exact hu d (List.mem_flatMap.2 ⟨x,List.mem_of_mem_drop hx,hm⟩)
     ·cases hp
    ·cases hp
   ·cases hp
theorem putIs_spec [LLaws L]{U:Nat→Prop}{g:Gh}{B:Nat}{h u':Hp L}{w:World}(hf:Frz h u')(hr:RepH U g B (u'++h) w){ys:List (I L)}{i:Int}{m base z off M:Nat}{news vs0:List Value}
  (hys:All2 (RepI g.G) ys news) (hm:ys.length=m) (hi:i=(M:Int)):∀ {k j:Nat} {cs cs':List (C L)} {v:Hp L},putIs h ys i m base z off k j cs=some (cs',v)→(∀ p∈v,p∈u') →
  All2 (RepC g) cs (if M < j then vs0.take (base+M * z+off)++news++vs0.drop (base+M * z+off+news.length) else vs0) →
  All2 (RepC g) cs' (if M < j+k then vs0.take (base+M * z+off)++news++vs0.drop (base+M * z+off+news.length) else vs0)
 | 0,j,cs,cs',v,hp,_,hc=>by cases hp;exact hc
 | k+1,j,cs,cs',v,hp,hsub,hc=>by
  simp only [putIs] at hp
  cases hb:Nat.ble (base+j * z+off+m) cs.length with
  | false=>rw [hb] at hp;cases hp
  | true =>
   rw [hb,cond_true] at hp
   have hb':=Nat.le_of_ble_eq_true hb
   split at hp
   ·rename_i xs u hx
    split at hp
    ·rename_i t ht
     split at hp
     ·rename_i cs1 v1 hr1
      cases hp
      have hnl:news.length=m:=by rw [← hys.length,hm]
      have key:All2 (RepC g) (splice cs (base+j * z+off) (ims t)) (if M < j+1 then vs0.take (base+M * z+off)++news++vs0.drop (base+M * z+off+news.length) else vs0):=by
       by_cases hj:M=j
       ·subst hj
        rw [if_neg (Nat.lt_irrefl _)] at hc
        rw [if_pos (Nat.lt_succ_self _)]
        exact hc.splice (rep_ims ((mIs_rep ht).1 (by rw [hi];simp) hys)) _
       ·have e:(if M < j+1 then vs0.take (base+M * z+off)++news++vs0.drop (base+M * z+off+news.length) else vs0)=(if M < j then vs0.take (base+M * z+off)++news++vs0.drop (base+M * z+off+news.length) else vs0):=by
         by_cases h1:M < j
         ·rw [if_pos h1,if_pos (by omega)]
         ·rw [if_neg h1,if_neg (by omega)]
        rw [e]
        generalize (if M < j then vs0.take (base+M * z+off)++news++vs0.drop (base+M * z+off+news.length) else vs0)=cur at hc ⊢
        have hpart:=toIs_rep hf hr hx (fun p hp=>hsub p (List.mem_append.2 (.inl hp))) ((hc.drop (base+j * z+off)).take m)
        have h3:=hc.splice (rep_ims ((mIs_rep ht).2 (by rw [hi];simp;omega) hpart)) (base+j * z+off)
        have hcl:=hc.length
        have e2:cur.take (base+j * z+off)++(cur.drop (base+j * z+off)).take m++cur.drop (base+j * z+off+((cur.drop (base+j * z+off)).take m).length)=cur:=by
         have hl:((cur.drop (base+j * z+off)).take m).length=m:=by simp;omega
         rw [hl,← List.take_add,List.take_append_drop]
        rw [e2] at h3
        exact h3
      have:=putIs_spec hf hr hys hm hi hr1 (fun p hp=>hsub p (List.mem_append.2 (.inr hp))) key
      rwa [Nat.add_assoc,Nat.add_comm 1 k] at this
     ·cases hp
    ·cases hp
   ·cases hp
theorem Post.after_freeze {U:Nat→Prop}{g g':Gh}{B:Nat}{h u u2:Hp L}{w w':World}{fresh:Nat}{x:X L}{v:Value}{G':Fz}(hf:Frz h u)(hle:FzLe g.G G')
  (hnf:∀ k o z,G' k o=some z→g.G k o=some z∨∃ b e,look h b=some e∧Owns g b e∧g.blk b=k)
  (hp:Post U { g with G:=G' } B (u++h) fresh w x u2 v w' g'):Post U g B h fresh w x (u2++u) v w' g':=by
 have own:∀ {c:Nat} {e:En L},look (u++h) c=some e→Owns ({ g with G:=G' }:Gh) c e→∃ e',look h c=some e'∧Owns g c e':=by
  intro c e hc hO
  have hv:({ g with G:=G' }:Gh).v c=g.v c:=rfl
  rcases hf.at_ hc with h1 | ⟨t,l,h1,rfl⟩
  ·refine ⟨e,h1,?_⟩
   cases e<;>first | exact hO | (simp only [Owns,hv] at hO ⊢;exact hO)
  ·exact ⟨_,h1,by simpa [Owns,hv] using hO⟩
 refine ⟨?_,hp.rx,hp.ix,by rw [List.append_assoc];exact hp.rh,?_,?_,hp.ws,?_,?_⟩
 ·exact GhLe.trans (b:={ g with G:=G' }) ⟨fun _ _=>rfl,fun _ _=>rfl,hle⟩ hp.le
 ·intro k o z hz
  rcases hp.nf k o z hz with h1 | ⟨b,e,h1,h2,h3⟩ | h1
  ·rcases hnf k o z h1 with h2 | h2
   ·exact .inl h2
   ·exact .inr (.inl h2)
  ·obtain ⟨e',h4,h5⟩:=own h1 h2
   exact .inr (.inl ⟨b,e',h4,h5,h3⟩)
  ·exact .inr (.inr h1)
 ·intro b e hb hO
  rw [List.append_assoc] at hb
  rcases hp.nb b e hb hO with ⟨c,e',h1,h2,h3⟩ | h1
  ·obtain ⟨e'',h4,h5⟩:=own h1 h2
   exact .inl ⟨c,e'',h4,h5,h3⟩
  ·exact .inr h1
 ·intro k hk hne
  refine hp.fr k hk fun b e hb hO=>?_
  obtain ⟨e',h4,h5⟩:=own hb hO
  exact hne b e' h4 h5
 ·intro b e hb
  rw [look_append] at hb
  split at hb
  ·rename_i y hy
   rcases hp.uu b y hy with h1 | ⟨e',h1⟩
   ·exact .inl h1
   ·rcases hf.at_ h1 with h2 | ⟨t,l,h2,_⟩
    ·exact .inr ⟨_,h2⟩
    ·exact .inr ⟨_,h2⟩
  ·obtain ⟨t,l,_,h2⟩:=hf _ (look_mem hb)
   exact .inr ⟨_,h2⟩
theorem fp_cells {U:Nat→Prop}{g:Gh}{B:Nat}{h:Hp L}{w:World}(hr:RepH U g B h w){k:Nat}:∀ {cs:List (I L)} {o:Nat},(∀ j x,cs[j]?=some x→∃ u,g.G k (o+j)=some u∧RepI g.G x u) →
  ∃ vs:List Value,All2 (RepI g.G) cs vs∧∀ (j:Nat) v,vs[j]?=some v→w.cell? ⟨k,o+j,none⟩=some v
 | [],o,_=>⟨[],.nil,by simp⟩
 | x::r,o,hcell=>by
  obtain ⟨u,hu,hR⟩:=hcell 0 x rfl
  obtain ⟨vs,h1,h2⟩:=fp_cells hr (cs:=r) (o:=o+1) fun j y hy=>by
   obtain ⟨u',a,b⟩:=hcell (j+1) y (by simpa using hy)
   exact ⟨u',by rw [Nat.add_assoc,Nat.add_comm 1 j];exact a,b⟩
  refine ⟨u::vs,.cons hR h1,fun j v hj=>?_⟩
  cases j with
  | zero=>simp at hj;subst hj;exact hr.fz _ _ _ hu
  | succ j=>have:=h2 j v (by simpa using hj);rwa [Nat.add_assoc,Nat.add_comm 1 j] at this
theorem RepH.freezeVar {U:Nat→Prop}{g:Gh}{B:Nat}{h:Hp L}{w:World}(hr:RepH U g B h w){b:Nat}{cs:List (C L)}{t:TypeId}{xs:List (I L)}{vs:List Value}(hb:look h b=some (.var cs t))
  (hv:w.heap[g.blk b]?=some (.cells vs.toArray t (0,0))) (hx:All2 (RepI g.G) xs vs) :
  ∃ G',FzLe g.G G'∧RepH U { g with G:=G' } B ((b,.fvar xs)::h) w∧(∀ k o z,G' k o=some z→g.G k o=some z∨k=g.blk b)∧∀ j v,vs[j]?=some v→G' (g.blk b) j=some v:=by
 have hOb:Owns g b (.var cs t:En L):=trivial
 have hfree:∀ o z,g.G (g.blk b) o=some z→False:=fun o z hz=>by
  obtain ⟨_,_,he,_⟩:=hr.free b _ hb hOb o z hz
  cases he
 let G':Fz:=fun k o=>if k=g.blk b then vs[o]? else g.G k o
 have hle:FzLe g.G G':=by
  intro k o z hz
  show (if _ then _ else _)=_
  split
  ·rename_i hk;subst hk;exact (hfree o z hz).elim
  ·exact hz
 have hgle:GhLe (fun _=>True) g { g with G:=G' }:=⟨fun _ _=>rfl,fun _ _=>rfl,hle⟩
 have hnew:∀ j v,vs[j]?=some v→G' (g.blk b) j=some v:=fun j v hj=>by show (if _ then _ else _)=_;rw [if_pos rfl];exact hj
 refine ⟨G',hle,⟨?_,?_,?_,?_,?_,?_,?_,hr.base⟩,?_,hnew⟩
 ·intro k o z hz
  change (if _ then _ else _)=_ at hz
  split at hz
  ·rename_i hk;subst hk
   rw [cell_of_block hv];simpa using hz
  ·exact hr.fz k o z hz
 ·intro c en hc
  rw [look_cons] at hc
  split at hc
  ·rename_i hbc;subst hbc;cases hc
   intro j x hj
   obtain ⟨u,hu,hR⟩:=hx.get hj
   exact ⟨u,hnew j u hu,hR.mono hle⟩
  ·exact RepEn.mono hgle trivial (fun _ _=>trivial) (hr.ent c en hc)
 ·intro c en hc
  rw [look_cons] at hc
  split at hc
  ·rename_i hbc;subst hbc;cases hc
   exact ⟨(hr.ids b _ hb).1,by simp [idsEn]⟩
  ·exact hr.ids c en hc
 ·intro c c' en en' h1 h2 o1 o2
  rw [look_cons] at h1 h2
  split at h1
  ·cases h1;exact o1.elim
  ·split at h2
   ·cases h2;exact o2.elim
   ·exact hr.dis c c' en en' h1 h2 ((Owns.congr hgle trivial).1 o1) ((Owns.congr hgle trivial).1 o2)
 ·intro c en hc hO
  rw [look_cons] at hc
  split at hc
  ·cases hc;exact hO.elim
  ·exact hr.own c en hc ((Owns.congr hgle trivial).1 hO)
 ·intro c en hc hO o z hz
  rw [look_cons] at hc
  split at hc
  ·cases hc;exact hO.elim
  ·rename_i hbc
   have hO':=(Owns.congr hgle trivial).1 hO
   change (if _ then _ else _)=_ at hz
   split at hz
   ·rename_i hk
    exact absurd hk (fun hk=>hr.dis b c _ _ hb hc hOb hO' hbc hk.symm)
   ·exact hr.free c en hc hO' o z hz
 ·intro c en hc
  rw [look_cons] at hc
  split at hc
  ·cases hc;trivial
  ·exact Alias.cg rfl rfl (hr.pre c en hc)
 ·intro k o z hz
  change (if _ then _ else _)=_ at hz
  split at hz
  ·rename_i hk;exact .inr hk
  ·exact .inl hz
theorem loadOp_sound [LLaws L]{P:Program}{T:Tab}(hT:TabOK P T){t:TypeId}{i:TI}(ht:T t=some i){oD:OrcD L}{U:Nat→Prop}{g:Gh}{B:Nat}{h:Hp L}{w:World}{fresh:Nat}(hr:RepH U g B h w){c:C L}{p:Value}(hc:RepC g c p)
  {Q:X L×Hp L→Prop} (hq:(loadOp h i.isAgg i.size c).holds oD Q):∃ x u,Q (x,u)∧∃ v g',(Instr.loadAt t p).run P w=.ok v w∧Post U g B h fresh w x u v w g':=by
 unfold loadOp at hq
 split at hq
 ·rename_i b off
  simp only [RepC] at hc;subst hc
  split at hq
  ·rename_i cs ty hb
   split at hq
   ·rename_i s hs
    obtain ⟨vs,hv,hR,_⟩:=hr.ent b _ hb
    have:=load_part hT ht (g:=g) (w:=w) hR (k:=g.blk b) (o:=0) (off:=off) (fun j v hj=>by rw [Nat.zero_add,cell_of_block hv];simpa using hj) hs
    rw [Nat.zero_add] at this
    obtain ⟨v,h1,h2⟩:=this
    exact ⟨_,_,hq,v,g,h1,.pure hr h2 fun d hd=>(hr.ids b _ hb).2 d (part_ids hs d hd)⟩
   ·exact hq.elim
  ·rename_i cs hb
   split at hq
   ·rename_i s hs
    obtain ⟨vs,hvs,hcl⟩:=fp_cells hr (k:=g.blk b) (cs:=cs) (o:=0) (fun j x hx=>by rw [Nat.zero_add];exact hr.ent b _ hb j x hx)
    obtain ⟨v,h1,h2⟩:=load_part hT ht (g:=g) (w:=w) (rep_ims hvs) (k:=g.blk b) (o:=0) (off:=off) hcl hs
    rw [Nat.zero_add] at h1
    exact ⟨_,_,hq,v,g,h1,.pure hr h2 fun d hd=>by have:=part_ids hs d hd;rw [ids_ims] at this;simp at this⟩
   ·exact hq.elim
  ·exact hq.elim
 ·rename_i b j z off
  simp only [RepC] at hc;subst hc
  split at hq
  ·rename_i e l hb
   cases hz:Nat.beq z (LI.sz l) with
   | false=>rw [hz] at hq;exact hq.elim
   | true =>
    rw [hz] at hq
    have hz':z=LI.sz l:=Nat.eq_of_beq_eq_true hz
    obtain ⟨cs,hcs,hq⟩:=hq
    dsimp only at hq
    split at hq
    ·rename_i s hs
     obtain ⟨xs,ho,hx,hbk⟩:=hr.ent b _ hb
     obtain ⟨k,cap,hv,vs,hvs,hcell⟩:=arr_elem ho hx hcs
     have hk:k=g.blk b:=hbk k (by rw [hv];rfl)
     subst hk
     obtain ⟨v,h1,h2⟩:=load_part hT ht (g:=g) (w:=w) (rep_ims hvs) (k:=g.blk b) (o:=j * LI.sz l) (off:=off) hcell hs
     rw [← hz'] at h1
     exact ⟨_,_,hq,v,g,h1,.pure hr h2 fun d hd=>by have:=part_ids hs d hd;rw [ids_ims] at this;simp at this⟩
    ·exact hq.elim
  ·exact hq.elim
 ·rename_i cs off
  obtain ⟨k,o,rfl,hcell⟩:=hc
  split at hq
  ·rename_i s hs
   have:∃ vs:List Value,All2 (RepI g.G) cs vs∧∀ (j:Nat) v,vs[j]?=some v→w.cell? ⟨k,o+j,none⟩=some v:=by
    clear hs hq
    induction cs generalizing o with
    | nil=>exact ⟨[],.nil,by simp⟩
    | cons x r ih =>
     obtain ⟨u,hu,hR⟩:=hcell 0 x rfl
     obtain ⟨vs,h1,h2⟩:=ih (o+1) fun j y hy=>by
      obtain ⟨u',a,b⟩:=hcell (j+1) y (by simpa using hy)
      exact ⟨u',by rw [Nat.add_assoc,Nat.add_comm 1 j];exact a,b⟩
     refine ⟨u::vs,.cons hR h1,fun j v hj=>?_⟩
     cases j with
     | zero=>simp at hj;subst hj;exact hr.fz _ _ _ hu
     | succ j=>have:=h2 j v (by simpa using hj);rwa [Nat.add_assoc,Nat.add_comm 1 j] at this
   obtain ⟨vs,hvs,hcl⟩:=this
   obtain ⟨v,h1,h2⟩:=load_part hT ht (g:=g) (w:=w) (rep_ims hvs) (k:=k) (o:=o) (off:=off) hcl hs
   exact ⟨_,_,hq,v,g,h1,.pure hr h2 fun d hd=>by have:=part_ids hs d hd;rw [ids_ims] at this;simp at this⟩
  ·exact hq.elim
 ·rename_i b base j n z off
  obtain ⟨m,hj,hm,rfl⟩:=hc
  split at hq
  ·rename_i cs ty hb
   split at hq
   ·rename_i xs u hsel
    have hfz:Frz h u:=selIs_frz (fun j x u hx=>by
     split at hx
     ·exact toIs_frz hx
     ·cases hx) hsel
    obtain ⟨G',hG1,hG2,hG3⟩:=hr.freezeL u hfz
    obtain ⟨x,u',hf,hsub,hrep⟩:=selIs_spec hsel m (Nat.zero_le _) (by omega) hj
    split at hf
    ·rename_i s hs
     obtain ⟨vs,hv,hR,_⟩:=hr.ent b _ hb
     have:=load_part hT ht (g:=g) (w:=w) hR (k:=g.blk b) (o:=0) (off:=base+m * z+off) (fun j v hj=>by rw [Nat.zero_add,cell_of_block hv];simpa using hj) hs
     rw [Nat.zero_add] at this
     obtain ⟨v,h1,h2⟩:=this
     have hgl:GhLe (fun _=>True) g { g with G:=G' }:=⟨fun _ _=>rfl,fun _ _=>rfl,hG1⟩
     have h2':RepS { g with G:=G' } s v:=RepS.mono hgl (fun _ _=>trivial) h2
     have post:∀ x:X L,RepX { g with G:=G' } x v→(∀ b∈idsX x,U b)→Post U g B h fresh w x u v w { g with G:=G' } :=
      fun x hx hi=>Post.of_freeze hfz rfl rfl hG1 hG3 hG2 hx hi (.refl w) (fun _ _=>rfl)
     unfold packSel at hq
     rcases part_eq hs with ⟨ha,_,rfl⟩ | ⟨ha,x0,hx0,rfl⟩
     ·rw [ha,cond_true] at hq
      obtain ⟨ws,rfl,hws⟩:=h2'
      have h3:=hrep G' ws (toIs_rep (g:={ g with G:=G' }) hfz hG2 hf hsub hws)
      exact ⟨_,_,hq,_,_,h1,post _ ⟨ws,rfl,rep_ims h3⟩ (by intro d hd;simp only [idsX,idsS,cellsOf] at hd;rw [ids_ims] at hd;simp at hd)⟩
     ·rw [ha,cond_false] at hq
      have h3:=hrep G' [v] (toIs_rep (g:={ g with G:=G' }) hfz hG2 hf hsub (.cons h2' .nil))
      split at hq
      ·rename_i y
       cases h3 with
       | cons h4 _=>exact ⟨_,_,hq,_,_,h1,post _ h4 (by simp [idsX,idsS,cellsOf,idsC])⟩
      ·exact hq.elim
    ·cases hf
   ·exact hq.elim
  ·exact hq.elim
 ·exact hq.elim
theorem packSel_sound [LLaws L]{oD:OrcD L}{U:Nat→Prop}{g:Gh}{B:Nat}{h:Hp L}{w:World}{fresh:Nat}(hr:RepH U g B h w){agg:Bool}{cs:List (C L)}{off:Nat→Nat}{sz n m:Nat}{i:Int}{xs:List (I L)}{u:Hp L}
  (hi:i=(m:Int)) (hm:m < n) (hsel:selIs (fun j=>match part agg cs (off j) sz with | some s=>toIs h (cellsOf s) | none=>none) i n 0=some (xs,u)) {v:Value} (hv:∀ s,part agg cs (off m) sz=some s→RepS g s v)
  {Q:X L×Hp L→Prop} (hq:(packSel agg xs u:Res L).holds oD Q):∃ x u,Q (x,u)∧∃ g',Post U g B h fresh w x u v w g':=by
 have hfz:Frz h u:=selIs_frz (fun j x u hx=>by
  split at hx
  ·exact toIs_frz hx
  ·cases hx) hsel
 obtain ⟨G',hG1,hG2,hG3⟩:=hr.freezeL u hfz
 obtain ⟨x,u',hf,hsub,hrep⟩:=selIs_spec hsel m (Nat.zero_le _) (by omega) hi
 split at hf
 ·rename_i s hs
  have hgl:GhLe (fun _=>True) g { g with G:=G' }:=⟨fun _ _=>rfl,fun _ _=>rfl,hG1⟩
  have h2':RepS { g with G:=G' } s v:=RepS.mono hgl (fun _ _=>trivial) (hv s hs)
  have post:∀ x:X L,RepX { g with G:=G' } x v→(∀ b∈idsX x,U b)→Post U g B h fresh w x u v w { g with G:=G' } :=
   fun x hx hi=>Post.of_freeze hfz rfl rfl hG1 hG3 hG2 hx hi (.refl w) (fun _ _=>rfl)
  unfold packSel at hq
  rcases part_eq hs with ⟨ha,_,rfl⟩ | ⟨ha,x0,hx0,rfl⟩
  ·rw [ha,cond_true] at hq
   obtain ⟨ws,rfl,hws⟩:=h2'
   have h3:=hrep G' ws (toIs_rep (g:={ g with G:=G' }) hfz hG2 hf hsub hws)
   exact ⟨_,_,hq,_,post _ ⟨ws,rfl,rep_ims h3⟩ (by intro d hd;simp only [idsX,idsS,cellsOf] at hd;rw [ids_ims] at hd;simp at hd)⟩
  ·rw [ha,cond_false] at hq
   have h3:=hrep G' [v] (toIs_rep (g:={ g with G:=G' }) hfz hG2 hf hsub (.cons h2' .nil))
   split at hq
   ·rename_i y
    cases h3 with
    | cons h4 _=>exact ⟨_,_,hq,_,post _ h4 (by simp [idsX,idsS,cellsOf,idsC])⟩
   ·exact hq.elim
 ·cases hf
theorem RepS.cells {g:Gh}{s:S L}{v:Value}(h:RepS g s v)(hs:(cellsOf s).all solid=true):∃ vs:List Value,v.cells=vs.toArray∧All2 (RepC g) (cellsOf s) vs∧∀ u∈vs,u.oneCell'=true:=by
 have one:∀ {cs:List (C L)} {vs:List Value},All2 (RepC g) cs vs→cs.all solid=true→∀ u∈vs,u.oneCell'=true:=by
  intro cs vs h
  induction h with
  | nil=>simp
  | cons h _ ih =>
   intro hs u hu
   simp only [List.all_cons,Bool.and_eq_true] at hs
   rcases List.mem_cons.1 hu with rfl | hu
   ·exact RepC.one h hs.1
   ·exact ih hs.2 u hu
 cases s with
 | c x =>
  simp only [cellsOf,List.all_cons,List.all_nil,Bool.and_true] at hs
  have h1:=RepC.one h hs
  refine ⟨[v],?_,.cons h .nil,by simpa using h1⟩
  cases v<;>first | rfl | simp [Value.oneCell'] at h1
 | agg cs =>
  obtain ⟨vs,rfl,hc⟩:=h
  exact ⟨vs,rfl,hc,one hc hs⟩
theorem Post.newVar {U:Nat→Prop}{g:Gh}{B:Nat}{h:Hp L}{w:World}{f:Nat}(hr:RepH U g B h w)(hf:¬ U f){cs:List (C L)}{vs:List Value}{t:TypeId}(hc:All2 (RepC g) cs vs)(h1:∀ v∈vs,v.oneCell'=true)
  (hi:∀ d∈cs.flatMap idsC,U d) :
  Post U g B h f w (.s (.c (.ptr f 0))) [(f,.var cs t)] (.pointer (some ⟨w.heap.size,0,none⟩)) (w.alloc (.cells vs.toArray t (0,0))) (g.withBlk f w.heap.size):=by
 have hle:=Gh.withBlk_le (g:=g) (k:=w.heap.size) hf
 refine ⟨hle,by simp [RepX,RepS,RepC,Gh.withBlk],by simp [idsX,idsS,cellsOf,idsC],hr.newVar hf hc h1 hi,fun _ _ _ hz=>.inl hz,?_,⟨rfl,rfl,rfl,by rw [size_alloc'];omega⟩,fun k hk _=>heap_alloc_old hk,?_⟩
 ·intro b e hb hO
  rw [List.singleton_append,look_cons] at hb
  split at hb
  ·rename_i hbf;subst hbf;exact .inr (by simp [Gh.withBlk])
  ·have hU:=(hr.ids b e hb).1
   exact .inl ⟨b,e,hb,(Owns.congr hle hU).1 hO,(hle.blk b hU).symm⟩
 ·intro b e hb
  rw [look_cons] at hb
  split at hb
  ·rename_i hbf;exact .inl hbf.symm
  ·simp [look] at hb
theorem Post.setVar {U:Nat→Prop}{g:Gh}{B:Nat}{h:Hp L}{w:World}{f:Nat}(hr:RepH U g B h w){b:Nat}{cs cs':List (C L)}{t:TypeId}{vs':List Value}(hb:look h b=some (.var cs t))
  (hc:All2 (RepC g) cs' vs') (h1:∀ v∈vs',v.oneCell'=true) (hi:∀ d∈cs'.flatMap idsC,U d) :
  Post U g B h f w (.s (.c .top)) [(b,.var cs' t)] undef (w.setRow (g.blk b) vs'.toArray) g:=by
 refine ⟨.refl _ _,trivial,by simp [idsX,idsS,cellsOf,idsC],(hr.setVar hb hc h1 hi).weaken fun _=>.inl,fun _ _ _ hz=>.inl hz,?_,⟨rfl,rfl,rfl,by simp⟩,?_,?_⟩
 ·intro c e hce hO
  rw [List.singleton_append,look_cons] at hce
  split at hce
  ·rename_i hbc;subst hbc;exact .inl ⟨b,_,hb,trivial,rfl⟩
  ·exact .inl ⟨c,e,hce,hO,rfl⟩
 ·intro k _ hk
  exact setRow_other w _ k _ fun he=>hk b _ hb trivial he.symm
 ·intro c e hce
  rw [look_cons] at hce
  split at hce
  ·rename_i hbc;subst hbc;exact .inr ⟨_,hb⟩
  ·simp [look] at hce
end Go.Ev
/- Stores. -/
namespace Go.Ev
variable {L:Type} [LI L]
theorem All2.flatten_set {α β:Type}{R:α→β→Prop}{s:Nat}:∀ {css:List (List α)} {xs:List β} {j:Nat} {cs:List α} {ys:List β},(∀ c∈css,c.length=s)→All2 R css.flatten xs→j < css.length→All2 R cs ys →
  All2 R (css.set j cs).flatten (xs.take (j * s)++ys++xs.drop ((j+1) * s))
 | [],_,j,_,_,_,_,hj,_=>by simp at hj
 | c::r,xs,0,cs,ys,hs,h,_,k=>by
  have hc:c.length=s:=hs c (by simp)
  simp only [List.set_cons_zero,List.flatten_cons,Nat.zero_mul,List.take_zero,List.nil_append,Nat.zero_add,Nat.one_mul]
  have:=h.drop s
  rw [List.flatten_cons,← hc,List.drop_left] at this
  rw [← hc]
  exact k.append this
 | c::r,xs,j+1,cs,ys,hs,h,hj,k=>by
  have hc:c.length=s:=hs c (by simp)
  have h1:=h.take s
  have h2:=h.drop s
  rw [List.flatten_cons,← hc,List.drop_left] at h2
  rw [List.flatten_cons,← hc,List.take_left] at h1
  have ih:=All2.flatten_set (css:=r) (j:=j) (fun c hc=>hs c (by simp [hc])) h2 (by simpa using hj) k
  simp only [List.set_cons_succ,List.flatten_cons]
  have e:xs.take ((j+1) * s)++ys++xs.drop ((j+1+1) * s)=xs.take c.length++((xs.drop c.length).take (j * s)++ys++(xs.drop c.length).drop ((j+1) * s)):=by
   rw [List.drop_drop,hc]
   have e1:(j+1) * s=s+j * s:=by rw [Nat.succ_mul];omega
   have e2:(j+1+1) * s=s+(j+1) * s:=by rw [Nat.succ_mul (j+1)];omega
   rw [e2,e1,List.take_add]
   simp [List.append_assoc]
  rw [e]
  exact h1.append ih
theorem Le.rep {G:Fz}{xs ys:List (I L)}{vs:List Value}(h:All2 Le xs ys)(k:All2 (RepI G) xs vs):All2 (RepI G) ys vs:=by
 induction h generalizing vs with
 | nil=>cases k;exact .nil
 | cons h _ ih=>cases k with | cons a b=>exact .cons (h _ _ a) (ih b)
theorem splice_in {α:Type}(xs ys:List α)(p s off:Nat)(h:off+ys.length≤s)(_hx:p+s≤xs.length) :
  xs.take p++(((xs.drop p).take s).take off++ys++((xs.drop p).take s).drop (off+ys.length))++xs.drop (p+s)=xs.take (p+off)++ys++xs.drop (p+off+ys.length):=by
 have e1:xs.take (p+off)=xs.take p++((xs.drop p).take s).take off:=by
  rw [List.take_add,List.take_take,Nat.min_eq_left (by omega)]
 have e2:xs.drop (p+off+ys.length)=((xs.drop p).take s).drop (off+ys.length)++xs.drop (p+s):=by
  have h1:((xs.drop p).take s).drop (off+ys.length)=(xs.drop (p+off+ys.length)).take (s - (off+ys.length)):=by
   rw [List.drop_take,List.drop_drop,Nat.add_assoc]
  have h2:xs.drop (p+s)=(xs.drop (p+off+ys.length)).drop (s - (off+ys.length)):=by
   rw [List.drop_drop];congr 1;omega
  rw [h1,h2,List.take_append_drop]
 rw [e1,e2]
 simp [List.append_assoc]
theorem take_splice {α:Type}(C ys:List α)(n p:Nat)(h:p+ys.length≤n)(hn:n≤C.length):(C.take p++ys++C.drop (p+ys.length)).take n=(C.take n).take p++ys++(C.take n).drop (p+ys.length):=by
 have hl:(C.take p++ys).length=p+ys.length:=by simp;omega
 rw [List.take_append,hl,List.take_of_length_le (by omega),List.take_take,Nat.min_eq_left (by omega),List.drop_take]
theorem storeOp_sound [LLaws L]{P:Program}{T:Tab}(hT:TabOK P T){t:TypeId}{i:TI}(ht:T t=some i){oD:OrcD L}{U:Nat→Prop}{g:Gh}{B:Nat}{h:Hp L}{w:World}{fresh:Nat}(hr:RepH U g B h w){c:C L}{p:Value}(hc:RepC g c p)
  {s:S L} {v:Value} (hs:RepS g s v) (hsi:∀ b∈idsS s,U b) {Q:X L×Hp L→Prop} (hq:(storeOp h i.size c s).holds oD Q) :
  ∃ x u,Q (x,u)∧∃ w' g',(Instr.storeAt t p v).run P w=.ok () w'∧Post U g B h fresh w x u undef w' g':=by
 unfold storeOp at hq
 cases hcond:(Nat.beq (cellsOf s).length i.size && (cellsOf s).all solid) with
 | false=>rw [hcond] at hq;exact hq.elim
 | true =>
  rw [hcond,cond_true] at hq
  rw [Bool.and_eq_true] at hcond
  have hn:(cellsOf s).length=i.size:=Nat.eq_of_beq_eq_true hcond.1
  obtain ⟨vs,hvc,hvs,hone⟩:=hs.cells hcond.2
  have hvl:vs.length=i.size:=by rw [← hvs.length,hn]
  have hrun:∀ k off:Nat,∀ (cur:Array Value) (ty:TypeId),w.heap[k]?=some (.cells cur ty (0,0))→off+i.size≤cur.size →
    (Instr.storeAt t (.pointer (some ⟨k,off,none⟩)) v).run P w=.ok () (w.setRow k (cur.toList.take off++vs++cur.toList.drop (off+vs.length)).toArray):=by
   intro k off cur ty hk hle
   have h1:=run_storeCells_at (P:=P) k off ty vs 0 cur w hk (by omega) hone
   simp only [Nat.add_zero] at h1
   simp [Instr.storeAt,Instr.sureAddr,storeVar,run_size hT ht,hvc,hvl,h1]
  split at hq
  ·rename_i b off
   simp only [RepC] at hc;subst hc
   split at hq
   ·rename_i cs ty hb
    cases hle:Nat.ble (off+i.size) cs.length with
    | false=>rw [hle] at hq;exact hq.elim
    | true =>
     rw [hle,cond_true] at hq
     have hle':=Nat.le_of_ble_eq_true hle
     obtain ⟨old,hold,hco,hone'⟩:=hr.ent b _ hb
     have:=hrun (g.blk b) off old.toArray ty hold (by simp;have:=hco.length;omega)
     refine ⟨_,_,hq,_,g,this,?_⟩
     refine Post.setVar hr hb (hco.splice hvs off) ?_ ?_
     ·intro u hu
      simp only [List.mem_append] at hu
      rcases hu with (hu | hu) | hu
      ·exact hone' u (List.mem_of_mem_take hu)
      ·exact hone u hu
      ·exact hone' u (List.mem_of_mem_drop hu)
     ·intro d hd
      simp only [Ev.splice,List.flatMap_append,List.mem_append] at hd
      rcases hd with (hd | hd) | hd
      ·refine (hr.ids b _ hb).2 d ?_
       simp only [idsEn,List.mem_flatMap] at hd ⊢
       obtain ⟨x,hx,hm⟩:=hd;exact ⟨x,List.mem_of_mem_take hx,hm⟩
      ·exact hsi d hd
      ·refine (hr.ids b _ hb).2 d ?_
       simp only [idsEn,List.mem_flatMap] at hd ⊢
       obtain ⟨x,hx,hm⟩:=hd;exact ⟨x,List.mem_of_mem_drop hx,hm⟩
   ·exact hq.elim
  ·rename_i b j z off
   simp only [RepC] at hc;subst hc
   split at hq
   ·rename_i e l xs u hb hxs
    obtain ⟨cs,hcs,hq⟩:=hq
    dsimp only at hq
    cases hcd:(Nat.ble (off+i.size) cs.length && Nat.beq z (LI.sz l) && !(u.any fun p=>Nat.beq p.1 b)) with
    | false=>rw [hcd] at hq;exact hq.elim
    | true =>
     rw [hcd,cond_true] at hq
     rw [Bool.and_eq_true,Bool.and_eq_true] at hcd
     have hle:=Nat.le_of_ble_eq_true hcd.1.1
     have hz:z=LI.sz l:=Nat.eq_of_beq_eq_true hcd.1.2
     have hnb:look u b=none:=by
      cases hl:look u b with
      | none=>rfl
      | some y =>
       have hm:=look_mem hl
       have:(u.any fun p=>Nat.beq p.1 b)=true:=List.any_eq_true.2 ⟨_,hm,by simp⟩
       rw [this] at hcd;simp at hcd
     split at hq
     ·rename_i l' hset
      have hfz:=toIs_frz hxs
      obtain ⟨G',hG1,hG2,hG3⟩:=hr.freezeL u hfz
      have hlb:look (u++h) b=some (.arr e l):=by rw [look_append,hnb];exact hb
      obtain ⟨vals,ho,hx,hbk⟩:=hG2.ent b _ hlb
      have hcsl:cs.length=LI.sz l:=LLaws.size l cs (List.mem_of_getElem? hcs)
      obtain ⟨cs',hLe,hels,hsz⟩:=LLaws.set l j _ l' hset
      have hjl:j < (LI.els l).length:=(List.getElem?_eq_some_iff.1 hcs).1
      have hvl':vals.length=(LI.els l).length * LI.sz l:=by rw [← hx.length,flatten_length fun c hc=>LLaws.size l c hc]
      have hmul:j * LI.sz l+LI.sz l≤(LI.els l).length * LI.sz l:=by rw [← Nat.succ_mul];exact Nat.mul_le_mul_right _ hjl
      -- the element's new values
      have hvs':All2 (RepI G') xs vs:=toIs_rep (g:={ g with G:=G' }) hfz hG2 hxs (fun _ h=>h) (RepCs.mono (U:=fun _=>True) (g:=g) (g':={ g with G:=G' }) ⟨fun _ _=>rfl,fun _ _=>rfl,hG1⟩ (fun _ _=>trivial) hvs)
      have helem:All2 (RepI G') cs ((vals.drop (j * LI.sz l)).take (LI.sz l)):=by
       refine All2.of_get (by simp;omega) fun q a bb ha hb'=>?_
       have hf:=flatten_get (fun c hc=>LLaws.size l c hc) hcs ha
       obtain ⟨y,hy,hR⟩:=hx.get hf
       have:bb=y:=by
        rw [List.getElem?_take] at hb'
        split at hb'
        ·rw [List.getElem?_drop,hy] at hb';exact (Option.some.inj hb').symm
        ·cases hb'
       subst this;exact hR
      have hnew:=Le.rep hLe (helem.splice hvs' off)
      have hfl:=All2.flatten_set (j:=j) (fun c hc=>LLaws.size l c hc) hx hjl hnew
      rw [Nat.succ_mul,splice_in vals vs (j * LI.sz l) (LI.sz l) off (by omega) (by omega)] at hfl
      rcases own_cells ho hx with ⟨_,he⟩ | ⟨k,cap,hv,hcap,hBk,hks,_,_⟩
      ·rw [he] at hjl;simp at hjl
      ·have hk:k=g.blk b:=hbk k (by rw [hv];rfl)
       subst hk
       obtain ⟨hl1,hrow⟩:=ho
       rcases hrow with ⟨hv0,_⟩ | ⟨k',cap',cur,hv',_,hcur,hnc,hml,hcs',htk⟩
       ·rw [hv] at hv0;cases hv0
       ·rw [hv] at hv';cases hv'
        have hcurlen:vals.length≤cur.size:=by
         have:=congrArg List.length htk;simp at this;omega
        have hst:=hrun (g.blk b) (j * LI.sz l+off) cur e hcur (by omega)
        rw [hz]
        refine ⟨_,_,hq,_,{ g with G:=G' },hst,?_⟩
        have hOb:Owns g b (.arr e l:En L):=by
         show (g.v b).ownBlock≠none
         have:({ g with G:=G' }:Gh).v b=g.v b:=rfl
         rw [this] at hv;rw [hv];simp [Value.ownBlock]
        -- the new row
        have hrow':(w.setRow (g.blk b) (cur.toList.take (j * LI.sz l+off)++vs++cur.toList.drop (j * LI.sz l+off+vs.length)).toArray).ownsRow B e (LI.sz l') (({ g with G:=G' }:Gh).v b) (LI.els l').length (vals.take (j * LI.sz l+off)++vs++vals.drop (j * LI.sz l+off+vs.length)):=by
         refine ⟨by rw [hels,hsz];simp;omega,.inr ⟨g.blk b,cap,_,by rw [hv,hels];simp,hBk,setRow_heap w _ _ _ _ _ hcur,by rw [hels];simpa using hcap,hml,?_,?_⟩⟩
         ·simp;rw [hsz];omega
         ·rw [hels,hsz]
          simp only [List.length_set]
          have hv2:vals=cur.toList.take ((LI.els l).length * LI.sz l):=htk.symm
          rw [hv2]
          exact take_splice cur.toList vs _ _ (by omega) (by simp;omega)
        have hset':=hG2.setArr hlb (l':=l') (by rw [hels];simp) (w':=w.setRow (g.blk b) _) (fun q _ hne=>setRow_other w _ q _ (hne hOb)) (by simp) hrow' (by rw [hels];exact hfl)
        refine ⟨⟨fun _ _=>rfl,fun _ _=>rfl,hG1⟩,trivial,by simp [idsX,idsS,cellsOf,idsC],hset'.weaken fun _=>.inl,fun k o z hz=>(hG3 k o z hz).imp id .inl,?_,⟨rfl,rfl,rfl,by simp⟩,?_,?_⟩
        ·intro c en hce hO
         rw [List.cons_append,look_cons] at hce
         refine .inl ?_
         split at hce
         ·rename_i hbc;subst hbc;exact ⟨b,_,hb,hOb,rfl⟩
         ·rcases hfz.at_ hce with h1 | ⟨t',l'',h1,rfl⟩
          ·exact ⟨c,en,h1,by cases en<;>exact hO,rfl⟩
          ·exact ⟨c,_,h1,hO.2,rfl⟩
        ·intro k _ hk
         exact setRow_other w _ k _ fun he=>hk b _ hb hOb he.symm
        ·intro c en hce
         rw [look_cons] at hce
         split at hce
         ·rename_i hbc;subst hbc;exact .inr ⟨_,hb⟩
         ·obtain ⟨_,_,_,h1⟩:=hfz _ (look_mem hce);exact .inr ⟨_,h1⟩
     ·exact hq.elim
   ·exact hq.elim
  ·rename_i b base j n z off
   obtain ⟨M,hj,hM,rfl⟩:=hc
   split at hq
   ·rename_i cs ty ys u hb hys
    split at hq
    ·rename_i cs' v' hput
     have hfz:Frz h (u++v'):=(toIs_frz hys).append (putIs_frz hput)
     obtain ⟨G',hG1,hG2,hG3⟩:=hr.freezeL (u++v') hfz
     have hgl:GhLe (fun _=>True) g { g with G:=G' }:=⟨fun _ _=>rfl,fun _ _=>rfl,hG1⟩
     have hnb:look (u++v') b=none:=by
      cases hl:look (u++v') b with
      | none=>rfl
      | some y =>
       obtain ⟨t',l',_,h2⟩:=hfz _ (look_mem hl)
       rw [hb] at h2;cases h2
     have hlb:look ((u++v')++h) b=some (.var cs ty):=by rw [look_append,hnb];exact hb
     obtain ⟨old,hold,hco,hone'⟩:=hG2.ent b _ hlb
     have hvs':All2 (RepI G') ys vs:=toIs_rep (g:={ g with G:=G' }) hfz hG2 hys (fun p hp=>List.mem_append.2 (.inl hp)) (RepCs.mono hgl (fun _ _=>trivial) hvs)
     have hyl:ys.length=i.size:=by rw [hvs'.length,hvl]
     have hbd:=putIs_bound hyl hput M (Nat.zero_le _) (by omega)
     have hcs':=putIs_spec (g:={ g with G:=G' }) (M:=M) (vs0:=old) hfz hG2 hvs' hyl hj hput (fun p hp=>List.mem_append.2 (.inr hp)) (by rw [if_neg (by omega)];exact hco)
     rw [if_pos (by omega)] at hcs'
     have:=hrun (g.blk b) (base+M * z+off) old.toArray ty hold (by simp;have:=hco.length;omega)
     refine ⟨_,_,hq,_,{ g with G:=G' },this,?_⟩
     refine Post.after_freeze (u2:=[(b,.var cs' ty)]) hfz hG1 hG3 (Post.setVar hG2 hlb hcs' ?_ ?_)
     ·intro u hu
      simp only [List.mem_append] at hu
      rcases hu with (hu | hu) | hu
      ·exact hone' u (List.mem_of_mem_take hu)
      ·exact hone u hu
      ·exact hone' u (List.mem_of_mem_drop hu)
     ·exact putIs_ids hput (hG2.ids b _ hlb).2
    ·exact hq.elim
   ·exact hq.elim
  ·exact hq.elim
end Go.Ev
/- What stands behind a slice that is read; append. -/
namespace Go.Ev
variable {L:Type} [LI L]
theorem flatten_get_inv {α:Type}{s:Nat}(hs0:0 < s):∀ {css:List (List α)} {p:Nat} {x:α},(∀ c∈css,c.length=s)→css.flatten[p]?=some x→∃ cs,css[p / s]?=some cs∧cs[p % s]?=some x
 | [],p,x,_,h=>by simp at h
 | c::r,p,x,hs,h=>by
  have hc:c.length=s:=hs c (by simp)
  rw [List.flatten_cons] at h
  by_cases hp:p < s
  ·rw [List.getElem?_append_left (by omega)] at h
   exact ⟨c,by rw [Nat.div_eq_of_lt hp];rfl,by rw [Nat.mod_eq_of_lt hp];exact h⟩
  ·rw [List.getElem?_append_right (by omega),hc] at h
   obtain ⟨cs,h1,h2⟩:=flatten_get_inv hs0 (css:=r) (p:=p - s) (fun c hc=>hs c (by simp [hc])) h
   refine ⟨cs,?_,?_⟩
   ·rw [Nat.div_eq_sub_div hs0 (by omega)];simpa using h1
   ·rw [Nat.mod_eq_sub_mod (by omega)];exact h2
structure Src' (G:Fz) (w:World) (l:L) (v:Value) (news:List Value):Prop where
 rep:RepIs G (LI.els l).flatten news
 len:news.length=(LI.els l).length * LI.sz l
 form:∃ a cap,v=.slice a (LI.els l).length cap∧(LI.els l).length≤cap∧(0 < (LI.els l).length→∃ ad,a=some ad∧∀ (j:Nat) u,news[j]?=some u→w.cell? (ad.add j)=some u)
theorem RepIs.one {G:Fz}{xs:List (I L)}{vs:List Value}(h:RepIs G xs vs):∀ u∈vs,u.oneCell'=true:=by
 induction h with
 | nil=>simp
 | cons h _ ih =>
  intro u hu
  rcases List.mem_cons.1 hu with rfl | hu
  ·exact h.one
  ·exact ih u hu
theorem src_fz [LLaws L]{G:Fz}{w:World}(hw:∀ k o v,G k o=some v→w.cell? ⟨k,o,none⟩=some v){l:L}{v:Value}(hz:0 < LI.sz l)(h:RepI G (.fz l) v):∃ news,Src' G w l v news:=by
 cases h with
 | @fz _ a n cap k o vals hn hc ha hG hx =>
  subst hn
  have hfl:=flatten_length (css:=LI.els l) fun c hc=>LLaws.size l c hc
  refine ⟨(List.range ((LI.els l).length * LI.sz l)).map fun p=>vals (p / LI.sz l) (p % LI.sz l),?_,by simp,a,cap,rfl,hc,fun hpos=>⟨⟨k,o,none⟩,ha hpos,?_⟩⟩
  ·refine All2.of_get (by simp [hfl]) fun p x y h1 h2=>?_
   obtain ⟨cs,h3,h4⟩:=flatten_get_inv hz (fun c hc=>LLaws.size l c hc) h1
   have hlt:p < (LI.els l).length * LI.sz l:=by rw [← hfl];exact (List.getElem?_eq_some_iff.1 h1).1
   simp only [List.getElem?_map,List.getElem?_range hlt,Option.map_some,Option.some.injEq] at h2
   subst h2
   exact hx _ _ cs x h3 h4
  ·intro p u hu
   have hlt:p < (LI.els l).length * LI.sz l:=by have:=(List.getElem?_eq_some_iff.1 hu).1;simpa using this
   simp only [List.getElem?_map,List.getElem?_range hlt,Option.map_some,Option.some.injEq] at hu
   have hlt':p < (LI.els l).flatten.length:=by rw [hfl];exact hlt
   obtain ⟨cs,h3,h4⟩:=flatten_get_inv hz (fun c hc=>LLaws.size l c hc) (List.getElem?_eq_getElem hlt')
   have:=hw _ _ _ (hG _ _ cs _ h3 h4)
   rw [addr_add,← hu]
   have e:o+p / LI.sz l * LI.sz l+p % LI.sz l=o+p:=by
    have:=Nat.div_add_mod p (LI.sz l);rw [Nat.mul_comm] at this;omega
   rw [e] at this;exact this
theorem src_arr [LLaws L]{g:Gh}{w:World}{B:Nat}{e:TypeId}{l:L}{v:Value}{xs:List Value}(ho:w.ownsRow B e (LI.sz l) v (LI.els l).length xs)(hx:RepIs g.G (LI.els l).flatten xs):Src' g.G w l v xs:=by
 rcases own_cells ho hx with ⟨hv,he⟩ | ⟨k,cap,hv,hc,_,_,hcell,hlen⟩
 ·exact ⟨hx,ho.1,none,0,by simp [hv,he],by simp [he],by simp [he]⟩
 ·refine ⟨hx,hlen,some ⟨k,0,none⟩,cap,hv,hc,fun _=>⟨_,rfl,fun j u hu=>?_⟩⟩
  rw [addr_add,Nat.zero_add,hcell j (by have:=(List.getElem?_eq_some_iff.1 hu).1;omega)];exact hu
theorem flatten_take {α:Type}{s:Nat}:∀ {css:List (List α)} (k:Nat),(∀ c∈css,c.length=s)→(css.take k).flatten=css.flatten.take (k * s)
 | [],k,_=>by simp
 | c::r,0,_=>by simp
 | c::r,k+1,hs=>by
  have hc:c.length=s:=hs c (by simp)
  rw [List.take_succ_cons,List.flatten_cons,List.flatten_cons,flatten_take k fun c hc=>hs c (by simp [hc]),Nat.succ_mul,Nat.add_comm (k * s) s,← hc,List.take_length_add_append]
theorem ownsRow_pre [LLaws L]{w:World}{B:Nat}{e:TypeId}{l0:L}{a:Option Addr}{n cap:Nat}{xs:List Value}(ho:w.ownsRow B e (LI.sz l0) (.slice a n cap) (LI.els l0).length xs){k:Nat}(hk:k≤(LI.els l0).length) :
  w.ownsRow B e (LI.sz (LI.sub l0 0 k)) (.slice a k cap) (LI.els (LI.sub l0 0 k)).length (xs.take (k * LI.sz l0)):=by
 obtain ⟨he,hs⟩:=LLaws.sub l0 0 k
 rw [List.drop_zero] at he
 have hl:(LI.els (LI.sub l0 0 k)).length=k:=by rw [he];simp;omega
 have hmul:k * LI.sz l0≤(LI.els l0).length * LI.sz l0:=Nat.mul_le_mul_right _ hk
 refine ⟨by rw [hl,hs];have:=ho.1;simp;omega,?_⟩
 rcases ho.2 with ⟨hv,hn⟩ | ⟨g,cap',cur,hv,hb,hg,hnc,hm,hcs,ht⟩
 ·cases hv
  left
  have:k=0:=by omega
  subst this;exact ⟨rfl,hl⟩
 ·cases hv
  right
  refine ⟨g,cap,cur,by rw [hl],hb,hg,by rw [hl];omega,hm,by rw [hs];exact hcs,?_⟩
  rw [hl,hs,← ht,List.take_take,Nat.min_eq_left hmul]
theorem flatten_drop {α:Type}{s:Nat}:∀ {css:List (List α)} (k:Nat),(∀ c∈css,c.length=s)→(css.drop k).flatten=css.flatten.drop (k * s)
 | [],k,_=>by simp
 | c::r,0,_=>by simp
 | c::r,k+1,hs=>by
  have hc:c.length=s:=hs c (by simp)
  have e:(k+1) * s=c.length+k * s:=by rw [Nat.succ_mul,hc];omega
  rw [List.drop_succ_cons,List.flatten_cons,flatten_drop k fun c hc=>hs c (by simp [hc]),e,List.drop_append,List.drop_eq_nil_of_le (Nat.le_add_right _ _),List.nil_append,Nat.add_sub_cancel_left]
theorem RepIs.piece [LLaws L]{G:Fz}{l0:L}{xs:List Value}(hx:RepIs G (LI.els l0).flatten xs)(lo hi:Nat):RepIs G (LI.els (LI.sub l0 lo hi)).flatten ((xs.take (hi * LI.sz l0)).drop (lo * LI.sz l0)):=by
 obtain ⟨he,_⟩:=LLaws.sub l0 lo hi
 rw [he,flatten_drop (s:=LI.sz l0) lo (fun c hc=>LLaws.size l0 c (List.mem_of_mem_take hc)),flatten_take hi fun c hc=>LLaws.size l0 c hc]
 exact (hx.take _).drop _
theorem src_win [LLaws L]{g:Gh}{w:World}{B:Nat}{e:TypeId}{l0:L}{a:Option Addr}{n cap:Nat}{xs:List Value}(ho:w.ownsRow B e (LI.sz l0) (.slice a n cap) (LI.els l0).length xs)(hx:RepIs g.G (LI.els l0).flatten xs){lo hi:Nat}(h1:lo≤hi)(h2:hi≤(LI.els l0).length) :
  Src' g.G w (LI.sub l0 lo hi) (.slice (if cap=lo then a else a.map (·.add (lo * LI.sz l0))) (hi - lo) (cap - lo)) ((xs.take (hi * LI.sz l0)).drop (lo * LI.sz l0)):=by
 obtain ⟨he,hs⟩:=LLaws.sub l0 lo hi
 have hl:(LI.els (LI.sub l0 lo hi)).length=hi - lo:=by rw [he];simp;omega
 have hm1:hi * LI.sz l0≤(LI.els l0).length * LI.sz l0:=Nat.mul_le_mul_right _ h2
 have hm2:lo * LI.sz l0≤hi * LI.sz l0:=Nat.mul_le_mul_right _ h1
 have hxl:=ho.1
 refine ⟨hx.piece lo hi,by rw [hl,hs,Nat.sub_mul];simp;omega,_,cap - lo,by rw [hl],?_,fun hpos=>?_⟩
 ·rw [hl]
  rcases own_cells ho hx with ⟨hv,he'⟩ | ⟨k,cap',hv,hc,_⟩
  ·rw [he'] at h2;simp at h2;omega
  ·cases hv;omega
 ·rw [hl] at hpos
  rcases own_cells ho hx with ⟨hv,he'⟩ | ⟨k,cap',hv,hc,_,_,hcell,hlen⟩
  ·rw [he'] at h2;simp at h2;omega
  ·cases hv
   rw [if_neg (by omega)]
   refine ⟨_,rfl,fun j u hu=>?_⟩
   have hj:j < hi * LI.sz l0 - lo * LI.sz l0:=by have:=(List.getElem?_eq_some_iff.1 hu).1;simp at this;omega
   show w.cell? (((⟨k,0,none⟩:Addr).add (lo * LI.sz l0)).add j)=some u
   rw [addr_add,addr_add,Nat.zero_add,hcell _ (by omega)]
   rw [List.getElem?_drop,List.getElem?_take_of_lt (by omega)] at hu
   exact hu
theorem src_of [LLaws L]{U:Nat→Prop}{g:Gh}{B:Nat}{h u:Hp L}{w:World}(hr:RepH U g B h w){c:C L}{l:L}{v:Value}(hl:listOf h c=some (l,u))(hz:0 < LI.sz l)(hc:RepC g c v):∃ news,Src' g.G w l v news:=by
 unfold listOf at hl
 split at hl
 ·cases hl;exact src_fz hr.fz hz hc
 ·rename_i b
  simp only [RepC] at hc;subst hc
  split at hl
  ·rename_i hb;cases hl
   obtain ⟨xs,ho,hx,_⟩:=hr.ent b _ hb
   exact ⟨xs,src_arr ho hx⟩
  ·rename_i hb;cases hl
   exact src_fz hr.fz hz (hr.ent b _ hb).1
  ·rename_i b0 k hb
   split at hl
   ·rename_i e l0 hb0;cases hl
    obtain ⟨xs,ho,hx,_⟩:=hr.ent b0 _ hb0
    obtain ⟨hk,hsv⟩:=hr.preOf hb (.inl hb0)
    unfold Gh.v at ho ⊢
    have hp:=ownsRow_pre ho hk
    rw [hsv]
    refine ⟨_,src_arr (g:=g) hp ?_⟩
    obtain ⟨he,hs⟩:=LLaws.sub l0 0 k
    rw [he,List.drop_zero,flatten_take k fun c hc=>LLaws.size l0 c hc]
    exact hx.take _
   ·rename_i e l0 tip hb0;cases hl
    obtain ⟨hk,hsv⟩:=hr.preOf hb (.inr ⟨tip,hb0⟩)
    refine src_fz hr.fz hz ?_
    have:=listOf_rep (u':=[]) (c:=.ar b) (v:=g.v b) (g:=g) (U:=U) (B:=B) (h:=h) (u:=[]) (l:=LI.sub l0 0 k) (w:=w) (by simp [listOf,hb,hb0]) (Frz.nil h) (by simp) hr rfl
    exact this
   ·cases hl
  ·rename_i b0 z lo hi hb
   split at hl
   ·rename_i e l0 hb0
    cases hzz:Nat.beq z (LI.sz l0) with
    | false=>rw [hzz] at hl;cases hl
    | true =>
     rw [hzz] at hl;cases hl
     obtain ⟨xs,ho,hx,_⟩:=hr.ent b0 _ hb0
     obtain ⟨h1,h2,hsv⟩:=hr.winOf hb (.inl hb0)
     rw [Nat.eq_of_beq_eq_true hzz] at hsv
     unfold Gh.v at ho ⊢
     rw [hsv]
     exact ⟨_,src_win ho hx h1 h2⟩
   ·rename_i e l0 tip hb0
    cases hzz:Nat.beq z (LI.sz l0) with
    | false=>rw [hzz] at hl;cases hl
    | true =>
     rw [hzz] at hl;cases hl
     refine src_fz hr.fz hz ?_
     exact listOf_rep (u':=[]) (c:=.ar b) (v:=g.v b) (g:=g) (U:=U) (B:=B) (h:=h) (u:=[]) (l:=LI.sub l0 lo hi) (w:=w) (by simp [listOf,hb,hb0,hzz]) (Frz.nil h) (by simp) hr rfl
   ·cases hl
  ·cases hl
 ·cases hl;exact src_fz hr.fz hz hc.1
 ·split at hl
  ·rename_i l' hl';cases hl;exact src_fz hr.fz hz (RepC.empty hc hl')
  ·cases hl
 ·cases hl
end Go.Ev
/- append. -/
namespace Go.Ev
variable {L:Type} [LI L]
theorem zOk_info {P:Program}{T:Tab}(hT:TabOK P T){e:TypeId}(h:zOk T e=true) :
  ∃ info z,P.info? e=some info∧info.zero=some z∧z.cells.size=info.size∧info.bytes≤131072∧0 < info.size∧sizeT T e=info.size:=by
 unfold zOk at h
 split at h
 ·rename_i i hi
  obtain ⟨info,d,h1,_,_,h4,h5,h6⟩:=tab_info hT hi
  split at h
  ·rename_i z hz
   simp only [Bool.and_eq_true] at h
   rw [h6] at hz
   cases hzz:info.zero with
   | none=>rw [hzz] at hz;cases hz
   | some z' =>
    rw [hzz] at hz;simp at hz
    refine ⟨info,z',h1,hzz,?_,by rw [← h5];exact Nat.le_of_ble_eq_true h.1.2,by rw [← h4];exact Nat.le_of_ble_eq_true h.2,by simp [sizeT,hi,h4]⟩
    have:=Nat.eq_of_beq_eq_true h.1.1
    rw [← hz] at this;rw [← h4,← this];simp
  ·cases h
 ·cases h
theorem src_zero {P:Program}{size:Nat}{t e:TypeId}(ht:P.underlying t=some (.slice e))(a:Option Addr)(cap:Nat)(w:World):Src P size t (.slice a 0 cap) 0 [] w:=by
 refine ⟨.inl ⟨e,ht⟩,fun w'=>rfl,?_,?_,by simp,by simp⟩<;>cases a<;>simp [Builtin.firstCells,loadCells,loadCellsFrom]
theorem append_core [LLaws L]{P:Program}{T:Tab}(hT:TabOK P T){t ty e:TypeId}(ht:P.underlying t=some (.slice e))(hzok:zOk T e=true){U:Nat→Prop}{g:Gh}{B:Nat}{h1:Hp L}{w:World}(hr:RepH U g B h1 w){f:Nat}(hf:¬ U f)
  {l l2 l':L} (hsz:sizeT T e=LI.sz l2) {v v2:Value} {xs news:List Value} (happ:LI.app l l2=some l') (hfit:fits (LI.len l')=true)
  (ho:w.ownsRow B e (LI.sz l) v (LI.els l).length xs) (hx:RepIs g.G (LI.els l).flatten xs) (hs:Src' g.G w l2 v2 news)
  (hk0:∀ j,v.ownBlock=some j→B≤j∧(∀ c en,look h1 c=some en→Owns g c en→g.blk c≠j)∧∀ o z,g.G j o=some z→False) :
  ∃ k s w',(Builtin.append_ #[t,t] ty #[v,v2]).run P w=.ok (.slice s.1 s.2.1 s.2.2) w'∧RepH (fun b=>U b∨b=f) (g.withRow f k s) B ((f,.arr e l')::h1) w'∧Same w w' ∧
   (∀ j,j < w.heap.size→v.ownBlock≠some j→w'.heap[j]?=w.heap[j]?)∧(v.ownBlock=some k∨w.heap.size≤k):=by
 obtain ⟨info,z,hi,hz,hzs,hby,hpos,hsize⟩:=zOk_info hT hzok
 obtain ⟨hels,hs1,hs2⟩:=LLaws.app l l2 l' happ
 obtain ⟨a2,cap2,hv2,hc2,hcell⟩:=hs.form
 have hlen:(LI.els l').length=(LI.els l).length+(LI.els l2).length:=by rw [hels];simp
 have hfit':(LI.els l).length+(LI.els l2).length≤1073741824:=by
  have:=of_decide_eq_true hfit;rw [LLaws.len,hlen] at this;exact this
 have hszl:LI.sz l=info.size:=by rw [← hsize,hsz,← hs2,hs1]
 have hszl':LI.sz l'=info.size:=by rw [hs1];exact hszl
 have hrep:RepIs g.G (LI.els l').flatten (xs++news):=by rw [hels,List.flatten_append];exact hx.append hs.rep
 have hnosize:∀ o zz,g.G w.heap.size o=some zz→False:=fun o zz hG=>Nat.lt_irrefl _ (cell_lt (hr.fz _ _ _ hG))
 have hnewown:∀ c en,look h1 c=some en→Owns g c en→g.blk c≠w.heap.size:=fun c en hc hO he=>Nat.lt_irrefl _ (he ▸ hr.lt_size hc hO)
 have hbase:=hr.base
 by_cases hm:(LI.els l2).length=0
 ·-- nothing is appended
  have hnews:news=[]:=by have:=hs.len;rw [hm] at this;simpa using this
  subst hnews
  rw [hm] at hv2
  have hform:∃ a n cap,v=.slice a n cap∧n≤cap:=by
   rcases ho.2 with ⟨hv,_⟩ | ⟨k,cap,cur,hv,_,_,hnc,_⟩
   ·exact ⟨none,0,0,hv,Nat.le_refl _⟩
   ·exact ⟨_,_,_,hv,hnc⟩
  obtain ⟨a,n,cap,hv,hnc⟩:=hform
  subst hv
  have hrun:=run_append_nothing (P:=P) w t t ty e info ht hi a n cap hnc v2 (by rw [hv2];exact src_zero ht a2 cap2 w)
  have hrow:w.ownsRow B e (LI.sz l') (.slice a n cap) (LI.els l').length (xs++[]):=by
   rw [List.append_nil,hlen,hm,Nat.add_zero,hs1];exact ho
  cases hob:(Value.slice a n cap).ownBlock with
  | none =>
   refine ⟨w.heap.size,(a,n,cap),w,hrun,?_,.refl w,fun _ _ _=>rfl,.inr (Nat.le_refl _)⟩
   exact hr.addRow hf hbase hnewown hnosize (fun _ _ _ _=>rfl) (Nat.le_refl _) hrow hrep (fun j hj=>by rw [hob] at hj;cases hj)
  | some k =>
   obtain ⟨hB,hO,hG⟩:=hk0 k hob
   refine ⟨k,(a,n,cap),w,hrun,?_,.refl w,fun _ _ _=>rfl,.inl rfl⟩
   exact hr.addRow hf hB hO hG (fun _ _ _ _=>rfl) (Nat.le_refl _) hrow hrep (fun j hj=>by rw [hob] at hj;cases hj;rfl)
 ·obtain ⟨ad,had,hcell'⟩:=hcell (by omega)
  subst had
  rw [hszl] at ho
  have hnl:news.length=(LI.els l2).length * info.size:=by rw [hs.len,← hsz,hsize]
  have hbytes:((LI.els l).length+(LI.els l2).length) * info.bytes≤140737488355328 :=
   Nat.le_trans (Nat.mul_le_mul hfit' hby) (by decide)
  obtain ⟨k,cap,w',hrun,hrow,hgrow,hwhere,hlt⟩:=run_append_lies (P:=P) (w:=w) t ty B e info z info.size info.bytes ht hi hz rfl rfl hzs hpos v (LI.els l).length xs ho ad (LI.els l2).length cap2 news hnl hcell' hs.rep.one (by omega) (by unfold maxLen;omega) hbytes hbase w.heap.size rfl
  rw [← hv2] at hrun
  have hcond:B≤k∧(∀ c en,look h1 c=some en→Owns g c en→g.blk c≠k)∧∀ o z,g.G k o=some z→False:=by
   rcases hwhere with hk | hk
   ·exact hk0 k hk
   ·subst hk;exact ⟨hbase,hnewown,hnosize⟩
  refine ⟨k,(some ⟨k,0,none⟩,(LI.els l).length+(LI.els l2).length,cap),w',hrun,?_,⟨hgrow.os,hgrow.tape,hgrow.output,hgrow.size⟩,fun j hj hne=>hgrow.block j hj fun he=>hne he.symm,?_⟩
  ·refine hr.addRow hf hcond.1 hcond.2.1 hcond.2.2 ?_ hgrow.size (xs:=xs++news) ?_ hrep (fun j hj=>by simpa [Value.ownBlock] using hj.symm)
   ·intro j hj hne hor
    refine hgrow.block j hj fun he=>?_
    obtain ⟨_,hO,hG⟩:=hk0 j he.symm
    rcases hor with ⟨c,en,hc,hOc,hbc⟩ | ⟨o,zz,hz'⟩
    ·exact hO c en hc hOc hbc
    ·exact hG o zz hz'
   ·rw [hszl',hlen];exact hrow
  ·rcases hwhere with hk | hk
   ·exact .inl hk
   ·exact .inr (by omega)
end Go.Ev
