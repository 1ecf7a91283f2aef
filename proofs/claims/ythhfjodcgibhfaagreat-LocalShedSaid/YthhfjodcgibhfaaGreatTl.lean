/- By program (gen.py): the typed lists of this program, and their laws. -/
import Derived.Test.YthhfjodcgibhfaaGreatTab
import Derived.Test.YthhfjodcgibhfaaGreatEd
namespace Go.Proofs.YthhfjodcgibhfaaGreat
open Go Go.Ev
structure BoundsError where
 x:Int
 y:Int
 signed:Bool
 code:Int
structure ErrorAddressString where
 msg:ByteArray
 addr:Int
structure Slice where
 key:ByteArray
 up_:Int
 down_:Int
 usedUp:Int
 usedDown:Int
structure Range where
 from_:Int
 to_:Int
structure Lease where
 device:Int
 epoch:Int
 until_:Int
 last:Int
 slices:List Slice
 ids:List Range
 used:List Int
structure Dot where
 device:Int
 epoch:Int
 seq:Int
structure Op where
 dot:Dot
 coll:Int
 ver:Int
 kind:Int
 key:ByteArray
 text:ByteArray
 n:Int
 time:Int
 dots:List Dot
structure Reg where
 key:ByteArray
 text:ByteArray
 ver:Int
 time:Int
 dot:Dot
structure Elem where
 key:ByteArray
 text:ByteArray
 ver:Int
 dot:Dot
structure Sum where
 key:ByteArray
 n:Int
structure Bind where
 id_:Int
 text:ByteArray
 ver:Int
 dot:Dot
structure Coll where
 v:List Dot
 regs:List Reg
 elems:List Elem
 gone:List Dot
 sums:List Sum
 binds:List Bind
structure A3Coll where
 a0:Coll
 a1:Coll
 a2:Coll
structure Want where
 key:ByteArray
 up_:Int
 down_:Int
 ids:Int
structure Cmd where
 kind:Int
 device:Int
 epoch:Int
 req:Int
 n:Int
 wants:List Want
 ops:List Op
structure State where
 device:Int
 epoch:Int
 lease:Lease
 ends:Int
 seq:Int
 sent:Int
 pending:List Op
 colls:A3Coll
 at_:Int
 ver:Int
 subs:List Bool
 req:Int
 asked:Int
 cmd:Cmd
 fenced:Bool
 now:Int
structure Reply where
 err:Int
 n:Int
 lease:Lease
structure Pair where
 device:Int
 epoch:Int
inductive TL where
 | lSlice (l:List Slice)
 | lRange (l:List Range)
 | lInt (l:List Int)
 | lDot (l:List Dot)
 | lOp (l:List Op)
 | lReg (l:List Reg)
 | lElem (l:List Elem)
 | lSum (l:List Sum)
 | lBind (l:List Bind)
 | lBool (l:List Bool)
 | lWant (l:List Want)
 | lU8 (l:List Int)
def iOf (k:IntKind)(x:I TL):Option Int:=match x with | .lit k1 n=>cond (keq k1 k) (some n) none | .int k1 n=>cond (keq k1 k) (some n) none | _=>none
def bOf (x:I TL):Option Bool:=match x with | .tt=>some true | .ff=>some false | .bool b=>some b | _=>none
def sOf (x:I TL):Option ByteArray:=match x with | .str s=>some s | _=>none
def of_lSlice (x:I TL):Option (List Slice):=match x with | .fz (.lSlice l)=>some l | .val (.slice none 0 0)=>some [] | _=>none
def of_lRange (x:I TL):Option (List Range):=match x with | .fz (.lRange l)=>some l | .val (.slice none 0 0)=>some [] | _=>none
def of_lInt (x:I TL):Option (List Int):=match x with | .fz (.lInt l)=>some l | .val (.slice none 0 0)=>some [] | _=>none
def of_lDot (x:I TL):Option (List Dot):=match x with | .fz (.lDot l)=>some l | .val (.slice none 0 0)=>some [] | _=>none
def of_lOp (x:I TL):Option (List Op):=match x with | .fz (.lOp l)=>some l | .val (.slice none 0 0)=>some [] | _=>none
def of_lReg (x:I TL):Option (List Reg):=match x with | .fz (.lReg l)=>some l | .val (.slice none 0 0)=>some [] | _=>none
def of_lElem (x:I TL):Option (List Elem):=match x with | .fz (.lElem l)=>some l | .val (.slice none 0 0)=>some [] | _=>none
def of_lSum (x:I TL):Option (List Sum):=match x with | .fz (.lSum l)=>some l | .val (.slice none 0 0)=>some [] | _=>none
def of_lBind (x:I TL):Option (List Bind):=match x with | .fz (.lBind l)=>some l | .val (.slice none 0 0)=>some [] | _=>none
def of_lBool (x:I TL):Option (List Bool):=match x with | .fz (.lBool l)=>some l | .val (.slice none 0 0)=>some [] | _=>none
def of_lWant (x:I TL):Option (List Want):=match x with | .fz (.lWant l)=>some l | .val (.slice none 0 0)=>some [] | _=>none
def of_lU8 (x:I TL):Option (List Int):=match x with | .fz (.lU8 l)=>some l | .val (.slice none 0 0)=>some [] | _=>none
def v_BoundsErrorC (x:BoundsError):List (I TL):=[.int .i64 x.x,.int .i64 x.y,.bool x.signed,.int .u8 x.code]
def v_BoundsErrorMk (l:List (I TL)):Option BoundsError:=match l with | x0::x1::x2::x3::[]=>(match iOf .i64 x0 with | some y0=>(match iOf .i64 x1 with | some y1=>(match bOf x2 with | some y2=>(match iOf .u8 x3 with | some y3=>(some (BoundsError.mk y0 y1 y2 y3)) | none=>none) | none=>none) | none=>none) | none=>none) | _=>none
def v_ErrorAddressStringC (x:ErrorAddressString):List (I TL):=[.str x.msg,.int .u64 x.addr]
def v_ErrorAddressStringMk (l:List (I TL)):Option ErrorAddressString:=match l with | x0::x1::[]=>(match sOf x0 with | some y0=>(match iOf .u64 x1 with | some y1=>(some (ErrorAddressString.mk y0 y1)) | none=>none) | none=>none) | _=>none
def v_SliceC (x:Slice):List (I TL):=[.str x.key,.int .i64 x.up_,.int .i64 x.down_,.int .i64 x.usedUp,.int .i64 x.usedDown]
def v_SliceMk (l:List (I TL)):Option Slice:=match l with | x0::x1::x2::x3::x4::[]=>(match sOf x0 with | some y0=>(match iOf .i64 x1 with | some y1=>(match iOf .i64 x2 with | some y2=>(match iOf .i64 x3 with | some y3=>(match iOf .i64 x4 with | some y4=>(some (Slice.mk y0 y1 y2 y3 y4)) | none=>none) | none=>none) | none=>none) | none=>none) | none=>none) | _=>none
def v_RangeC (x:Range):List (I TL):=[.int .i64 x.from_,.int .i64 x.to_]
def v_RangeMk (l:List (I TL)):Option Range:=match l with | x0::x1::[]=>(match iOf .i64 x0 with | some y0=>(match iOf .i64 x1 with | some y1=>(some (Range.mk y0 y1)) | none=>none) | none=>none) | _=>none
def v_LeaseC (x:Lease):List (I TL):=[.int .i64 x.device,.int .i64 x.epoch,.int .i64 x.until_,.int .i64 x.last,.fz (.lSlice x.slices),.fz (.lRange x.ids),.fz (.lInt x.used)]
def v_LeaseMk (l:List (I TL)):Option Lease:=match l with | x0::x1::x2::x3::x4::x5::x6::[]=>(match iOf .i64 x0 with | some y0=>(match iOf .i64 x1 with | some y1=>(match iOf .i64 x2 with | some y2=>(match iOf .i64 x3 with | some y3=>(match of_lSlice x4 with | some y4=>(match of_lRange x5 with | some y5=>(match of_lInt x6 with | some y6=>(some (Lease.mk y0 y1 y2 y3 y4 y5 y6)) | none=>none) | none=>none) | none=>none) | none=>none) | none=>none) | none=>none) | none=>none) | _=>none
def v_DotC (x:Dot):List (I TL):=[.int .i64 x.device,.int .i64 x.epoch,.int .i64 x.seq]
def v_DotMk (l:List (I TL)):Option Dot:=match l with | x0::x1::x2::[]=>(match iOf .i64 x0 with | some y0=>(match iOf .i64 x1 with | some y1=>(match iOf .i64 x2 with | some y2=>(some (Dot.mk y0 y1 y2)) | none=>none) | none=>none) | none=>none) | _=>none
def v_OpC (x:Op):List (I TL):=[.int .i64 x.dot.device,.int .i64 x.dot.epoch,.int .i64 x.dot.seq,.int .i64 x.coll,.int .i64 x.ver,.int .i64 x.kind,.str x.key,.str x.text,.int .i64 x.n,.int .i64 x.time,.fz (.lDot x.dots)]
def v_OpMk (l:List (I TL)):Option Op:=match l with | x0::x1::x2::x3::x4::x5::x6::x7::x8::x9::x10::[]=>(match iOf .i64 x0 with | some y0=>(match iOf .i64 x1 with | some y1=>(match iOf .i64 x2 with | some y2=>(match iOf .i64 x3 with | some y3=>(match iOf .i64 x4 with | some y4=>(match iOf .i64 x5 with | some y5=>(match sOf x6 with | some y6=>(match sOf x7 with | some y7=>(match iOf .i64 x8 with | some y8=>(match iOf .i64 x9 with | some y9=>(match of_lDot x10 with | some y10=>(some (Op.mk (Dot.mk y0 y1 y2) y3 y4 y5 y6 y7 y8 y9 y10)) | none=>none) | none=>none) | none=>none) | none=>none) | none=>none) | none=>none) | none=>none) | none=>none) | none=>none) | none=>none) | none=>none) | _=>none
def v_RegC (x:Reg):List (I TL):=[.str x.key,.str x.text,.int .i64 x.ver,.int .i64 x.time,.int .i64 x.dot.device,.int .i64 x.dot.epoch,.int .i64 x.dot.seq]
def v_RegMk (l:List (I TL)):Option Reg:=match l with | x0::x1::x2::x3::x4::x5::x6::[]=>(match sOf x0 with | some y0=>(match sOf x1 with | some y1=>(match iOf .i64 x2 with | some y2=>(match iOf .i64 x3 with | some y3=>(match iOf .i64 x4 with | some y4=>(match iOf .i64 x5 with | some y5=>(match iOf .i64 x6 with | some y6=>(some (Reg.mk y0 y1 y2 y3 (Dot.mk y4 y5 y6))) | none=>none) | none=>none) | none=>none) | none=>none) | none=>none) | none=>none) | none=>none) | _=>none
def v_ElemC (x:Elem):List (I TL):=[.str x.key,.str x.text,.int .i64 x.ver,.int .i64 x.dot.device,.int .i64 x.dot.epoch,.int .i64 x.dot.seq]
def v_ElemMk (l:List (I TL)):Option Elem:=match l with | x0::x1::x2::x3::x4::x5::[]=>(match sOf x0 with | some y0=>(match sOf x1 with | some y1=>(match iOf .i64 x2 with | some y2=>(match iOf .i64 x3 with | some y3=>(match iOf .i64 x4 with | some y4=>(match iOf .i64 x5 with | some y5=>(some (Elem.mk y0 y1 y2 (Dot.mk y3 y4 y5))) | none=>none) | none=>none) | none=>none) | none=>none) | none=>none) | none=>none) | _=>none
def v_SumC (x:Sum):List (I TL):=[.str x.key,.int .i64 x.n]
def v_SumMk (l:List (I TL)):Option Sum:=match l with | x0::x1::[]=>(match sOf x0 with | some y0=>(match iOf .i64 x1 with | some y1=>(some (Sum.mk y0 y1)) | none=>none) | none=>none) | _=>none
def v_BindC (x:Bind):List (I TL):=[.int .i64 x.id_,.str x.text,.int .i64 x.ver,.int .i64 x.dot.device,.int .i64 x.dot.epoch,.int .i64 x.dot.seq]
def v_BindMk (l:List (I TL)):Option Bind:=match l with | x0::x1::x2::x3::x4::x5::[]=>(match iOf .i64 x0 with | some y0=>(match sOf x1 with | some y1=>(match iOf .i64 x2 with | some y2=>(match iOf .i64 x3 with | some y3=>(match iOf .i64 x4 with | some y4=>(match iOf .i64 x5 with | some y5=>(some (Bind.mk y0 y1 y2 (Dot.mk y3 y4 y5))) | none=>none) | none=>none) | none=>none) | none=>none) | none=>none) | none=>none) | _=>none
def v_CollC (x:Coll):List (I TL):=[.fz (.lDot x.v),.fz (.lReg x.regs),.fz (.lElem x.elems),.fz (.lDot x.gone),.fz (.lSum x.sums),.fz (.lBind x.binds)]
def v_CollMk (l:List (I TL)):Option Coll:=match l with | x0::x1::x2::x3::x4::x5::[]=>(match of_lDot x0 with | some y0=>(match of_lReg x1 with | some y1=>(match of_lElem x2 with | some y2=>(match of_lDot x3 with | some y3=>(match of_lSum x4 with | some y4=>(match of_lBind x5 with | some y5=>(some (Coll.mk y0 y1 y2 y3 y4 y5)) | none=>none) | none=>none) | none=>none) | none=>none) | none=>none) | none=>none) | _=>none
def v_A3CollC (x:A3Coll):List (I TL):=[.fz (.lDot x.a0.v),.fz (.lReg x.a0.regs),.fz (.lElem x.a0.elems),.fz (.lDot x.a0.gone),.fz (.lSum x.a0.sums),.fz (.lBind x.a0.binds),.fz (.lDot x.a1.v),.fz (.lReg x.a1.regs),.fz (.lElem x.a1.elems),.fz (.lDot x.a1.gone),.fz (.lSum x.a1.sums),.fz (.lBind x.a1.binds),.fz (.lDot x.a2.v),.fz (.lReg x.a2.regs),.fz (.lElem x.a2.elems),.fz (.lDot x.a2.gone),.fz (.lSum x.a2.sums),.fz (.lBind x.a2.binds)]
def v_A3CollMk (l:List (I TL)):Option A3Coll:=match l with | x0::x1::x2::x3::x4::x5::x6::x7::x8::x9::x10::x11::x12::x13::x14::x15::x16::x17::[]=>(match of_lDot x0 with | some y0=>(match of_lReg x1 with | some y1=>(match of_lElem x2 with | some y2=>(match of_lDot x3 with | some y3=>(match of_lSum x4 with | some y4=>(match of_lBind x5 with | some y5=>(match of_lDot x6 with | some y6=>(match of_lReg x7 with | some y7=>(match of_lElem x8 with | some y8=>(match of_lDot x9 with | some y9=>(match of_lSum x10 with | some y10=>(match of_lBind x11 with | some y11=>(match of_lDot x12 with | some y12=>(match of_lReg x13 with | some y13=>(match of_lElem x14 with | some y14=>(match of_lDot x15 with | some y15=>(match of_lSum x16 with | some y16=>(match of_lBind x17 with | some y17=>(some (A3Coll.mk (Coll.mk y0 y1 y2 y3 y4 y5) (Coll.mk y6 y7 y8 y9 y10 y11) (Coll.mk y12 y13 y14 y15 y16 y17))) | none=>none) | none=>none) | none=>none) | none=>none) | none=>none) | none=>none) | none=>none) | none=>none) | none=>none) | none=>none) | none=>none) | none=>none) | none=>none) | none=>none) | none=>none) | none=>none) | none=>none) | none=>none) | _=>none
def v_WantC (x:Want):List (I TL):=[.str x.key,.int .i64 x.up_,.int .i64 x.down_,.int .i64 x.ids]
def v_WantMk (l:List (I TL)):Option Want:=match l with | x0::x1::x2::x3::[]=>(match sOf x0 with | some y0=>(match iOf .i64 x1 with | some y1=>(match iOf .i64 x2 with | some y2=>(match iOf .i64 x3 with | some y3=>(some (Want.mk y0 y1 y2 y3)) | none=>none) | none=>none) | none=>none) | none=>none) | _=>none
def v_CmdC (x:Cmd):List (I TL):=[.int .i64 x.kind,.int .i64 x.device,.int .i64 x.epoch,.int .i64 x.req,.int .i64 x.n,.fz (.lWant x.wants),.fz (.lOp x.ops)]
def v_CmdMk (l:List (I TL)):Option Cmd:=match l with | x0::x1::x2::x3::x4::x5::x6::[]=>(match iOf .i64 x0 with | some y0=>(match iOf .i64 x1 with | some y1=>(match iOf .i64 x2 with | some y2=>(match iOf .i64 x3 with | some y3=>(match iOf .i64 x4 with | some y4=>(match of_lWant x5 with | some y5=>(match of_lOp x6 with | some y6=>(some (Cmd.mk y0 y1 y2 y3 y4 y5 y6)) | none=>none) | none=>none) | none=>none) | none=>none) | none=>none) | none=>none) | none=>none) | _=>none
def v_ReplyC (x:Reply):List (I TL):=[.int .i64 x.err,.int .i64 x.n,.int .i64 x.lease.device,.int .i64 x.lease.epoch,.int .i64 x.lease.until_,.int .i64 x.lease.last,.fz (.lSlice x.lease.slices),.fz (.lRange x.lease.ids),.fz (.lInt x.lease.used)]
def v_ReplyMk (l:List (I TL)):Option Reply:=match l with | x0::x1::x2::x3::x4::x5::x6::x7::x8::[]=>(match iOf .i64 x0 with | some y0=>(match iOf .i64 x1 with | some y1=>(match iOf .i64 x2 with | some y2=>(match iOf .i64 x3 with | some y3=>(match iOf .i64 x4 with | some y4=>(match iOf .i64 x5 with | some y5=>(match of_lSlice x6 with | some y6=>(match of_lRange x7 with | some y7=>(match of_lInt x8 with | some y8=>(some (Reply.mk y0 y1 (Lease.mk y2 y3 y4 y5 y6 y7 y8))) | none=>none) | none=>none) | none=>none) | none=>none) | none=>none) | none=>none) | none=>none) | none=>none) | none=>none) | _=>none
def v_PairC (x:Pair):List (I TL):=[.int .i64 x.device,.int .i64 x.epoch]
def v_PairMk (l:List (I TL)):Option Pair:=match l with | x0::x1::[]=>(match iOf .i64 x0 with | some y0=>(match iOf .i64 x1 with | some y1=>(some (Pair.mk y0 y1)) | none=>none) | none=>none) | _=>none
def v_IntC (x:Int):List (I TL):=[.int .i64 x]
def v_IntMk (l:List (I TL)):Option Int:=match l with | x0::[]=>(match iOf .i64 x0 with | some y0=>(some y0) | none=>none) | _=>none
def v_BoolC (x:Bool):List (I TL):=[.bool x]
def v_BoolMk (l:List (I TL)):Option Bool:=match l with | x0::[]=>(match bOf x0 with | some y0=>(some y0) | none=>none) | _=>none
def v_U8C (x:Int):List (I TL):=[.int .u8 x]
def v_U8Mk (l:List (I TL)):Option Int:=match l with | x0::[]=>(match iOf .u8 x0 with | some y0=>(some y0) | none=>none) | _=>none
def mks_lSlice:List (List (I TL))→Option (List Slice)
 | []=>some []
 | c::r=>match v_SliceMk c,mks_lSlice r with | some x,some xs=>some (x::xs) | _,_=>none
def mks_lRange:List (List (I TL))→Option (List Range)
 | []=>some []
 | c::r=>match v_RangeMk c,mks_lRange r with | some x,some xs=>some (x::xs) | _,_=>none
def mks_lInt:List (List (I TL))→Option (List Int)
 | []=>some []
 | c::r=>match v_IntMk c,mks_lInt r with | some x,some xs=>some (x::xs) | _,_=>none
def mks_lDot:List (List (I TL))→Option (List Dot)
 | []=>some []
 | c::r=>match v_DotMk c,mks_lDot r with | some x,some xs=>some (x::xs) | _,_=>none
def mks_lOp:List (List (I TL))→Option (List Op)
 | []=>some []
 | c::r=>match v_OpMk c,mks_lOp r with | some x,some xs=>some (x::xs) | _,_=>none
def mks_lReg:List (List (I TL))→Option (List Reg)
 | []=>some []
 | c::r=>match v_RegMk c,mks_lReg r with | some x,some xs=>some (x::xs) | _,_=>none
def mks_lElem:List (List (I TL))→Option (List Elem)
 | []=>some []
 | c::r=>match v_ElemMk c,mks_lElem r with | some x,some xs=>some (x::xs) | _,_=>none
def mks_lSum:List (List (I TL))→Option (List Sum)
 | []=>some []
 | c::r=>match v_SumMk c,mks_lSum r with | some x,some xs=>some (x::xs) | _,_=>none
def mks_lBind:List (List (I TL))→Option (List Bind)
 | []=>some []
 | c::r=>match v_BindMk c,mks_lBind r with | some x,some xs=>some (x::xs) | _,_=>none
def mks_lBool:List (List (I TL))→Option (List Bool)
 | []=>some []
 | c::r=>match v_BoolMk c,mks_lBool r with | some x,some xs=>some (x::xs) | _,_=>none
def mks_lWant:List (List (I TL))→Option (List Want)
 | []=>some []
 | c::r=>match v_WantMk c,mks_lWant r with | some x,some xs=>some (x::xs) | _,_=>none
def mks_lU8:List (List (I TL))→Option (List Int)
 | []=>some []
 | c::r=>match v_U8Mk c,mks_lU8 r with | some x,some xs=>some (x::xs) | _,_=>none
instance:LI TL where
 kn:=false
 selT:=fun _=>false
 els:=fun
  | .lSlice l=>l.map v_SliceC
  | .lRange l=>l.map v_RangeC
  | .lInt l=>l.map v_IntC
  | .lDot l=>l.map v_DotC
  | .lOp l=>l.map v_OpC
  | .lReg l=>l.map v_RegC
  | .lElem l=>l.map v_ElemC
  | .lSum l=>l.map v_SumC
  | .lBind l=>l.map v_BindC
  | .lBool l=>l.map v_BoolC
  | .lWant l=>l.map v_WantC
  | .lU8 l=>l.map v_U8C
 sz:=fun
  | .lSlice _=>5
  | .lRange _=>2
  | .lInt _=>1
  | .lDot _=>3
  | .lOp _=>11
  | .lReg _=>7
  | .lElem _=>6
  | .lSum _=>2
  | .lBind _=>6
  | .lBool _=>1
  | .lWant _=>4
  | .lU8 _=>1
 len:=fun
  | .lSlice l=>l.length
  | .lRange l=>l.length
  | .lInt l=>l.length
  | .lDot l=>l.length
  | .lOp l=>l.length
  | .lReg l=>l.length
  | .lElem l=>l.length
  | .lSum l=>l.length
  | .lBind l=>l.length
  | .lBool l=>l.length
  | .lWant l=>l.length
  | .lU8 l=>l.length
 idx:=fun x i k=>match x with
  | .lSlice l=>ob l[i]? fun x=>k (v_SliceC x)
  | .lRange l=>ob l[i]? fun x=>k (v_RangeC x)
  | .lInt l=>ob l[i]? fun x=>k (v_IntC x)
  | .lDot l=>ob l[i]? fun x=>k (v_DotC x)
  | .lOp l=>ob l[i]? fun x=>k (v_OpC x)
  | .lReg l=>ob l[i]? fun x=>k (v_RegC x)
  | .lElem l=>ob l[i]? fun x=>k (v_ElemC x)
  | .lSum l=>ob l[i]? fun x=>k (v_SumC x)
  | .lBind l=>ob l[i]? fun x=>k (v_BindC x)
  | .lBool l=>ob l[i]? fun x=>k (v_BoolC x)
  | .lWant l=>ob l[i]? fun x=>k (v_WantC x)
  | .lU8 l=>ob l[i]? fun x=>k (v_U8C x)
 mkL:=fun t cs=>match t with
  | 62=>match mks_lSlice cs with | some l=>some (.lSlice l) | none=>none
  | 98=>match mks_lRange cs with | some l=>some (.lRange l) | none=>none
  | 3=>match mks_lInt cs with | some l=>some (.lInt l) | none=>none
  | 48 | 112=>match mks_lDot cs with | some l=>some (.lDot l) | none=>none
  | 50=>match mks_lOp cs with | some l=>some (.lOp l) | none=>none
  | 103=>match mks_lReg cs with | some l=>some (.lReg l) | none=>none
  | 100=>match mks_lElem cs with | some l=>some (.lElem l) | none=>none
  | 118=>match mks_lSum cs with | some l=>some (.lSum l) | none=>none
  | 121=>match mks_lBind cs with | some l=>some (.lBind l) | none=>none
  | 4=>match mks_lBool cs with | some l=>some (.lBool l) | none=>none
  | 89=>match mks_lWant cs with | some l=>some (.lWant l) | none=>none
  | 5=>match mks_lU8 cs with | some l=>some (.lU8 l) | none=>none
  | _=>none
 bytes:=fun
  | .lU8 l=>some (strOfInts l)
  | _=>none
 ofStr:=fun t s=>match t with
  | 5=>some (.lU8 (intsOfStr s))
  | _=>none
 app:=fun x y=>match x,y with
  | .lSlice a,.lSlice b=>some (.lSlice (a++b))
  | .lRange a,.lRange b=>some (.lRange (a++b))
  | .lInt a,.lInt b=>some (.lInt (a++b))
  | .lDot a,.lDot b=>some (.lDot (a++b))
  | .lOp a,.lOp b=>some (.lOp (a++b))
  | .lReg a,.lReg b=>some (.lReg (a++b))
  | .lElem a,.lElem b=>some (.lElem (a++b))
  | .lSum a,.lSum b=>some (.lSum (a++b))
  | .lBind a,.lBind b=>some (.lBind (a++b))
  | .lBool a,.lBool b=>some (.lBool (a++b))
  | .lWant a,.lWant b=>some (.lWant (a++b))
  | .lU8 a,.lU8 b=>some (.lU8 (a++b))
  | _,_=>none
 sub:=fun x lo hi=>match x with
  | .lSlice l=>.lSlice ((l.take hi).drop lo)
  | .lRange l=>.lRange ((l.take hi).drop lo)
  | .lInt l=>.lInt ((l.take hi).drop lo)
  | .lDot l=>.lDot ((l.take hi).drop lo)
  | .lOp l=>.lOp ((l.take hi).drop lo)
  | .lReg l=>.lReg ((l.take hi).drop lo)
  | .lElem l=>.lElem ((l.take hi).drop lo)
  | .lSum l=>.lSum ((l.take hi).drop lo)
  | .lBind l=>.lBind ((l.take hi).drop lo)
  | .lBool l=>.lBool ((l.take hi).drop lo)
  | .lWant l=>.lWant ((l.take hi).drop lo)
  | .lU8 l=>.lU8 ((l.take hi).drop lo)
 set:=fun x i cs=>match x with
  | .lSlice l=>match v_SliceMk cs with | some y=>some (.lSlice (l.set i y)) | none=>none
  | .lRange l=>match v_RangeMk cs with | some y=>some (.lRange (l.set i y)) | none=>none
  | .lInt l=>match v_IntMk cs with | some y=>some (.lInt (l.set i y)) | none=>none
  | .lDot l=>match v_DotMk cs with | some y=>some (.lDot (l.set i y)) | none=>none
  | .lOp l=>match v_OpMk cs with | some y=>some (.lOp (l.set i y)) | none=>none
  | .lReg l=>match v_RegMk cs with | some y=>some (.lReg (l.set i y)) | none=>none
  | .lElem l=>match v_ElemMk cs with | some y=>some (.lElem (l.set i y)) | none=>none
  | .lSum l=>match v_SumMk cs with | some y=>some (.lSum (l.set i y)) | none=>none
  | .lBind l=>match v_BindMk cs with | some y=>some (.lBind (l.set i y)) | none=>none
  | .lBool l=>match v_BoolMk cs with | some y=>some (.lBool (l.set i y)) | none=>none
  | .lWant l=>match v_WantMk cs with | some y=>some (.lWant (l.set i y)) | none=>none
  | .lU8 l=>match v_U8Mk cs with | some y=>some (.lU8 (l.set i y)) | none=>none
 rep:=fun t n=>match t with
  | 62=>some (.lSlice (List.replicate n (Slice.mk ⟨#[]⟩ 0 0 0 0)))
  | 98=>some (.lRange (List.replicate n (Range.mk 0 0)))
  | 3=>some (.lInt (List.replicate n 0))
  | 48 | 112=>some (.lDot (List.replicate n (Dot.mk 0 0 0)))
  | 50=>some (.lOp (List.replicate n (Op.mk (Dot.mk 0 0 0) 0 0 0 ⟨#[]⟩ ⟨#[]⟩ 0 0 [])))
  | 103=>some (.lReg (List.replicate n (Reg.mk ⟨#[]⟩ ⟨#[]⟩ 0 0 (Dot.mk 0 0 0))))
  | 100=>some (.lElem (List.replicate n (Elem.mk ⟨#[]⟩ ⟨#[]⟩ 0 (Dot.mk 0 0 0))))
  | 118=>some (.lSum (List.replicate n (Sum.mk ⟨#[]⟩ 0)))
  | 121=>some (.lBind (List.replicate n (Bind.mk 0 ⟨#[]⟩ 0 (Dot.mk 0 0 0))))
  | 4=>some (.lBool (List.replicate n false))
  | 89=>some (.lWant (List.replicate n (Want.mk ⟨#[]⟩ 0 0 0)))
  | 5=>some (.lU8 (List.replicate n 0))
  | _=>none
 mrg:=fun c x y=>match x,y with
  | .lSlice a,.lSlice b=>some (.lSlice (cond c a b))
  | .lRange a,.lRange b=>some (.lRange (cond c a b))
  | .lInt a,.lInt b=>some (.lInt (cond c a b))
  | .lDot a,.lDot b=>some (.lDot (cond c a b))
  | .lOp a,.lOp b=>some (.lOp (cond c a b))
  | .lReg a,.lReg b=>some (.lReg (cond c a b))
  | .lElem a,.lElem b=>some (.lElem (cond c a b))
  | .lSum a,.lSum b=>some (.lSum (cond c a b))
  | .lBind a,.lBind b=>some (.lBind (cond c a b))
  | .lBool a,.lBool b=>some (.lBool (cond c a b))
  | .lWant a,.lWant b=>some (.lWant (cond c a b))
  | .lU8 a,.lU8 b=>some (.lU8 (cond c a b))
  | _,_=>none
 flat:=fun
  | .lSlice _=>true
  | .lRange _=>true
  | .lInt _=>true
  | .lDot _=>true
  | .lOp _=>false
  | .lReg _=>true
  | .lElem _=>true
  | .lSum _=>true
  | .lBind _=>true
  | .lBool _=>true
  | .lWant _=>true
  | .lU8 _=>true
theorem iOf_le {k:IntKind}{x:I TL}{n:Int}(h:iOf k x=some n):Le x (.int k n):=(DI.int (L:=TL) k).ok _ _ (by cases x<;>exact h)
theorem bOf_le {x:I TL}{b:Bool}(h:bOf x=some b):Le x (.bool b):=(DI.bool (L:=TL)).ok _ _ (by cases x<;>exact h)
theorem sOf_le {x:I TL}{s:ByteArray}(h:sOf x=some s):Le x (.str s):=by
 unfold sOf at h
 split at h
 ·cases h;exact fun _ _ hv=>hv
 ·cases h
theorem of_lSlice_le {x:I TL}{l:List Slice}(h:of_lSlice x=some l):Le x (.fz (.lSlice l)):=by
 unfold of_lSlice at h
 split at h
 ·cases h;exact fun _ _ hv=>hv
 ·cases h
  intro G v hv
  cases hv
  exact .fz (k:=0) (o:=0) (vals:=fun _ _=>undef) rfl (Nat.le_refl _) (fun h=>absurd h (Nat.lt_irrefl _)) (fun i j cs x h=>by simp [LI.els] at h) (fun i j cs x h=>by simp [LI.els] at h)
 ·cases h
theorem of_lRange_le {x:I TL}{l:List Range}(h:of_lRange x=some l):Le x (.fz (.lRange l)):=by
 unfold of_lRange at h
 split at h
 ·cases h;exact fun _ _ hv=>hv
 ·cases h
  intro G v hv
  cases hv
  exact .fz (k:=0) (o:=0) (vals:=fun _ _=>undef) rfl (Nat.le_refl _) (fun h=>absurd h (Nat.lt_irrefl _)) (fun i j cs x h=>by simp [LI.els] at h) (fun i j cs x h=>by simp [LI.els] at h)
 ·cases h
theorem of_lInt_le {x:I TL}{l:List Int}(h:of_lInt x=some l):Le x (.fz (.lInt l)):=by
 unfold of_lInt at h
 split at h
 ·cases h;exact fun _ _ hv=>hv
 ·cases h
  intro G v hv
  cases hv
  exact .fz (k:=0) (o:=0) (vals:=fun _ _=>undef) rfl (Nat.le_refl _) (fun h=>absurd h (Nat.lt_irrefl _)) (fun i j cs x h=>by simp [LI.els] at h) (fun i j cs x h=>by simp [LI.els] at h)
 ·cases h
theorem of_lDot_le {x:I TL}{l:List Dot}(h:of_lDot x=some l):Le x (.fz (.lDot l)):=by
 unfold of_lDot at h
 split at h
 ·cases h;exact fun _ _ hv=>hv
 ·cases h
  intro G v hv
  cases hv
  exact .fz (k:=0) (o:=0) (vals:=fun _ _=>undef) rfl (Nat.le_refl _) (fun h=>absurd h (Nat.lt_irrefl _)) (fun i j cs x h=>by simp [LI.els] at h) (fun i j cs x h=>by simp [LI.els] at h)
 ·cases h
theorem of_lOp_le {x:I TL}{l:List Op}(h:of_lOp x=some l):Le x (.fz (.lOp l)):=by
 unfold of_lOp at h
 split at h
 ·cases h;exact fun _ _ hv=>hv
 ·cases h
  intro G v hv
  cases hv
  exact .fz (k:=0) (o:=0) (vals:=fun _ _=>undef) rfl (Nat.le_refl _) (fun h=>absurd h (Nat.lt_irrefl _)) (fun i j cs x h=>by simp [LI.els] at h) (fun i j cs x h=>by simp [LI.els] at h)
 ·cases h
theorem of_lReg_le {x:I TL}{l:List Reg}(h:of_lReg x=some l):Le x (.fz (.lReg l)):=by
 unfold of_lReg at h
 split at h
 ·cases h;exact fun _ _ hv=>hv
 ·cases h
  intro G v hv
  cases hv
  exact .fz (k:=0) (o:=0) (vals:=fun _ _=>undef) rfl (Nat.le_refl _) (fun h=>absurd h (Nat.lt_irrefl _)) (fun i j cs x h=>by simp [LI.els] at h) (fun i j cs x h=>by simp [LI.els] at h)
 ·cases h
theorem of_lElem_le {x:I TL}{l:List Elem}(h:of_lElem x=some l):Le x (.fz (.lElem l)):=by
 unfold of_lElem at h
 split at h
 ·cases h;exact fun _ _ hv=>hv
 ·cases h
  intro G v hv
  cases hv
  exact .fz (k:=0) (o:=0) (vals:=fun _ _=>undef) rfl (Nat.le_refl _) (fun h=>absurd h (Nat.lt_irrefl _)) (fun i j cs x h=>by simp [LI.els] at h) (fun i j cs x h=>by simp [LI.els] at h)
 ·cases h
theorem of_lSum_le {x:I TL}{l:List Sum}(h:of_lSum x=some l):Le x (.fz (.lSum l)):=by
 unfold of_lSum at h
 split at h
 ·cases h;exact fun _ _ hv=>hv
 ·cases h
  intro G v hv
  cases hv
  exact .fz (k:=0) (o:=0) (vals:=fun _ _=>undef) rfl (Nat.le_refl _) (fun h=>absurd h (Nat.lt_irrefl _)) (fun i j cs x h=>by simp [LI.els] at h) (fun i j cs x h=>by simp [LI.els] at h)
 ·cases h
theorem of_lBind_le {x:I TL}{l:List Bind}(h:of_lBind x=some l):Le x (.fz (.lBind l)):=by
 unfold of_lBind at h
 split at h
 ·cases h;exact fun _ _ hv=>hv
 ·cases h
  intro G v hv
  cases hv
  exact .fz (k:=0) (o:=0) (vals:=fun _ _=>undef) rfl (Nat.le_refl _) (fun h=>absurd h (Nat.lt_irrefl _)) (fun i j cs x h=>by simp [LI.els] at h) (fun i j cs x h=>by simp [LI.els] at h)
 ·cases h
theorem of_lBool_le {x:I TL}{l:List Bool}(h:of_lBool x=some l):Le x (.fz (.lBool l)):=by
 unfold of_lBool at h
 split at h
 ·cases h;exact fun _ _ hv=>hv
 ·cases h
  intro G v hv
  cases hv
  exact .fz (k:=0) (o:=0) (vals:=fun _ _=>undef) rfl (Nat.le_refl _) (fun h=>absurd h (Nat.lt_irrefl _)) (fun i j cs x h=>by simp [LI.els] at h) (fun i j cs x h=>by simp [LI.els] at h)
 ·cases h
theorem of_lWant_le {x:I TL}{l:List Want}(h:of_lWant x=some l):Le x (.fz (.lWant l)):=by
 unfold of_lWant at h
 split at h
 ·cases h;exact fun _ _ hv=>hv
 ·cases h
  intro G v hv
  cases hv
  exact .fz (k:=0) (o:=0) (vals:=fun _ _=>undef) rfl (Nat.le_refl _) (fun h=>absurd h (Nat.lt_irrefl _)) (fun i j cs x h=>by simp [LI.els] at h) (fun i j cs x h=>by simp [LI.els] at h)
 ·cases h
theorem of_lU8_le {x:I TL}{l:List Int}(h:of_lU8 x=some l):Le x (.fz (.lU8 l)):=by
 unfold of_lU8 at h
 split at h
 ·cases h;exact fun _ _ hv=>hv
 ·cases h
  intro G v hv
  cases hv
  exact .fz (k:=0) (o:=0) (vals:=fun _ _=>undef) rfl (Nat.le_refl _) (fun h=>absurd h (Nat.lt_irrefl _)) (fun i j cs x h=>by simp [LI.els] at h) (fun i j cs x h=>by simp [LI.els] at h)
 ·cases h
theorem v_BoundsErrorMk_le {l:List (I TL)}{x:BoundsError}(h:v_BoundsErrorMk l=some x):All2 Le l (v_BoundsErrorC x):=by
 unfold v_BoundsErrorMk at h
 split at h
 ·split at h
  ·rename_i y0 h0
   split at h
   ·rename_i y1 h1
    split at h
    ·rename_i y2 h2
     split at h
     ·rename_i y3 h3
      cases h
      exact .cons (iOf_le h0) (.cons (iOf_le h1) (.cons (bOf_le h2) (.cons (iOf_le h3) (.nil))))
     ·cases h
    ·cases h
   ·cases h
  ·cases h
 ·cases h
theorem v_ErrorAddressStringMk_le {l:List (I TL)}{x:ErrorAddressString}(h:v_ErrorAddressStringMk l=some x):All2 Le l (v_ErrorAddressStringC x):=by
 unfold v_ErrorAddressStringMk at h
 split at h
 ·split at h
  ·rename_i y0 h0
   split at h
   ·rename_i y1 h1
    cases h
    exact .cons (sOf_le h0) (.cons (iOf_le h1) (.nil))
   ·cases h
  ·cases h
 ·cases h
theorem v_SliceMk_le {l:List (I TL)}{x:Slice}(h:v_SliceMk l=some x):All2 Le l (v_SliceC x):=by
 unfold v_SliceMk at h
 split at h
 ·split at h
  ·rename_i y0 h0
   split at h
   ·rename_i y1 h1
    split at h
    ·rename_i y2 h2
     split at h
     ·rename_i y3 h3
      split at h
      ·rename_i y4 h4
       cases h
       exact .cons (sOf_le h0) (.cons (iOf_le h1) (.cons (iOf_le h2) (.cons (iOf_le h3) (.cons (iOf_le h4) (.nil)))))
      ·cases h
     ·cases h
    ·cases h
   ·cases h
  ·cases h
 ·cases h
theorem v_RangeMk_le {l:List (I TL)}{x:Range}(h:v_RangeMk l=some x):All2 Le l (v_RangeC x):=by
 unfold v_RangeMk at h
 split at h
 ·split at h
  ·rename_i y0 h0
   split at h
   ·rename_i y1 h1
    cases h
    exact .cons (iOf_le h0) (.cons (iOf_le h1) (.nil))
   ·cases h
  ·cases h
 ·cases h
theorem v_LeaseMk_le {l:List (I TL)}{x:Lease}(h:v_LeaseMk l=some x):All2 Le l (v_LeaseC x):=by
 unfold v_LeaseMk at h
 split at h
 ·split at h
  ·rename_i y0 h0
   split at h
   ·rename_i y1 h1
    split at h
    ·rename_i y2 h2
     split at h
     ·rename_i y3 h3
      split at h
      ·rename_i y4 h4
       split at h
       ·rename_i y5 h5
        split at h
        ·rename_i y6 h6
         cases h
         exact .cons (iOf_le h0) (.cons (iOf_le h1) (.cons (iOf_le h2) (.cons (iOf_le h3) (.cons (of_lSlice_le h4) (.cons (of_lRange_le h5) (.cons (of_lInt_le h6) (.nil)))))))
        ·cases h
       ·cases h
      ·cases h
     ·cases h
    ·cases h
   ·cases h
  ·cases h
 ·cases h
theorem v_DotMk_le {l:List (I TL)}{x:Dot}(h:v_DotMk l=some x):All2 Le l (v_DotC x):=by
 unfold v_DotMk at h
 split at h
 ·split at h
  ·rename_i y0 h0
   split at h
   ·rename_i y1 h1
    split at h
    ·rename_i y2 h2
     cases h
     exact .cons (iOf_le h0) (.cons (iOf_le h1) (.cons (iOf_le h2) (.nil)))
    ·cases h
   ·cases h
  ·cases h
 ·cases h
theorem v_OpMk_le {l:List (I TL)}{x:Op}(h:v_OpMk l=some x):All2 Le l (v_OpC x):=by
 unfold v_OpMk at h
 split at h
 ·split at h
  ·rename_i y0 h0
   split at h
   ·rename_i y1 h1
    split at h
    ·rename_i y2 h2
     split at h
     ·rename_i y3 h3
      split at h
      ·rename_i y4 h4
       split at h
       ·rename_i y5 h5
        split at h
        ·rename_i y6 h6
         split at h
         ·rename_i y7 h7
          split at h
          ·rename_i y8 h8
           split at h
           ·rename_i y9 h9
            split at h
            ·rename_i y10 h10
             cases h
             exact .cons (iOf_le h0) (.cons (iOf_le h1) (.cons (iOf_le h2) (.cons (iOf_le h3) (.cons (iOf_le h4) (.cons (iOf_le h5) (.cons (sOf_le h6) (.cons (sOf_le h7) (.cons (iOf_le h8) (.cons (iOf_le h9) (.cons (of_lDot_le h10) (.nil)))))))))))
            ·cases h
           ·cases h
          ·cases h
         ·cases h
        ·cases h
       ·cases h
      ·cases h
     ·cases h
    ·cases h
   ·cases h
  ·cases h
 ·cases h
theorem v_RegMk_le {l:List (I TL)}{x:Reg}(h:v_RegMk l=some x):All2 Le l (v_RegC x):=by
 unfold v_RegMk at h
 split at h
 ·split at h
  ·rename_i y0 h0
   split at h
   ·rename_i y1 h1
    split at h
    ·rename_i y2 h2
     split at h
     ·rename_i y3 h3
      split at h
      ·rename_i y4 h4
       split at h
       ·rename_i y5 h5
        split at h
        ·rename_i y6 h6
         cases h
         exact .cons (sOf_le h0) (.cons (sOf_le h1) (.cons (iOf_le h2) (.cons (iOf_le h3) (.cons (iOf_le h4) (.cons (iOf_le h5) (.cons (iOf_le h6) (.nil)))))))
        ·cases h
       ·cases h
      ·cases h
     ·cases h
    ·cases h
   ·cases h
  ·cases h
 ·cases h
theorem v_ElemMk_le {l:List (I TL)}{x:Elem}(h:v_ElemMk l=some x):All2 Le l (v_ElemC x):=by
 unfold v_ElemMk at h
 split at h
 ·split at h
  ·rename_i y0 h0
   split at h
   ·rename_i y1 h1
    split at h
    ·rename_i y2 h2
     split at h
     ·rename_i y3 h3
      split at h
      ·rename_i y4 h4
       split at h
       ·rename_i y5 h5
        cases h
        exact .cons (sOf_le h0) (.cons (sOf_le h1) (.cons (iOf_le h2) (.cons (iOf_le h3) (.cons (iOf_le h4) (.cons (iOf_le h5) (.nil))))))
       ·cases h
      ·cases h
     ·cases h
    ·cases h
   ·cases h
  ·cases h
 ·cases h
theorem v_SumMk_le {l:List (I TL)}{x:Sum}(h:v_SumMk l=some x):All2 Le l (v_SumC x):=by
 unfold v_SumMk at h
 split at h
 ·split at h
  ·rename_i y0 h0
   split at h
   ·rename_i y1 h1
    cases h
    exact .cons (sOf_le h0) (.cons (iOf_le h1) (.nil))
   ·cases h
  ·cases h
 ·cases h
theorem v_BindMk_le {l:List (I TL)}{x:Bind}(h:v_BindMk l=some x):All2 Le l (v_BindC x):=by
 unfold v_BindMk at h
 split at h
 ·split at h
  ·rename_i y0 h0
   split at h
   ·rename_i y1 h1
    split at h
    ·rename_i y2 h2
     split at h
     ·rename_i y3 h3
      split at h
      ·rename_i y4 h4
       split at h
       ·rename_i y5 h5
        cases h
        exact .cons (iOf_le h0) (.cons (sOf_le h1) (.cons (iOf_le h2) (.cons (iOf_le h3) (.cons (iOf_le h4) (.cons (iOf_le h5) (.nil))))))
       ·cases h
      ·cases h
     ·cases h
    ·cases h
   ·cases h
  ·cases h
 ·cases h
theorem v_CollMk_le {l:List (I TL)}{x:Coll}(h:v_CollMk l=some x):All2 Le l (v_CollC x):=by
 unfold v_CollMk at h
 split at h
 ·split at h
  ·rename_i y0 h0
   split at h
   ·rename_i y1 h1
    split at h
    ·rename_i y2 h2
     split at h
     ·rename_i y3 h3
      split at h
      ·rename_i y4 h4
       split at h
       ·rename_i y5 h5
        cases h
        exact .cons (of_lDot_le h0) (.cons (of_lReg_le h1) (.cons (of_lElem_le h2) (.cons (of_lDot_le h3) (.cons (of_lSum_le h4) (.cons (of_lBind_le h5) (.nil))))))
       ·cases h
      ·cases h
     ·cases h
    ·cases h
   ·cases h
  ·cases h
 ·cases h
theorem v_A3CollMk_le {l:List (I TL)}{x:A3Coll}(h:v_A3CollMk l=some x):All2 Le l (v_A3CollC x):=by
 unfold v_A3CollMk at h
 split at h
 ·split at h
  ·rename_i y0 h0
   split at h
   ·rename_i y1 h1
    split at h
    ·rename_i y2 h2
     split at h
     ·rename_i y3 h3
      split at h
      ·rename_i y4 h4
       split at h
       ·rename_i y5 h5
        split at h
        ·rename_i y6 h6
         split at h
         ·rename_i y7 h7
          split at h
          ·rename_i y8 h8
           split at h
           ·rename_i y9 h9
            split at h
            ·rename_i y10 h10
             split at h
             ·rename_i y11 h11
              split at h
              ·rename_i y12 h12
               split at h
               ·rename_i y13 h13
                split at h
                ·rename_i y14 h14
                 split at h
                 ·rename_i y15 h15
                  split at h
                  ·rename_i y16 h16
                   split at h
                   ·rename_i y17 h17
                    cases h
                    exact .cons (of_lDot_le h0) (.cons (of_lReg_le h1) (.cons (of_lElem_le h2) (.cons (of_lDot_le h3) (.cons (of_lSum_le h4) (.cons (of_lBind_le h5) (.cons (of_lDot_le h6) (.cons (of_lReg_le h7) (.cons (of_lElem_le h8) (.cons (of_lDot_le h9) (.cons (of_lSum_le h10) (.cons (of_lBind_le h11) (.cons (of_lDot_le h12) (.cons (of_lReg_le h13) (.cons (of_lElem_le h14) (.cons (of_lDot_le h15) (.cons (of_lSum_le h16) (.cons (of_lBind_le h17) (.nil))))))))))))))))))
                   ·cases h
                  ·cases h
                 ·cases h
                ·cases h
               ·cases h
              ·cases h
             ·cases h
            ·cases h
           ·cases h
          ·cases h
         ·cases h
        ·cases h
       ·cases h
      ·cases h
     ·cases h
    ·cases h
   ·cases h
  ·cases h
 ·cases h
theorem v_WantMk_le {l:List (I TL)}{x:Want}(h:v_WantMk l=some x):All2 Le l (v_WantC x):=by
 unfold v_WantMk at h
 split at h
 ·split at h
  ·rename_i y0 h0
   split at h
   ·rename_i y1 h1
    split at h
    ·rename_i y2 h2
     split at h
     ·rename_i y3 h3
      cases h
      exact .cons (sOf_le h0) (.cons (iOf_le h1) (.cons (iOf_le h2) (.cons (iOf_le h3) (.nil))))
     ·cases h
    ·cases h
   ·cases h
  ·cases h
 ·cases h
theorem v_CmdMk_le {l:List (I TL)}{x:Cmd}(h:v_CmdMk l=some x):All2 Le l (v_CmdC x):=by
 unfold v_CmdMk at h
 split at h
 ·split at h
  ·rename_i y0 h0
   split at h
   ·rename_i y1 h1
    split at h
    ·rename_i y2 h2
     split at h
     ·rename_i y3 h3
      split at h
      ·rename_i y4 h4
       split at h
       ·rename_i y5 h5
        split at h
        ·rename_i y6 h6
         cases h
         exact .cons (iOf_le h0) (.cons (iOf_le h1) (.cons (iOf_le h2) (.cons (iOf_le h3) (.cons (iOf_le h4) (.cons (of_lWant_le h5) (.cons (of_lOp_le h6) (.nil)))))))
        ·cases h
       ·cases h
      ·cases h
     ·cases h
    ·cases h
   ·cases h
  ·cases h
 ·cases h
theorem v_ReplyMk_le {l:List (I TL)}{x:Reply}(h:v_ReplyMk l=some x):All2 Le l (v_ReplyC x):=by
 unfold v_ReplyMk at h
 split at h
 ·split at h
  ·rename_i y0 h0
   split at h
   ·rename_i y1 h1
    split at h
    ·rename_i y2 h2
     split at h
     ·rename_i y3 h3
      split at h
      ·rename_i y4 h4
       split at h
       ·rename_i y5 h5
        split at h
        ·rename_i y6 h6
         split at h
         ·rename_i y7 h7
          split at h
          ·rename_i y8 h8
           cases h
           exact .cons (iOf_le h0) (.cons (iOf_le h1) (.cons (iOf_le h2) (.cons (iOf_le h3) (.cons (iOf_le h4) (.cons (iOf_le h5) (.cons (of_lSlice_le h6) (.cons (of_lRange_le h7) (.cons (of_lInt_le h8) (.nil)))))))))
          ·cases h
         ·cases h
        ·cases h
       ·cases h
      ·cases h
     ·cases h
    ·cases h
   ·cases h
  ·cases h
 ·cases h
theorem v_PairMk_le {l:List (I TL)}{x:Pair}(h:v_PairMk l=some x):All2 Le l (v_PairC x):=by
 unfold v_PairMk at h
 split at h
 ·split at h
  ·rename_i y0 h0
   split at h
   ·rename_i y1 h1
    cases h
    exact .cons (iOf_le h0) (.cons (iOf_le h1) (.nil))
   ·cases h
  ·cases h
 ·cases h
theorem v_IntMk_le {l:List (I TL)}{x:Int}(h:v_IntMk l=some x):All2 Le l (v_IntC x):=by
 unfold v_IntMk at h
 split at h
 ·split at h
  ·rename_i y0 h0
   cases h
   exact .cons (iOf_le h0) (.nil)
  ·cases h
 ·cases h
theorem v_BoolMk_le {l:List (I TL)}{x:Bool}(h:v_BoolMk l=some x):All2 Le l (v_BoolC x):=by
 unfold v_BoolMk at h
 split at h
 ·split at h
  ·rename_i y0 h0
   cases h
   exact .cons (bOf_le h0) (.nil)
  ·cases h
 ·cases h
theorem v_U8Mk_le {l:List (I TL)}{x:Int}(h:v_U8Mk l=some x):All2 Le l (v_U8C x):=by
 unfold v_U8Mk at h
 split at h
 ·split at h
  ·rename_i y0 h0
   cases h
   exact .cons (iOf_le h0) (.nil)
  ·cases h
 ·cases h
theorem mks_lSlice_le:∀ {css:List (List (I TL))} {l:List Slice},mks_lSlice css=some l→All2 (All2 Le) css (l.map v_SliceC)
 | [],l,h=>by simp [mks_lSlice] at h;subst h;exact .nil
 | c::r,l,h=>by
  simp only [mks_lSlice] at h
  split at h
  ·rename_i x xs hx hxs
   cases h
   exact .cons (v_SliceMk_le hx) (mks_lSlice_le hxs)
  ·cases h
theorem mks_lRange_le:∀ {css:List (List (I TL))} {l:List Range},mks_lRange css=some l→All2 (All2 Le) css (l.map v_RangeC)
 | [],l,h=>by simp [mks_lRange] at h;subst h;exact .nil
 | c::r,l,h=>by
  simp only [mks_lRange] at h
  split at h
  ·rename_i x xs hx hxs
   cases h
   exact .cons (v_RangeMk_le hx) (mks_lRange_le hxs)
  ·cases h
theorem mks_lInt_le:∀ {css:List (List (I TL))} {l:List Int},mks_lInt css=some l→All2 (All2 Le) css (l.map v_IntC)
 | [],l,h=>by simp [mks_lInt] at h;subst h;exact .nil
 | c::r,l,h=>by
  simp only [mks_lInt] at h
  split at h
  ·rename_i x xs hx hxs
   cases h
   exact .cons (v_IntMk_le hx) (mks_lInt_le hxs)
  ·cases h
theorem mks_lDot_le:∀ {css:List (List (I TL))} {l:List Dot},mks_lDot css=some l→All2 (All2 Le) css (l.map v_DotC)
 | [],l,h=>by simp [mks_lDot] at h;subst h;exact .nil
 | c::r,l,h=>by
  simp only [mks_lDot] at h
  split at h
  ·rename_i x xs hx hxs
   cases h
   exact .cons (v_DotMk_le hx) (mks_lDot_le hxs)
  ·cases h
theorem mks_lOp_le:∀ {css:List (List (I TL))} {l:List Op},mks_lOp css=some l→All2 (All2 Le) css (l.map v_OpC)
 | [],l,h=>by simp [mks_lOp] at h;subst h;exact .nil
 | c::r,l,h=>by
  simp only [mks_lOp] at h
  split at h
  ·rename_i x xs hx hxs
   cases h
   exact .cons (v_OpMk_le hx) (mks_lOp_le hxs)
  ·cases h
theorem mks_lReg_le:∀ {css:List (List (I TL))} {l:List Reg},mks_lReg css=some l→All2 (All2 Le) css (l.map v_RegC)
 | [],l,h=>by simp [mks_lReg] at h;subst h;exact .nil
 | c::r,l,h=>by
  simp only [mks_lReg] at h
  split at h
  ·rename_i x xs hx hxs
   cases h
   exact .cons (v_RegMk_le hx) (mks_lReg_le hxs)
  ·cases h
theorem mks_lElem_le:∀ {css:List (List (I TL))} {l:List Elem},mks_lElem css=some l→All2 (All2 Le) css (l.map v_ElemC)
 | [],l,h=>by simp [mks_lElem] at h;subst h;exact .nil
 | c::r,l,h=>by
  simp only [mks_lElem] at h
  split at h
  ·rename_i x xs hx hxs
   cases h
   exact .cons (v_ElemMk_le hx) (mks_lElem_le hxs)
  ·cases h
theorem mks_lSum_le:∀ {css:List (List (I TL))} {l:List Sum},mks_lSum css=some l→All2 (All2 Le) css (l.map v_SumC)
 | [],l,h=>by simp [mks_lSum] at h;subst h;exact .nil
 | c::r,l,h=>by
  simp only [mks_lSum] at h
  split at h
  ·rename_i x xs hx hxs
   cases h
   exact .cons (v_SumMk_le hx) (mks_lSum_le hxs)
  ·cases h
theorem mks_lBind_le:∀ {css:List (List (I TL))} {l:List Bind},mks_lBind css=some l→All2 (All2 Le) css (l.map v_BindC)
 | [],l,h=>by simp [mks_lBind] at h;subst h;exact .nil
 | c::r,l,h=>by
  simp only [mks_lBind] at h
  split at h
  ·rename_i x xs hx hxs
   cases h
   exact .cons (v_BindMk_le hx) (mks_lBind_le hxs)
  ·cases h
theorem mks_lBool_le:∀ {css:List (List (I TL))} {l:List Bool},mks_lBool css=some l→All2 (All2 Le) css (l.map v_BoolC)
 | [],l,h=>by simp [mks_lBool] at h;subst h;exact .nil
 | c::r,l,h=>by
  simp only [mks_lBool] at h
  split at h
  ·rename_i x xs hx hxs
   cases h
   exact .cons (v_BoolMk_le hx) (mks_lBool_le hxs)
  ·cases h
theorem mks_lWant_le:∀ {css:List (List (I TL))} {l:List Want},mks_lWant css=some l→All2 (All2 Le) css (l.map v_WantC)
 | [],l,h=>by simp [mks_lWant] at h;subst h;exact .nil
 | c::r,l,h=>by
  simp only [mks_lWant] at h
  split at h
  ·rename_i x xs hx hxs
   cases h
   exact .cons (v_WantMk_le hx) (mks_lWant_le hxs)
  ·cases h
theorem mks_lU8_le:∀ {css:List (List (I TL))} {l:List Int},mks_lU8 css=some l→All2 (All2 Le) css (l.map v_U8C)
 | [],l,h=>by simp [mks_lU8] at h;subst h;exact .nil
 | c::r,l,h=>by
  simp only [mks_lU8] at h
  split at h
  ·rename_i x xs hx hxs
   cases h
   exact .cons (v_U8Mk_le hx) (mks_lU8_le hxs)
  ·cases h
instance:LLaws TL where
 len:=fun l=>by cases l<;>simp [LI.len,LI.els]
 idx:=fun l i k=>by cases l<;>simp only [LI.idx,LI.els,List.getElem?_map,ob]<;>rename_i l<;>cases l[i]?<;>rfl
 size:=fun l cs h=>by
  cases l<;>simp only [LI.els,List.mem_map] at h<;>obtain ⟨x,_,rfl⟩:=h<;>rfl
 mkL:=fun t css l h=>by
  simp only [LI.mkL] at h
  split at h
  ·split at h
   ·rename_i l hl;cases h;exact mks_lSlice_le hl
   ·cases h
  ·split at h
   ·rename_i l hl;cases h;exact mks_lRange_le hl
   ·cases h
  ·split at h
   ·rename_i l hl;cases h;exact mks_lInt_le hl
   ·cases h
  ·split at h
   ·rename_i l hl;cases h;exact mks_lDot_le hl
   ·cases h
  ·split at h
   ·rename_i l hl;cases h;exact mks_lDot_le hl
   ·cases h
  ·split at h
   ·rename_i l hl;cases h;exact mks_lOp_le hl
   ·cases h
  ·split at h
   ·rename_i l hl;cases h;exact mks_lReg_le hl
   ·cases h
  ·split at h
   ·rename_i l hl;cases h;exact mks_lElem_le hl
   ·cases h
  ·split at h
   ·rename_i l hl;cases h;exact mks_lSum_le hl
   ·cases h
  ·split at h
   ·rename_i l hl;cases h;exact mks_lBind_le hl
   ·cases h
  ·split at h
   ·rename_i l hl;cases h;exact mks_lBool_le hl
   ·cases h
  ·split at h
   ·rename_i l hl;cases h;exact mks_lWant_le hl
   ·cases h
  ·split at h
   ·rename_i l hl;cases h;exact mks_lU8_le hl
   ·cases h
  ·cases h
 app:=fun a b l h=>by
  simp only [LI.app] at h
  split at h<;>cases h<;>simp [LI.els,LI.sz]
 sub:=fun l lo hi=>by cases l<;>simp [LI.sub,LI.els,LI.sz,List.map_drop,List.map_take]
 set:=fun l i cs l' h=>by
  simp only [LI.set] at h
  split at h
  ·split at h
   ·rename_i y hy;cases h;exact ⟨_,v_SliceMk_le hy,by simp [LI.els,List.map_set],rfl⟩
   ·cases h
  ·split at h
   ·rename_i y hy;cases h;exact ⟨_,v_RangeMk_le hy,by simp [LI.els,List.map_set],rfl⟩
   ·cases h
  ·split at h
   ·rename_i y hy;cases h;exact ⟨_,v_IntMk_le hy,by simp [LI.els,List.map_set],rfl⟩
   ·cases h
  ·split at h
   ·rename_i y hy;cases h;exact ⟨_,v_DotMk_le hy,by simp [LI.els,List.map_set],rfl⟩
   ·cases h
  ·split at h
   ·rename_i y hy;cases h;exact ⟨_,v_OpMk_le hy,by simp [LI.els,List.map_set],rfl⟩
   ·cases h
  ·split at h
   ·rename_i y hy;cases h;exact ⟨_,v_RegMk_le hy,by simp [LI.els,List.map_set],rfl⟩
   ·cases h
  ·split at h
   ·rename_i y hy;cases h;exact ⟨_,v_ElemMk_le hy,by simp [LI.els,List.map_set],rfl⟩
   ·cases h
  ·split at h
   ·rename_i y hy;cases h;exact ⟨_,v_SumMk_le hy,by simp [LI.els,List.map_set],rfl⟩
   ·cases h
  ·split at h
   ·rename_i y hy;cases h;exact ⟨_,v_BindMk_le hy,by simp [LI.els,List.map_set],rfl⟩
   ·cases h
  ·split at h
   ·rename_i y hy;cases h;exact ⟨_,v_BoolMk_le hy,by simp [LI.els,List.map_set],rfl⟩
   ·cases h
  ·split at h
   ·rename_i y hy;cases h;exact ⟨_,v_WantMk_le hy,by simp [LI.els,List.map_set],rfl⟩
   ·cases h
  ·split at h
   ·rename_i y hy;cases h;exact ⟨_,v_U8Mk_le hy,by simp [LI.els,List.map_set],rfl⟩
   ·cases h
 mrg:=fun c a b l h=>by
  simp only [LI.mrg] at h
  split at h<;>cases h<;>cases c<;>simp [LI.els,LI.sz]
 flat:=fun l h cs hcs x hx G G' v hv=>by
  cases l<;>simp only [LI.flat] at h<;>first | (cases h;done) | skip
  all_goals
   simp only [LI.els,List.mem_map] at hcs
   obtain ⟨y,_,rfl⟩:=hcs
   first
    | (simp only [v_SliceC,List.mem_cons,List.not_mem_nil,or_false] at hx;rcases hx with rfl | rfl | rfl | rfl | rfl<;>cases hv<;>constructor)
    | (simp only [v_RangeC,List.mem_cons,List.not_mem_nil,or_false] at hx;rcases hx with rfl | rfl<;>cases hv<;>constructor)
    | (simp only [v_IntC,List.mem_cons,List.not_mem_nil,or_false] at hx;rcases hx with rfl<;>cases hv<;>constructor)
    | (simp only [v_DotC,List.mem_cons,List.not_mem_nil,or_false] at hx;rcases hx with rfl | rfl | rfl<;>cases hv<;>constructor)
    | (simp only [v_RegC,List.mem_cons,List.not_mem_nil,or_false] at hx;rcases hx with rfl | rfl | rfl | rfl | rfl | rfl | rfl<;>cases hv<;>constructor)
    | (simp only [v_ElemC,List.mem_cons,List.not_mem_nil,or_false] at hx;rcases hx with rfl | rfl | rfl | rfl | rfl | rfl<;>cases hv<;>constructor)
    | (simp only [v_SumC,List.mem_cons,List.not_mem_nil,or_false] at hx;rcases hx with rfl | rfl<;>cases hv<;>constructor)
    | (simp only [v_BindC,List.mem_cons,List.not_mem_nil,or_false] at hx;rcases hx with rfl | rfl | rfl | rfl | rfl | rfl<;>cases hv<;>constructor)
    | (simp only [v_BoolC,List.mem_cons,List.not_mem_nil,or_false] at hx;rcases hx with rfl<;>cases hv<;>constructor)
    | (simp only [v_WantC,List.mem_cons,List.not_mem_nil,or_false] at hx;rcases hx with rfl | rfl | rfl | rfl<;>cases hv<;>constructor)
    | (simp only [v_U8C,List.mem_cons,List.not_mem_nil,or_false] at hx;rcases hx with rfl<;>cases hv<;>constructor)
 bytes:=fun l s h=>by
  simp only [LI.bytes] at h
  split at h
  ·cases h;exact ⟨_,rfl,rfl⟩
  ·cases h
 ofStr:=fun t s l h=>by
  simp only [LI.ofStr] at h
  split at h
  ·cases h
   refine ⟨by simp [LI.els,intsOfStr],rfl,fun G=>?_⟩
   simp only [LI.els,intsOfStr]
   exact bytes_rep G s
  ·cases h
theorem tlaws:TLaws TL tab where
 mkL:=fun t css l i h hi=>by
  simp only [LI.mkL] at h
  split at h
  ·split at h
   ·cases h;cases (tab62_is.symm.trans hi);rfl
   ·cases h
  ·split at h
   ·cases h;cases (tab98_is.symm.trans hi);rfl
   ·cases h
  ·split at h
   ·cases h;cases (tab3_is.symm.trans hi);rfl
   ·cases h
  ·split at h
   ·cases h;cases (tab48_is.symm.trans hi);rfl
   ·cases h
  ·split at h
   ·cases h;cases (tab112_is.symm.trans hi);rfl
   ·cases h
  ·split at h
   ·cases h;cases (tab50_is.symm.trans hi);rfl
   ·cases h
  ·split at h
   ·cases h;cases (tab103_is.symm.trans hi);rfl
   ·cases h
  ·split at h
   ·cases h;cases (tab100_is.symm.trans hi);rfl
   ·cases h
  ·split at h
   ·cases h;cases (tab118_is.symm.trans hi);rfl
   ·cases h
  ·split at h
   ·cases h;cases (tab121_is.symm.trans hi);rfl
   ·cases h
  ·split at h
   ·cases h;cases (tab4_is.symm.trans hi);rfl
   ·cases h
  ·split at h
   ·cases h;cases (tab89_is.symm.trans hi);rfl
   ·cases h
  ·split at h
   ·cases h;cases (tab5_is.symm.trans hi);rfl
   ·cases h
  ·cases h
 rep:=fun t n l h=>by
  simp only [LI.rep] at h
  split at h
  ·cases h;exact ⟨_,_,v_SliceC (Slice.mk ⟨#[]⟩ 0 0 0 0),tab62_is,rfl,by simp [LI.els],rfl,.cons (fun _=>.str) (.cons (fun _=>.int) (.cons (fun _=>.int) (.cons (fun _=>.int) (.cons (fun _=>.int) (.nil)))))⟩
  ·cases h;exact ⟨_,_,v_RangeC (Range.mk 0 0),tab98_is,rfl,by simp [LI.els],rfl,.cons (fun _=>.int) (.cons (fun _=>.int) (.nil))⟩
  ·cases h;exact ⟨_,_,v_IntC 0,tab3_is,rfl,by simp [LI.els],rfl,.cons (fun _=>.int) (.nil)⟩
  ·cases h;exact ⟨_,_,v_DotC (Dot.mk 0 0 0),tab48_is,rfl,by simp [LI.els],rfl,.cons (fun _=>.int) (.cons (fun _=>.int) (.cons (fun _=>.int) (.nil)))⟩
  ·cases h;exact ⟨_,_,v_DotC (Dot.mk 0 0 0),tab112_is,rfl,by simp [LI.els],rfl,.cons (fun _=>.int) (.cons (fun _=>.int) (.cons (fun _=>.int) (.nil)))⟩
  ·cases h;exact ⟨_,_,v_OpC (Op.mk (Dot.mk 0 0 0) 0 0 0 ⟨#[]⟩ ⟨#[]⟩ 0 0 []),tab50_is,rfl,by simp [LI.els],rfl,.cons (fun _=>.int) (.cons (fun _=>.int) (.cons (fun _=>.int) (.cons (fun _=>.int) (.cons (fun _=>.int) (.cons (fun _=>.int) (.cons (fun _=>.str) (.cons (fun _=>.str) (.cons (fun _=>.int) (.cons (fun _=>.int) (.cons (fun _=>.fz (k:=0) (o:=0) (vals:=fun _ _=>undef) rfl (Nat.le_refl _) (fun h=>absurd h (Nat.lt_irrefl _)) (fun i j cs x h=>by simp [LI.els] at h) (fun i j cs x h=>by simp [LI.els] at h)) (.nil)))))))))))⟩
  ·cases h;exact ⟨_,_,v_RegC (Reg.mk ⟨#[]⟩ ⟨#[]⟩ 0 0 (Dot.mk 0 0 0)),tab103_is,rfl,by simp [LI.els],rfl,.cons (fun _=>.str) (.cons (fun _=>.str) (.cons (fun _=>.int) (.cons (fun _=>.int) (.cons (fun _=>.int) (.cons (fun _=>.int) (.cons (fun _=>.int) (.nil)))))))⟩
  ·cases h;exact ⟨_,_,v_ElemC (Elem.mk ⟨#[]⟩ ⟨#[]⟩ 0 (Dot.mk 0 0 0)),tab100_is,rfl,by simp [LI.els],rfl,.cons (fun _=>.str) (.cons (fun _=>.str) (.cons (fun _=>.int) (.cons (fun _=>.int) (.cons (fun _=>.int) (.cons (fun _=>.int) (.nil))))))⟩
  ·cases h;exact ⟨_,_,v_SumC (Sum.mk ⟨#[]⟩ 0),tab118_is,rfl,by simp [LI.els],rfl,.cons (fun _=>.str) (.cons (fun _=>.int) (.nil))⟩
  ·cases h;exact ⟨_,_,v_BindC (Bind.mk 0 ⟨#[]⟩ 0 (Dot.mk 0 0 0)),tab121_is,rfl,by simp [LI.els],rfl,.cons (fun _=>.int) (.cons (fun _=>.str) (.cons (fun _=>.int) (.cons (fun _=>.int) (.cons (fun _=>.int) (.cons (fun _=>.int) (.nil))))))⟩
  ·cases h;exact ⟨_,_,v_BoolC false,tab4_is,rfl,by simp [LI.els],rfl,.cons (fun _=>.bool) (.nil)⟩
  ·cases h;exact ⟨_,_,v_WantC (Want.mk ⟨#[]⟩ 0 0 0),tab89_is,rfl,by simp [LI.els],rfl,.cons (fun _=>.str) (.cons (fun _=>.int) (.cons (fun _=>.int) (.cons (fun _=>.int) (.nil))))⟩
  ·cases h;exact ⟨_,_,v_U8C 0,tab5_is,rfl,by simp [LI.els],rfl,.cons (fun _=>.int) (.nil)⟩
  ·cases h
def j_lSlice:Cod.Inj TL (List Slice):=⟨TL.lSlice,fun | .lSlice l=>some l | _=>none,fun l t h=>by cases l<;>simp_all⟩
def di_lSlice:DI TL (List Slice):=⟨fun l=>.fz (.lSlice l),of_lSlice,fun _ _ h=>of_lSlice_le h⟩
def j_lRange:Cod.Inj TL (List Range):=⟨TL.lRange,fun | .lRange l=>some l | _=>none,fun l t h=>by cases l<;>simp_all⟩
def di_lRange:DI TL (List Range):=⟨fun l=>.fz (.lRange l),of_lRange,fun _ _ h=>of_lRange_le h⟩
def j_lInt:Cod.Inj TL (List Int):=⟨TL.lInt,fun | .lInt l=>some l | _=>none,fun l t h=>by cases l<;>simp_all⟩
def di_lInt:DI TL (List Int):=⟨fun l=>.fz (.lInt l),of_lInt,fun _ _ h=>of_lInt_le h⟩
def j_lDot:Cod.Inj TL (List Dot):=⟨TL.lDot,fun | .lDot l=>some l | _=>none,fun l t h=>by cases l<;>simp_all⟩
def di_lDot:DI TL (List Dot):=⟨fun l=>.fz (.lDot l),of_lDot,fun _ _ h=>of_lDot_le h⟩
def j_lOp:Cod.Inj TL (List Op):=⟨TL.lOp,fun | .lOp l=>some l | _=>none,fun l t h=>by cases l<;>simp_all⟩
def di_lOp:DI TL (List Op):=⟨fun l=>.fz (.lOp l),of_lOp,fun _ _ h=>of_lOp_le h⟩
def j_lReg:Cod.Inj TL (List Reg):=⟨TL.lReg,fun | .lReg l=>some l | _=>none,fun l t h=>by cases l<;>simp_all⟩
def di_lReg:DI TL (List Reg):=⟨fun l=>.fz (.lReg l),of_lReg,fun _ _ h=>of_lReg_le h⟩
def j_lElem:Cod.Inj TL (List Elem):=⟨TL.lElem,fun | .lElem l=>some l | _=>none,fun l t h=>by cases l<;>simp_all⟩
def di_lElem:DI TL (List Elem):=⟨fun l=>.fz (.lElem l),of_lElem,fun _ _ h=>of_lElem_le h⟩
def j_lSum:Cod.Inj TL (List Sum):=⟨TL.lSum,fun | .lSum l=>some l | _=>none,fun l t h=>by cases l<;>simp_all⟩
def di_lSum:DI TL (List Sum):=⟨fun l=>.fz (.lSum l),of_lSum,fun _ _ h=>of_lSum_le h⟩
def j_lBind:Cod.Inj TL (List Bind):=⟨TL.lBind,fun | .lBind l=>some l | _=>none,fun l t h=>by cases l<;>simp_all⟩
def di_lBind:DI TL (List Bind):=⟨fun l=>.fz (.lBind l),of_lBind,fun _ _ h=>of_lBind_le h⟩
def j_lBool:Cod.Inj TL (List Bool):=⟨TL.lBool,fun | .lBool l=>some l | _=>none,fun l t h=>by cases l<;>simp_all⟩
def di_lBool:DI TL (List Bool):=⟨fun l=>.fz (.lBool l),of_lBool,fun _ _ h=>of_lBool_le h⟩
def j_lWant:Cod.Inj TL (List Want):=⟨TL.lWant,fun | .lWant l=>some l | _=>none,fun l t h=>by cases l<;>simp_all⟩
def di_lWant:DI TL (List Want):=⟨fun l=>.fz (.lWant l),of_lWant,fun _ _ h=>of_lWant_le h⟩
def j_lU8:Cod.Inj TL (List Int):=⟨TL.lU8,fun | .lU8 l=>some l | _=>none,fun l t h=>by cases l<;>simp_all⟩
def di_lU8:DI TL (List Int):=⟨fun l=>.fz (.lU8 l),of_lU8,fun _ _ h=>of_lU8_le h⟩
def dc_BoundsError:DC TL BoundsError:=⟨v_BoundsErrorC,v_BoundsErrorMk,fun _ _ h=>v_BoundsErrorMk_le h⟩
def dc_ErrorAddressString:DC TL ErrorAddressString:=⟨v_ErrorAddressStringC,v_ErrorAddressStringMk,fun _ _ h=>v_ErrorAddressStringMk_le h⟩
def dc_Slice:DC TL Slice:=⟨v_SliceC,v_SliceMk,fun _ _ h=>v_SliceMk_le h⟩
def dc_Range:DC TL Range:=⟨v_RangeC,v_RangeMk,fun _ _ h=>v_RangeMk_le h⟩
def dc_Lease:DC TL Lease:=⟨v_LeaseC,v_LeaseMk,fun _ _ h=>v_LeaseMk_le h⟩
def dc_Dot:DC TL Dot:=⟨v_DotC,v_DotMk,fun _ _ h=>v_DotMk_le h⟩
def dc_Op:DC TL Op:=⟨v_OpC,v_OpMk,fun _ _ h=>v_OpMk_le h⟩
def dc_Reg:DC TL Reg:=⟨v_RegC,v_RegMk,fun _ _ h=>v_RegMk_le h⟩
def dc_Elem:DC TL Elem:=⟨v_ElemC,v_ElemMk,fun _ _ h=>v_ElemMk_le h⟩
def dc_Sum:DC TL Sum:=⟨v_SumC,v_SumMk,fun _ _ h=>v_SumMk_le h⟩
def dc_Bind:DC TL Bind:=⟨v_BindC,v_BindMk,fun _ _ h=>v_BindMk_le h⟩
def dc_Coll:DC TL Coll:=⟨v_CollC,v_CollMk,fun _ _ h=>v_CollMk_le h⟩
def dc_A3Coll:DC TL A3Coll:=⟨v_A3CollC,v_A3CollMk,fun _ _ h=>v_A3CollMk_le h⟩
def dc_Want:DC TL Want:=⟨v_WantC,v_WantMk,fun _ _ h=>v_WantMk_le h⟩
def dc_Cmd:DC TL Cmd:=⟨v_CmdC,v_CmdMk,fun _ _ h=>v_CmdMk_le h⟩
def dc_State:DC TL State:=DC.iso (DC.cons (DI.int .i64) (DC.cons (DI.int .i64) (DC.cons (DI.int .i64) (DC.cons (DI.int .i64) (DC.cons (DI.int .i64) (DC.cons (DI.int .i64) (DC.cons di_lSlice (DC.cons di_lRange (DC.cons di_lInt (DC.cons (DI.int .i64) (DC.cons (DI.int .i64) (DC.cons (DI.int .i64) (DC.cons di_lOp (DC.cons di_lDot (DC.cons di_lReg (DC.cons di_lElem (DC.cons di_lDot (DC.cons di_lSum (DC.cons di_lBind (DC.cons di_lDot (DC.cons di_lReg (DC.cons di_lElem (DC.cons di_lDot (DC.cons di_lSum (DC.cons di_lBind (DC.cons di_lDot (DC.cons di_lReg (DC.cons di_lElem (DC.cons di_lDot (DC.cons di_lSum (DC.cons di_lBind (DC.cons (DI.int .i64) (DC.cons (DI.int .i64) (DC.cons di_lBool (DC.cons (DI.int .i64) (DC.cons (DI.int .i64) (DC.cons (DI.int .i64) (DC.cons (DI.int .i64) (DC.cons (DI.int .i64) (DC.cons (DI.int .i64) (DC.cons (DI.int .i64) (DC.cons di_lWant (DC.cons di_lOp (DC.cons DI.bool (DC.cons (DI.int .i64) (DC.nil)))))))))))))))))))))))))))))))))))))))))))))) (fun p=>(State.mk p.1 p.2.1 (Lease.mk p.2.2.1 p.2.2.2.1 p.2.2.2.2.1 p.2.2.2.2.2.1 p.2.2.2.2.2.2.1 p.2.2.2.2.2.2.2.1 (t8 p).1) (t8 p).2.1 (t8 p).2.2.1 (t8 p).2.2.2.1 (t8 p).2.2.2.2.1 (A3Coll.mk (Coll.mk (t8 p).2.2.2.2.2.1 (t8 p).2.2.2.2.2.2.1 (t8 p).2.2.2.2.2.2.2.1 (t8 (t8 p)).1 (t8 (t8 p)).2.1 (t8 (t8 p)).2.2.1) (Coll.mk (t8 (t8 p)).2.2.2.1 (t8 (t8 p)).2.2.2.2.1 (t8 (t8 p)).2.2.2.2.2.1 (t8 (t8 p)).2.2.2.2.2.2.1 (t8 (t8 p)).2.2.2.2.2.2.2.1 (t8 (t8 (t8 p))).1) (Coll.mk (t8 (t8 (t8 p))).2.1 (t8 (t8 (t8 p))).2.2.1 (t8 (t8 (t8 p))).2.2.2.1 (t8 (t8 (t8 p))).2.2.2.2.1 (t8 (t8 (t8 p))).2.2.2.2.2.1 (t8 (t8 (t8 p))).2.2.2.2.2.2.1)) (t8 (t8 (t8 p))).2.2.2.2.2.2.2.1 (t32 p).1 (t32 p).2.1 (t32 p).2.2.1 (t32 p).2.2.2.1 (Cmd.mk (t32 p).2.2.2.2.1 (t32 p).2.2.2.2.2.1 (t32 p).2.2.2.2.2.2.1 (t32 p).2.2.2.2.2.2.2.1 (t8 (t32 p)).1 (t8 (t32 p)).2.1 (t8 (t32 p)).2.2.1) (t8 (t32 p)).2.2.2.1 (t8 (t32 p)).2.2.2.2.1)) (fun (x:State)=>(x.device,(x.epoch,(x.lease.device,(x.lease.epoch,(x.lease.until_,(x.lease.last,(x.lease.slices,(x.lease.ids,(x.lease.used,(x.ends,(x.seq,(x.sent,(x.pending,(x.colls.a0.v,(x.colls.a0.regs,(x.colls.a0.elems,(x.colls.a0.gone,(x.colls.a0.sums,(x.colls.a0.binds,(x.colls.a1.v,(x.colls.a1.regs,(x.colls.a1.elems,(x.colls.a1.gone,(x.colls.a1.sums,(x.colls.a1.binds,(x.colls.a2.v,(x.colls.a2.regs,(x.colls.a2.elems,(x.colls.a2.gone,(x.colls.a2.sums,(x.colls.a2.binds,(x.at_,(x.ver,(x.subs,(x.req,(x.asked,(x.cmd.kind,(x.cmd.device,(x.cmd.epoch,(x.cmd.req,(x.cmd.n,(x.cmd.wants,(x.cmd.ops,(x.fenced,(x.now,())))))))))))))))))))))))))))))))))))))))))))))) (fun _=>rfl)
def v_StateC (x:State):List (I TL):=dc_State.enc x
def dc_Reply:DC TL Reply:=⟨v_ReplyC,v_ReplyMk,fun _ _ h=>v_ReplyMk_le h⟩
def dc_Pair:DC TL Pair:=⟨v_PairC,v_PairMk,fun _ _ h=>v_PairMk_le h⟩
theorem base:Base TL Tryz.prog tab:=⟨tabOK,tlaws,by kernel_rfl⟩
end Go.Proofs.YthhfjodcgibhfaaGreat
