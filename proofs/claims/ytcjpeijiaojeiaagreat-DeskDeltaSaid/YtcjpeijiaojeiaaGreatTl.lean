/- By program (gen.py): the typed lists of this program, and their laws. -/
import Derived.Test.YtcjpeijiaojeiaaGreatTab
import Derived.Test.YtcjpeijiaojeiaaGreatEd
namespace Go.Proofs.YtcjpeijiaojeiaaGreat
open Go Go.Ev
structure BoundsError where
 x:Int
 y:Int
 signed:Bool
 code:Int
structure ErrorAddressString where
 msg:ByteArray
 addr:Int
structure Counter where
 key:ByteArray
 coll:Int
 lo:Int
 hi:Int
 start:Int
 up_:Int
 down_:Int
structure Range where
 from_:Int
 to_:Int
structure Slice where
 key:ByteArray
 up_:Int
 down_:Int
 usedUp:Int
 usedDown:Int
structure Lease where
 device:Int
 epoch:Int
 until_:Int
 last:Int
 slices:List Slice
 ids:List Range
 used:List Int
structure Book where
 counters:List Counter
 free:List Range
 leases:List Lease
 bound:List Int
structure Entry where
 device:Int
 epoch:Int
 seq:Int
structure Reg where
 key:ByteArray
 text:ByteArray
 ver:Int
 time:Int
 dot:Entry
structure Elem where
 key:ByteArray
 text:ByteArray
 ver:Int
 dot:Entry
structure Sum where
 key:ByteArray
 n:Int
structure Bind where
 id_:Int
 text:ByteArray
 ver:Int
 dot:Entry
structure Coll where
 v:List Entry
 regs:List Reg
 elems:List Elem
 gone:List Entry
 sums:List Sum
 binds:List Bind
structure A3Coll where
 a0:Coll
 a1:Coll
 a2:Coll
structure Op where
 dot:Entry
 coll:Int
 ver:Int
 kind:Int
 key:ByteArray
 text:ByteArray
 n:Int
 time:Int
 dots:List Entry
structure Reply where
 err:Int
 n:Int
 lease:Lease
structure Device where
 epoch:Int
 req:Int
 reply:Reply
structure A6Device where
 a0:Device
 a1:Device
 a2:Device
 a3:Device
 a4:Device
 a5:Device
structure Desk where
 book:Book
 colls:A3Coll
 log:List Op
 dev:A6Device
 lost:List Entry
 now:Int
structure Want where
 key:ByteArray
 up_:Int
 down_:Int
 ids:Int
structure Cmd where
 kind:Int
 device:Int
 epoch:Int
 req:Int
 n:Int
 wants:List Want
 ops:List Op
structure A5Bool where
 a0:Bool
 a1:Bool
 a2:Bool
 a3:Bool
 a4:Bool
structure Act where
 kind:Int
 device:Int
 n:Int
 wants:List Want
 ops:List Op
structure A6Int where
 a0:Int
 a1:Int
 a2:Int
 a3:Int
 a4:Int
 a5:Int
structure Clerk where
 d:Desk
 c:Cmd
structure Pair where
 device:Int
 epoch:Int
inductive TL where
 | lCounter (l:List Counter)
 | lRange (l:List Range)
 | lSlice (l:List Slice)
 | lInt (l:List Int)
 | lLease (l:List Lease)
 | lEntry (l:List Entry)
 | lReg (l:List Reg)
 | lElem (l:List Elem)
 | lSum (l:List Sum)
 | lBind (l:List Bind)
 | lOp (l:List Op)
 | lWant (l:List Want)
 | lAct (l:List Act)
 | lBool (l:List Bool)
 | lCmd (l:List Cmd)
 | lDevice (l:List Device)
 | lLRange (l:List (List Range))
 | lStr (l:List ByteArray)
def iOf (k:IntKind)(x:I TL):Option Int:=match x with | .lit k1 n=>cond (keq k1 k) (some n) none | .int k1 n=>cond (keq k1 k) (some n) none | _=>none
def bOf (x:I TL):Option Bool:=match x with | .tt=>some true | .ff=>some false | .bool b=>some b | _=>none
def sOf (x:I TL):Option ByteArray:=match x with | .str s=>some s | _=>none
def of_lCounter (x:I TL):Option (List Counter):=match x with | .fz (.lCounter l)=>some l | .val (.slice none 0 0)=>some [] | _=>none
def of_lRange (x:I TL):Option (List Range):=match x with | .fz (.lRange l)=>some l | .val (.slice none 0 0)=>some [] | _=>none
def of_lSlice (x:I TL):Option (List Slice):=match x with | .fz (.lSlice l)=>some l | .val (.slice none 0 0)=>some [] | _=>none
def of_lInt (x:I TL):Option (List Int):=match x with | .fz (.lInt l)=>some l | .val (.slice none 0 0)=>some [] | _=>none
def of_lLease (x:I TL):Option (List Lease):=match x with | .fz (.lLease l)=>some l | .val (.slice none 0 0)=>some [] | _=>none
def of_lEntry (x:I TL):Option (List Entry):=match x with | .fz (.lEntry l)=>some l | .val (.slice none 0 0)=>some [] | _=>none
def of_lReg (x:I TL):Option (List Reg):=match x with | .fz (.lReg l)=>some l | .val (.slice none 0 0)=>some [] | _=>none
def of_lElem (x:I TL):Option (List Elem):=match x with | .fz (.lElem l)=>some l | .val (.slice none 0 0)=>some [] | _=>none
def of_lSum (x:I TL):Option (List Sum):=match x with | .fz (.lSum l)=>some l | .val (.slice none 0 0)=>some [] | _=>none
def of_lBind (x:I TL):Option (List Bind):=match x with | .fz (.lBind l)=>some l | .val (.slice none 0 0)=>some [] | _=>none
def of_lOp (x:I TL):Option (List Op):=match x with | .fz (.lOp l)=>some l | .val (.slice none 0 0)=>some [] | _=>none
def of_lWant (x:I TL):Option (List Want):=match x with | .fz (.lWant l)=>some l | .val (.slice none 0 0)=>some [] | _=>none
def of_lAct (x:I TL):Option (List Act):=match x with | .fz (.lAct l)=>some l | .val (.slice none 0 0)=>some [] | _=>none
def of_lBool (x:I TL):Option (List Bool):=match x with | .fz (.lBool l)=>some l | .val (.slice none 0 0)=>some [] | _=>none
def of_lCmd (x:I TL):Option (List Cmd):=match x with | .fz (.lCmd l)=>some l | .val (.slice none 0 0)=>some [] | _=>none
def of_lDevice (x:I TL):Option (List Device):=match x with | .fz (.lDevice l)=>some l | .val (.slice none 0 0)=>some [] | _=>none
def of_lLRange (x:I TL):Option (List (List Range)):=match x with | .fz (.lLRange l)=>some l | .val (.slice none 0 0)=>some [] | _=>none
def of_lStr (x:I TL):Option (List ByteArray):=match x with | .fz (.lStr l)=>some l | .val (.slice none 0 0)=>some [] | _=>none
def v_BoundsErrorC (x:BoundsError):List (I TL):=[.int .i64 x.x,.int .i64 x.y,.bool x.signed,.int .u8 x.code]
def v_BoundsErrorMk (l:List (I TL)):Option BoundsError:=match l with | x0::x1::x2::x3::[]=>(match iOf .i64 x0 with | some y0=>(match iOf .i64 x1 with | some y1=>(match bOf x2 with | some y2=>(match iOf .u8 x3 with | some y3=>(some (BoundsError.mk y0 y1 y2 y3)) | none=>none) | none=>none) | none=>none) | none=>none) | _=>none
def v_ErrorAddressStringC (x:ErrorAddressString):List (I TL):=[.str x.msg,.int .u64 x.addr]
def v_ErrorAddressStringMk (l:List (I TL)):Option ErrorAddressString:=match l with | x0::x1::[]=>(match sOf x0 with | some y0=>(match iOf .u64 x1 with | some y1=>(some (ErrorAddressString.mk y0 y1)) | none=>none) | none=>none) | _=>none
def v_CounterC (x:Counter):List (I TL):=[.str x.key,.int .i64 x.coll,.int .i64 x.lo,.int .i64 x.hi,.int .i64 x.start,.int .i64 x.up_,.int .i64 x.down_]
def v_CounterMk (l:List (I TL)):Option Counter:=match l with | x0::x1::x2::x3::x4::x5::x6::[]=>(match sOf x0 with | some y0=>(match iOf .i64 x1 with | some y1=>(match iOf .i64 x2 with | some y2=>(match iOf .i64 x3 with | some y3=>(match iOf .i64 x4 with | some y4=>(match iOf .i64 x5 with | some y5=>(match iOf .i64 x6 with | some y6=>(some (Counter.mk y0 y1 y2 y3 y4 y5 y6)) | none=>none) | none=>none) | none=>none) | none=>none) | none=>none) | none=>none) | none=>none) | _=>none
def v_RangeC (x:Range):List (I TL):=[.int .i64 x.from_,.int .i64 x.to_]
def v_RangeMk (l:List (I TL)):Option Range:=match l with | x0::x1::[]=>(match iOf .i64 x0 with | some y0=>(match iOf .i64 x1 with | some y1=>(some (Range.mk y0 y1)) | none=>none) | none=>none) | _=>none
def v_SliceC (x:Slice):List (I TL):=[.str x.key,.int .i64 x.up_,.int .i64 x.down_,.int .i64 x.usedUp,.int .i64 x.usedDown]
def v_SliceMk (l:List (I TL)):Option Slice:=match l with | x0::x1::x2::x3::x4::[]=>(match sOf x0 with | some y0=>(match iOf .i64 x1 with | some y1=>(match iOf .i64 x2 with | some y2=>(match iOf .i64 x3 with | some y3=>(match iOf .i64 x4 with | some y4=>(some (Slice.mk y0 y1 y2 y3 y4)) | none=>none) | none=>none) | none=>none) | none=>none) | none=>none) | _=>none
def v_LeaseC (x:Lease):List (I TL):=[.int .i64 x.device,.int .i64 x.epoch,.int .i64 x.until_,.int .i64 x.last,.fz (.lSlice x.slices),.fz (.lRange x.ids),.fz (.lInt x.used)]
def v_LeaseMk (l:List (I TL)):Option Lease:=match l with | x0::x1::x2::x3::x4::x5::x6::[]=>(match iOf .i64 x0 with | some y0=>(match iOf .i64 x1 with | some y1=>(match iOf .i64 x2 with | some y2=>(match iOf .i64 x3 with | some y3=>(match of_lSlice x4 with | some y4=>(match of_lRange x5 with | some y5=>(match of_lInt x6 with | some y6=>(some (Lease.mk y0 y1 y2 y3 y4 y5 y6)) | none=>none) | none=>none) | none=>none) | none=>none) | none=>none) | none=>none) | none=>none) | _=>none
def v_BookC (x:Book):List (I TL):=[.fz (.lCounter x.counters),.fz (.lRange x.free),.fz (.lLease x.leases),.fz (.lInt x.bound)]
def v_BookMk (l:List (I TL)):Option Book:=match l with | x0::x1::x2::x3::[]=>(match of_lCounter x0 with | some y0=>(match of_lRange x1 with | some y1=>(match of_lLease x2 with | some y2=>(match of_lInt x3 with | some y3=>(some (Book.mk y0 y1 y2 y3)) | none=>none) | none=>none) | none=>none) | none=>none) | _=>none
def v_EntryC (x:Entry):List (I TL):=[.int .i64 x.device,.int .i64 x.epoch,.int .i64 x.seq]
def v_EntryMk (l:List (I TL)):Option Entry:=match l with | x0::x1::x2::[]=>(match iOf .i64 x0 with | some y0=>(match iOf .i64 x1 with | some y1=>(match iOf .i64 x2 with | some y2=>(some (Entry.mk y0 y1 y2)) | none=>none) | none=>none) | none=>none) | _=>none
def v_RegC (x:Reg):List (I TL):=[.str x.key,.str x.text,.int .i64 x.ver,.int .i64 x.time,.int .i64 x.dot.device,.int .i64 x.dot.epoch,.int .i64 x.dot.seq]
def v_RegMk (l:List (I TL)):Option Reg:=match l with | x0::x1::x2::x3::x4::x5::x6::[]=>(match sOf x0 with | some y0=>(match sOf x1 with | some y1=>(match iOf .i64 x2 with | some y2=>(match iOf .i64 x3 with | some y3=>(match iOf .i64 x4 with | some y4=>(match iOf .i64 x5 with | some y5=>(match iOf .i64 x6 with | some y6=>(some (Reg.mk y0 y1 y2 y3 (Entry.mk y4 y5 y6))) | none=>none) | none=>none) | none=>none) | none=>none) | none=>none) | none=>none) | none=>none) | _=>none
def v_ElemC (x:Elem):List (I TL):=[.str x.key,.str x.text,.int .i64 x.ver,.int .i64 x.dot.device,.int .i64 x.dot.epoch,.int .i64 x.dot.seq]
def v_ElemMk (l:List (I TL)):Option Elem:=match l with | x0::x1::x2::x3::x4::x5::[]=>(match sOf x0 with | some y0=>(match sOf x1 with | some y1=>(match iOf .i64 x2 with | some y2=>(match iOf .i64 x3 with | some y3=>(match iOf .i64 x4 with | some y4=>(match iOf .i64 x5 with | some y5=>(some (Elem.mk y0 y1 y2 (Entry.mk y3 y4 y5))) | none=>none) | none=>none) | none=>none) | none=>none) | none=>none) | none=>none) | _=>none
def v_SumC (x:Sum):List (I TL):=[.str x.key,.int .i64 x.n]
def v_SumMk (l:List (I TL)):Option Sum:=match l with | x0::x1::[]=>(match sOf x0 with | some y0=>(match iOf .i64 x1 with | some y1=>(some (Sum.mk y0 y1)) | none=>none) | none=>none) | _=>none
def v_BindC (x:Bind):List (I TL):=[.int .i64 x.id_,.str x.text,.int .i64 x.ver,.int .i64 x.dot.device,.int .i64 x.dot.epoch,.int .i64 x.dot.seq]
def v_BindMk (l:List (I TL)):Option Bind:=match l with | x0::x1::x2::x3::x4::x5::[]=>(match iOf .i64 x0 with | some y0=>(match sOf x1 with | some y1=>(match iOf .i64 x2 with | some y2=>(match iOf .i64 x3 with | some y3=>(match iOf .i64 x4 with | some y4=>(match iOf .i64 x5 with | some y5=>(some (Bind.mk y0 y1 y2 (Entry.mk y3 y4 y5))) | none=>none) | none=>none) | none=>none) | none=>none) | none=>none) | none=>none) | _=>none
def v_CollC (x:Coll):List (I TL):=[.fz (.lEntry x.v),.fz (.lReg x.regs),.fz (.lElem x.elems),.fz (.lEntry x.gone),.fz (.lSum x.sums),.fz (.lBind x.binds)]
def v_CollMk (l:List (I TL)):Option Coll:=match l with | x0::x1::x2::x3::x4::x5::[]=>(match of_lEntry x0 with | some y0=>(match of_lReg x1 with | some y1=>(match of_lElem x2 with | some y2=>(match of_lEntry x3 with | some y3=>(match of_lSum x4 with | some y4=>(match of_lBind x5 with | some y5=>(some (Coll.mk y0 y1 y2 y3 y4 y5)) | none=>none) | none=>none) | none=>none) | none=>none) | none=>none) | none=>none) | _=>none
def v_A3CollC (x:A3Coll):List (I TL):=[.fz (.lEntry x.a0.v),.fz (.lReg x.a0.regs),.fz (.lElem x.a0.elems),.fz (.lEntry x.a0.gone),.fz (.lSum x.a0.sums),.fz (.lBind x.a0.binds),.fz (.lEntry x.a1.v),.fz (.lReg x.a1.regs),.fz (.lElem x.a1.elems),.fz (.lEntry x.a1.gone),.fz (.lSum x.a1.sums),.fz (.lBind x.a1.binds),.fz (.lEntry x.a2.v),.fz (.lReg x.a2.regs),.fz (.lElem x.a2.elems),.fz (.lEntry x.a2.gone),.fz (.lSum x.a2.sums),.fz (.lBind x.a2.binds)]
def v_A3CollMk (l:List (I TL)):Option A3Coll:=match l with | x0::x1::x2::x3::x4::x5::x6::x7::x8::x9::x10::x11::x12::x13::x14::x15::x16::x17::[]=>(match of_lEntry x0 with | some y0=>(match of_lReg x1 with | some y1=>(match of_lElem x2 with | some y2=>(match of_lEntry x3 with | some y3=>(match of_lSum x4 with | some y4=>(match of_lBind x5 with | some y5=>(match of_lEntry x6 with | some y6=>(match of_lReg x7 with | some y7=>(match of_lElem x8 with | some y8=>(match of_lEntry x9 with | some y9=>(match of_lSum x10 with | some y10=>(match of_lBind x11 with | some y11=>(match of_lEntry x12 with | some y12=>(match of_lReg x13 with | some y13=>(match of_lElem x14 with | some y14=>(match of_lEntry x15 with | some y15=>(match of_lSum x16 with | some y16=>(match of_lBind x17 with | some y17=>(some (A3Coll.mk (Coll.mk y0 y1 y2 y3 y4 y5) (Coll.mk y6 y7 y8 y9 y10 y11) (Coll.mk y12 y13 y14 y15 y16 y17))) | none=>none) | none=>none) | none=>none) | none=>none) | none=>none) | none=>none) | none=>none) | none=>none) | none=>none) | none=>none) | none=>none) | none=>none) | none=>none) | none=>none) | none=>none) | none=>none) | none=>none) | none=>none) | _=>none
def v_OpC (x:Op):List (I TL):=[.int .i64 x.dot.device,.int .i64 x.dot.epoch,.int .i64 x.dot.seq,.int .i64 x.coll,.int .i64 x.ver,.int .i64 x.kind,.str x.key,.str x.text,.int .i64 x.n,.int .i64 x.time,.fz (.lEntry x.dots)]
def v_OpMk (l:List (I TL)):Option Op:=match l with | x0::x1::x2::x3::x4::x5::x6::x7::x8::x9::x10::[]=>(match iOf .i64 x0 with | some y0=>(match iOf .i64 x1 with | some y1=>(match iOf .i64 x2 with | some y2=>(match iOf .i64 x3 with | some y3=>(match iOf .i64 x4 with | some y4=>(match iOf .i64 x5 with | some y5=>(match sOf x6 with | some y6=>(match sOf x7 with | some y7=>(match iOf .i64 x8 with | some y8=>(match iOf .i64 x9 with | some y9=>(match of_lEntry x10 with | some y10=>(some (Op.mk (Entry.mk y0 y1 y2) y3 y4 y5 y6 y7 y8 y9 y10)) | none=>none) | none=>none) | none=>none) | none=>none) | none=>none) | none=>none) | none=>none) | none=>none) | none=>none) | none=>none) | none=>none) | _=>none
def v_ReplyC (x:Reply):List (I TL):=[.int .i64 x.err,.int .i64 x.n,.int .i64 x.lease.device,.int .i64 x.lease.epoch,.int .i64 x.lease.until_,.int .i64 x.lease.last,.fz (.lSlice x.lease.slices),.fz (.lRange x.lease.ids),.fz (.lInt x.lease.used)]
def v_ReplyMk (l:List (I TL)):Option Reply:=match l with | x0::x1::x2::x3::x4::x5::x6::x7::x8::[]=>(match iOf .i64 x0 with | some y0=>(match iOf .i64 x1 with | some y1=>(match iOf .i64 x2 with | some y2=>(match iOf .i64 x3 with | some y3=>(match iOf .i64 x4 with | some y4=>(match iOf .i64 x5 with | some y5=>(match of_lSlice x6 with | some y6=>(match of_lRange x7 with | some y7=>(match of_lInt x8 with | some y8=>(some (Reply.mk y0 y1 (Lease.mk y2 y3 y4 y5 y6 y7 y8))) | none=>none) | none=>none) | none=>none) | none=>none) | none=>none) | none=>none) | none=>none) | none=>none) | none=>none) | _=>none
def v_DeviceC (x:Device):List (I TL):=[.int .i64 x.epoch,.int .i64 x.req,.int .i64 x.reply.err,.int .i64 x.reply.n,.int .i64 x.reply.lease.device,.int .i64 x.reply.lease.epoch,.int .i64 x.reply.lease.until_,.int .i64 x.reply.lease.last,.fz (.lSlice x.reply.lease.slices),.fz (.lRange x.reply.lease.ids),.fz (.lInt x.reply.lease.used)]
def v_DeviceMk (l:List (I TL)):Option Device:=match l with | x0::x1::x2::x3::x4::x5::x6::x7::x8::x9::x10::[]=>(match iOf .i64 x0 with | some y0=>(match iOf .i64 x1 with | some y1=>(match iOf .i64 x2 with | some y2=>(match iOf .i64 x3 with | some y3=>(match iOf .i64 x4 with | some y4=>(match iOf .i64 x5 with | some y5=>(match iOf .i64 x6 with | some y6=>(match iOf .i64 x7 with | some y7=>(match of_lSlice x8 with | some y8=>(match of_lRange x9 with | some y9=>(match of_lInt x10 with | some y10=>(some (Device.mk y0 y1 (Reply.mk y2 y3 (Lease.mk y4 y5 y6 y7 y8 y9 y10)))) | none=>none) | none=>none) | none=>none) | none=>none) | none=>none) | none=>none) | none=>none) | none=>none) | none=>none) | none=>none) | none=>none) | _=>none
def v_WantC (x:Want):List (I TL):=[.str x.key,.int .i64 x.up_,.int .i64 x.down_,.int .i64 x.ids]
def v_WantMk (l:List (I TL)):Option Want:=match l with | x0::x1::x2::x3::[]=>(match sOf x0 with | some y0=>(match iOf .i64 x1 with | some y1=>(match iOf .i64 x2 with | some y2=>(match iOf .i64 x3 with | some y3=>(some (Want.mk y0 y1 y2 y3)) | none=>none) | none=>none) | none=>none) | none=>none) | _=>none
def v_CmdC (x:Cmd):List (I TL):=[.int .i64 x.kind,.int .i64 x.device,.int .i64 x.epoch,.int .i64 x.req,.int .i64 x.n,.fz (.lWant x.wants),.fz (.lOp x.ops)]
def v_CmdMk (l:List (I TL)):Option Cmd:=match l with | x0::x1::x2::x3::x4::x5::x6::[]=>(match iOf .i64 x0 with | some y0=>(match iOf .i64 x1 with | some y1=>(match iOf .i64 x2 with | some y2=>(match iOf .i64 x3 with | some y3=>(match iOf .i64 x4 with | some y4=>(match of_lWant x5 with | some y5=>(match of_lOp x6 with | some y6=>(some (Cmd.mk y0 y1 y2 y3 y4 y5 y6)) | none=>none) | none=>none) | none=>none) | none=>none) | none=>none) | none=>none) | none=>none) | _=>none
def v_A5BoolC (x:A5Bool):List (I TL):=[.bool x.a0,.bool x.a1,.bool x.a2,.bool x.a3,.bool x.a4]
def v_A5BoolMk (l:List (I TL)):Option A5Bool:=match l with | x0::x1::x2::x3::x4::[]=>(match bOf x0 with | some y0=>(match bOf x1 with | some y1=>(match bOf x2 with | some y2=>(match bOf x3 with | some y3=>(match bOf x4 with | some y4=>(some (A5Bool.mk y0 y1 y2 y3 y4)) | none=>none) | none=>none) | none=>none) | none=>none) | none=>none) | _=>none
def v_ActC (x:Act):List (I TL):=[.int .i64 x.kind,.int .i64 x.device,.int .i64 x.n,.fz (.lWant x.wants),.fz (.lOp x.ops)]
def v_ActMk (l:List (I TL)):Option Act:=match l with | x0::x1::x2::x3::x4::[]=>(match iOf .i64 x0 with | some y0=>(match iOf .i64 x1 with | some y1=>(match iOf .i64 x2 with | some y2=>(match of_lWant x3 with | some y3=>(match of_lOp x4 with | some y4=>(some (Act.mk y0 y1 y2 y3 y4)) | none=>none) | none=>none) | none=>none) | none=>none) | none=>none) | _=>none
def v_A6IntC (x:A6Int):List (I TL):=[.int .i64 x.a0,.int .i64 x.a1,.int .i64 x.a2,.int .i64 x.a3,.int .i64 x.a4,.int .i64 x.a5]
def v_A6IntMk (l:List (I TL)):Option A6Int:=match l with | x0::x1::x2::x3::x4::x5::[]=>(match iOf .i64 x0 with | some y0=>(match iOf .i64 x1 with | some y1=>(match iOf .i64 x2 with | some y2=>(match iOf .i64 x3 with | some y3=>(match iOf .i64 x4 with | some y4=>(match iOf .i64 x5 with | some y5=>(some (A6Int.mk y0 y1 y2 y3 y4 y5)) | none=>none) | none=>none) | none=>none) | none=>none) | none=>none) | none=>none) | _=>none
def v_PairC (x:Pair):List (I TL):=[.int .i64 x.device,.int .i64 x.epoch]
def v_PairMk (l:List (I TL)):Option Pair:=match l with | x0::x1::[]=>(match iOf .i64 x0 with | some y0=>(match iOf .i64 x1 with | some y1=>(some (Pair.mk y0 y1)) | none=>none) | none=>none) | _=>none
def v_IntC (x:Int):List (I TL):=[.int .i64 x]
def v_IntMk (l:List (I TL)):Option Int:=match l with | x0::[]=>(match iOf .i64 x0 with | some y0=>(some y0) | none=>none) | _=>none
def v_BoolC (x:Bool):List (I TL):=[.bool x]
def v_BoolMk (l:List (I TL)):Option Bool:=match l with | x0::[]=>(match bOf x0 with | some y0=>(some y0) | none=>none) | _=>none
def v_LRangeC (x:List Range):List (I TL):=[.fz (.lRange x)]
def v_LRangeMk (l:List (I TL)):Option (List Range):=match l with | x0::[]=>(match of_lRange x0 with | some y0=>(some y0) | none=>none) | _=>none
def v_StrC (x:ByteArray):List (I TL):=[.str x]
def v_StrMk (l:List (I TL)):Option ByteArray:=match l with | x0::[]=>(match sOf x0 with | some y0=>(some y0) | none=>none) | _=>none
def mks_lCounter:List (List (I TL))→Option (List Counter)
 | []=>some []
 | c::r=>match v_CounterMk c,mks_lCounter r with | some x,some xs=>some (x::xs) | _,_=>none
def mks_lRange:List (List (I TL))→Option (List Range)
 | []=>some []
 | c::r=>match v_RangeMk c,mks_lRange r with | some x,some xs=>some (x::xs) | _,_=>none
def mks_lSlice:List (List (I TL))→Option (List Slice)
 | []=>some []
 | c::r=>match v_SliceMk c,mks_lSlice r with | some x,some xs=>some (x::xs) | _,_=>none
def mks_lInt:List (List (I TL))→Option (List Int)
 | []=>some []
 | c::r=>match v_IntMk c,mks_lInt r with | some x,some xs=>some (x::xs) | _,_=>none
def mks_lLease:List (List (I TL))→Option (List Lease)
 | []=>some []
 | c::r=>match v_LeaseMk c,mks_lLease r with | some x,some xs=>some (x::xs) | _,_=>none
def mks_lEntry:List (List (I TL))→Option (List Entry)
 | []=>some []
 | c::r=>match v_EntryMk c,mks_lEntry r with | some x,some xs=>some (x::xs) | _,_=>none
def mks_lReg:List (List (I TL))→Option (List Reg)
 | []=>some []
 | c::r=>match v_RegMk c,mks_lReg r with | some x,some xs=>some (x::xs) | _,_=>none
def mks_lElem:List (List (I TL))→Option (List Elem)
 | []=>some []
 | c::r=>match v_ElemMk c,mks_lElem r with | some x,some xs=>some (x::xs) | _,_=>none
def mks_lSum:List (List (I TL))→Option (List Sum)
 | []=>some []
 | c::r=>match v_SumMk c,mks_lSum r with | some x,some xs=>some (x::xs) | _,_=>none
def mks_lBind:List (List (I TL))→Option (List Bind)
 | []=>some []
 | c::r=>match v_BindMk c,mks_lBind r with | some x,some xs=>some (x::xs) | _,_=>none
def mks_lOp:List (List (I TL))→Option (List Op)
 | []=>some []
 | c::r=>match v_OpMk c,mks_lOp r with | some x,some xs=>some (x::xs) | _,_=>none
def mks_lWant:List (List (I TL))→Option (List Want)
 | []=>some []
 | c::r=>match v_WantMk c,mks_lWant r with | some x,some xs=>some (x::xs) | _,_=>none
def mks_lAct:List (List (I TL))→Option (List Act)
 | []=>some []
 | c::r=>match v_ActMk c,mks_lAct r with | some x,some xs=>some (x::xs) | _,_=>none
def mks_lBool:List (List (I TL))→Option (List Bool)
 | []=>some []
 | c::r=>match v_BoolMk c,mks_lBool r with | some x,some xs=>some (x::xs) | _,_=>none
def mks_lCmd:List (List (I TL))→Option (List Cmd)
 | []=>some []
 | c::r=>match v_CmdMk c,mks_lCmd r with | some x,some xs=>some (x::xs) | _,_=>none
def mks_lDevice:List (List (I TL))→Option (List Device)
 | []=>some []
 | c::r=>match v_DeviceMk c,mks_lDevice r with | some x,some xs=>some (x::xs) | _,_=>none
def mks_lLRange:List (List (I TL))→Option (List (List Range))
 | []=>some []
 | c::r=>match v_LRangeMk c,mks_lLRange r with | some x,some xs=>some (x::xs) | _,_=>none
def mks_lStr:List (List (I TL))→Option (List ByteArray)
 | []=>some []
 | c::r=>match v_StrMk c,mks_lStr r with | some x,some xs=>some (x::xs) | _,_=>none
instance:LI TL where
 kn:=false
 selT:=fun t=>Nat.beq t 38 || Nat.beq t 48 || Nat.beq t 63 || Nat.beq t 88 || Nat.beq t 303
 els:=fun
  | .lCounter l=>l.map v_CounterC
  | .lRange l=>l.map v_RangeC
  | .lSlice l=>l.map v_SliceC
  | .lInt l=>l.map v_IntC
  | .lLease l=>l.map v_LeaseC
  | .lEntry l=>l.map v_EntryC
  | .lReg l=>l.map v_RegC
  | .lElem l=>l.map v_ElemC
  | .lSum l=>l.map v_SumC
  | .lBind l=>l.map v_BindC
  | .lOp l=>l.map v_OpC
  | .lWant l=>l.map v_WantC
  | .lAct l=>l.map v_ActC
  | .lBool l=>l.map v_BoolC
  | .lCmd l=>l.map v_CmdC
  | .lDevice l=>l.map v_DeviceC
  | .lLRange l=>l.map v_LRangeC
  | .lStr l=>l.map v_StrC
 sz:=fun
  | .lCounter _=>7
  | .lRange _=>2
  | .lSlice _=>5
  | .lInt _=>1
  | .lLease _=>7
  | .lEntry _=>3
  | .lReg _=>7
  | .lElem _=>6
  | .lSum _=>2
  | .lBind _=>6
  | .lOp _=>11
  | .lWant _=>4
  | .lAct _=>5
  | .lBool _=>1
  | .lCmd _=>7
  | .lDevice _=>11
  | .lLRange _=>1
  | .lStr _=>1
 len:=fun
  | .lCounter l=>l.length
  | .lRange l=>l.length
  | .lSlice l=>l.length
  | .lInt l=>l.length
  | .lLease l=>l.length
  | .lEntry l=>l.length
  | .lReg l=>l.length
  | .lElem l=>l.length
  | .lSum l=>l.length
  | .lBind l=>l.length
  | .lOp l=>l.length
  | .lWant l=>l.length
  | .lAct l=>l.length
  | .lBool l=>l.length
  | .lCmd l=>l.length
  | .lDevice l=>l.length
  | .lLRange l=>l.length
  | .lStr l=>l.length
 idx:=fun x i k=>match x with
  | .lCounter l=>ob l[i]? fun x=>k (v_CounterC x)
  | .lRange l=>ob l[i]? fun x=>k (v_RangeC x)
  | .lSlice l=>ob l[i]? fun x=>k (v_SliceC x)
  | .lInt l=>ob l[i]? fun x=>k (v_IntC x)
  | .lLease l=>ob l[i]? fun x=>k (v_LeaseC x)
  | .lEntry l=>ob l[i]? fun x=>k (v_EntryC x)
  | .lReg l=>ob l[i]? fun x=>k (v_RegC x)
  | .lElem l=>ob l[i]? fun x=>k (v_ElemC x)
  | .lSum l=>ob l[i]? fun x=>k (v_SumC x)
  | .lBind l=>ob l[i]? fun x=>k (v_BindC x)
  | .lOp l=>ob l[i]? fun x=>k (v_OpC x)
  | .lWant l=>ob l[i]? fun x=>k (v_WantC x)
  | .lAct l=>ob l[i]? fun x=>k (v_ActC x)
  | .lBool l=>ob l[i]? fun x=>k (v_BoolC x)
  | .lCmd l=>ob l[i]? fun x=>k (v_CmdC x)
  | .lDevice l=>ob l[i]? fun x=>k (v_DeviceC x)
  | .lLRange l=>ob l[i]? fun x=>k (v_LRangeC x)
  | .lStr l=>ob l[i]? fun x=>k (v_StrC x)
 mkL:=fun t cs=>match t with
  | 65=>match mks_lCounter cs with | some l=>some (.lCounter l) | none=>none
  | 153=>match mks_lRange cs with | some l=>some (.lRange l) | none=>none
  | 133=>match mks_lSlice cs with | some l=>some (.lSlice l) | none=>none
  | 3=>match mks_lInt cs with | some l=>some (.lInt l) | none=>none
  | 43=>match mks_lLease cs with | some l=>some (.lLease l) | none=>none
  | 59 | 66=>match mks_lEntry cs with | some l=>some (.lEntry l) | none=>none
  | 142=>match mks_lReg cs with | some l=>some (.lReg l) | none=>none
  | 145=>match mks_lElem cs with | some l=>some (.lElem l) | none=>none
  | 129=>match mks_lSum cs with | some l=>some (.lSum l) | none=>none
  | 149=>match mks_lBind cs with | some l=>some (.lBind l) | none=>none
  | 61=>match mks_lOp cs with | some l=>some (.lOp l) | none=>none
  | 105=>match mks_lWant cs with | some l=>some (.lWant l) | none=>none
  | 80=>match mks_lAct cs with | some l=>some (.lAct l) | none=>none
  | 4=>match mks_lBool cs with | some l=>some (.lBool l) | none=>none
  | 56=>match mks_lCmd cs with | some l=>some (.lCmd l) | none=>none
  | 47=>match mks_lDevice cs with | some l=>some (.lDevice l) | none=>none
  | 25=>match mks_lLRange cs with | some l=>some (.lLRange l) | none=>none
  | 9=>match mks_lStr cs with | some l=>some (.lStr l) | none=>none
  | _=>none
 bytes:=fun
  | _=>none
 ofStr:=fun _ _=>none
 app:=fun x y=>match x,y with
  | .lCounter a,.lCounter b=>some (.lCounter (a++b))
  | .lRange a,.lRange b=>some (.lRange (a++b))
  | .lSlice a,.lSlice b=>some (.lSlice (a++b))
  | .lInt a,.lInt b=>some (.lInt (a++b))
  | .lLease a,.lLease b=>some (.lLease (a++b))
  | .lEntry a,.lEntry b=>some (.lEntry (a++b))
  | .lReg a,.lReg b=>some (.lReg (a++b))
  | .lElem a,.lElem b=>some (.lElem (a++b))
  | .lSum a,.lSum b=>some (.lSum (a++b))
  | .lBind a,.lBind b=>some (.lBind (a++b))
  | .lOp a,.lOp b=>some (.lOp (a++b))
  | .lWant a,.lWant b=>some (.lWant (a++b))
  | .lAct a,.lAct b=>some (.lAct (a++b))
  | .lBool a,.lBool b=>some (.lBool (a++b))
  | .lCmd a,.lCmd b=>some (.lCmd (a++b))
  | .lDevice a,.lDevice b=>some (.lDevice (a++b))
  | .lLRange a,.lLRange b=>some (.lLRange (a++b))
  | .lStr a,.lStr b=>some (.lStr (a++b))
  | _,_=>none
 sub:=fun x lo hi=>match x with
  | .lCounter l=>.lCounter ((l.take hi).drop lo)
  | .lRange l=>.lRange ((l.take hi).drop lo)
  | .lSlice l=>.lSlice ((l.take hi).drop lo)
  | .lInt l=>.lInt ((l.take hi).drop lo)
  | .lLease l=>.lLease ((l.take hi).drop lo)
  | .lEntry l=>.lEntry ((l.take hi).drop lo)
  | .lReg l=>.lReg ((l.take hi).drop lo)
  | .lElem l=>.lElem ((l.take hi).drop lo)
  | .lSum l=>.lSum ((l.take hi).drop lo)
  | .lBind l=>.lBind ((l.take hi).drop lo)
  | .lOp l=>.lOp ((l.take hi).drop lo)
  | .lWant l=>.lWant ((l.take hi).drop lo)
  | .lAct l=>.lAct ((l.take hi).drop lo)
  | .lBool l=>.lBool ((l.take hi).drop lo)
  | .lCmd l=>.lCmd ((l.take hi).drop lo)
  | .lDevice l=>.lDevice ((l.take hi).drop lo)
  | .lLRange l=>.lLRange ((l.take hi).drop lo)
  | .lStr l=>.lStr ((l.take hi).drop lo)
 set:=fun x i cs=>match x with
  | .lCounter l=>match v_CounterMk cs with | some y=>some (.lCounter (l.set i y)) | none=>none
  | .lRange l=>match v_RangeMk cs with | some y=>some (.lRange (l.set i y)) | none=>none
  | .lSlice l=>match v_SliceMk cs with | some y=>some (.lSlice (l.set i y)) | none=>none
  | .lInt l=>match v_IntMk cs with | some y=>some (.lInt (l.set i y)) | none=>none
  | .lLease l=>match v_LeaseMk cs with | some y=>some (.lLease (l.set i y)) | none=>none
  | .lEntry l=>match v_EntryMk cs with | some y=>some (.lEntry (l.set i y)) | none=>none
  | .lReg l=>match v_RegMk cs with | some y=>some (.lReg (l.set i y)) | none=>none
  | .lElem l=>match v_ElemMk cs with | some y=>some (.lElem (l.set i y)) | none=>none
  | .lSum l=>match v_SumMk cs with | some y=>some (.lSum (l.set i y)) | none=>none
  | .lBind l=>match v_BindMk cs with | some y=>some (.lBind (l.set i y)) | none=>none
  | .lOp l=>match v_OpMk cs with | some y=>some (.lOp (l.set i y)) | none=>none
  | .lWant l=>match v_WantMk cs with | some y=>some (.lWant (l.set i y)) | none=>none
  | .lAct l=>match v_ActMk cs with | some y=>some (.lAct (l.set i y)) | none=>none
  | .lBool l=>match v_BoolMk cs with | some y=>some (.lBool (l.set i y)) | none=>none
  | .lCmd l=>match v_CmdMk cs with | some y=>some (.lCmd (l.set i y)) | none=>none
  | .lDevice l=>match v_DeviceMk cs with | some y=>some (.lDevice (l.set i y)) | none=>none
  | .lLRange l=>match v_LRangeMk cs with | some y=>some (.lLRange (l.set i y)) | none=>none
  | .lStr l=>match v_StrMk cs with | some y=>some (.lStr (l.set i y)) | none=>none
 rep:=fun t n=>match t with
  | 65=>some (.lCounter (List.replicate n (Counter.mk ⟨#[]⟩ 0 0 0 0 0 0)))
  | 153=>some (.lRange (List.replicate n (Range.mk 0 0)))
  | 133=>some (.lSlice (List.replicate n (Slice.mk ⟨#[]⟩ 0 0 0 0)))
  | 3=>some (.lInt (List.replicate n 0))
  | 43=>some (.lLease (List.replicate n (Lease.mk 0 0 0 0 [] [] [])))
  | 59 | 66=>some (.lEntry (List.replicate n (Entry.mk 0 0 0)))
  | 142=>some (.lReg (List.replicate n (Reg.mk ⟨#[]⟩ ⟨#[]⟩ 0 0 (Entry.mk 0 0 0))))
  | 145=>some (.lElem (List.replicate n (Elem.mk ⟨#[]⟩ ⟨#[]⟩ 0 (Entry.mk 0 0 0))))
  | 129=>some (.lSum (List.replicate n (Sum.mk ⟨#[]⟩ 0)))
  | 149=>some (.lBind (List.replicate n (Bind.mk 0 ⟨#[]⟩ 0 (Entry.mk 0 0 0))))
  | 61=>some (.lOp (List.replicate n (Op.mk (Entry.mk 0 0 0) 0 0 0 ⟨#[]⟩ ⟨#[]⟩ 0 0 [])))
  | 105=>some (.lWant (List.replicate n (Want.mk ⟨#[]⟩ 0 0 0)))
  | 80=>some (.lAct (List.replicate n (Act.mk 0 0 0 [] [])))
  | 4=>some (.lBool (List.replicate n false))
  | 56=>some (.lCmd (List.replicate n (Cmd.mk 0 0 0 0 0 [] [])))
  | 47=>some (.lDevice (List.replicate n (Device.mk 0 0 (Reply.mk 0 0 (Lease.mk 0 0 0 0 [] [] [])))))
  | 25=>some (.lLRange (List.replicate n []))
  | 9=>some (.lStr (List.replicate n ⟨#[]⟩))
  | _=>none
 mrg:=fun c x y=>match x,y with
  | .lCounter a,.lCounter b=>some (.lCounter (cond c a b))
  | .lRange a,.lRange b=>some (.lRange (cond c a b))
  | .lSlice a,.lSlice b=>some (.lSlice (cond c a b))
  | .lInt a,.lInt b=>some (.lInt (cond c a b))
  | .lLease a,.lLease b=>some (.lLease (cond c a b))
  | .lEntry a,.lEntry b=>some (.lEntry (cond c a b))
  | .lReg a,.lReg b=>some (.lReg (cond c a b))
  | .lElem a,.lElem b=>some (.lElem (cond c a b))
  | .lSum a,.lSum b=>some (.lSum (cond c a b))
  | .lBind a,.lBind b=>some (.lBind (cond c a b))
  | .lOp a,.lOp b=>some (.lOp (cond c a b))
  | .lWant a,.lWant b=>some (.lWant (cond c a b))
  | .lAct a,.lAct b=>some (.lAct (cond c a b))
  | .lBool a,.lBool b=>some (.lBool (cond c a b))
  | .lCmd a,.lCmd b=>some (.lCmd (cond c a b))
  | .lDevice a,.lDevice b=>some (.lDevice (cond c a b))
  | .lLRange a,.lLRange b=>some (.lLRange (cond c a b))
  | .lStr a,.lStr b=>some (.lStr (cond c a b))
  | _,_=>none
 flat:=fun
  | .lCounter _=>true
  | .lRange _=>true
  | .lSlice _=>true
  | .lInt _=>true
  | .lLease _=>false
  | .lEntry _=>true
  | .lReg _=>true
  | .lElem _=>true
  | .lSum _=>true
  | .lBind _=>true
  | .lOp _=>false
  | .lWant _=>true
  | .lAct _=>false
  | .lBool _=>true
  | .lCmd _=>false
  | .lDevice _=>false
  | .lLRange _=>false
  | .lStr _=>true
theorem iOf_le {k:IntKind}{x:I TL}{n:Int}(h:iOf k x=some n):Le x (.int k n):=(DI.int (L:=TL) k).ok _ _ (by cases x<;>exact h)
theorem bOf_le {x:I TL}{b:Bool}(h:bOf x=some b):Le x (.bool b):=(DI.bool (L:=TL)).ok _ _ (by cases x<;>exact h)
theorem sOf_le {x:I TL}{s:ByteArray}(h:sOf x=some s):Le x (.str s):=by
 unfold sOf at h
 split at h
 ·cases h;exact fun _ _ hv=>hv
 ·cases h
theorem of_lCounter_le {x:I TL}{l:List Counter}(h:of_lCounter x=some l):Le x (.fz (.lCounter l)):=by
 unfold of_lCounter at h
 split at h
 ·cases h;exact fun _ _ hv=>hv
 ·cases h
  intro G v hv
  cases hv
  exact .fz (k:=0) (o:=0) (vals:=fun _ _=>undef) rfl (Nat.le_refl _) (fun h=>absurd h (Nat.lt_irrefl _)) (fun i j cs x h=>by simp [LI.els] at h) (fun i j cs x h=>by simp [LI.els] at h)
 ·cases h
theorem of_lRange_le {x:I TL}{l:List Range}(h:of_lRange x=some l):Le x (.fz (.lRange l)):=by
 unfold of_lRange at h
 split at h
 ·cases h;exact fun _ _ hv=>hv
 ·cases h
  intro G v hv
  cases hv
  exact .fz (k:=0) (o:=0) (vals:=fun _ _=>undef) rfl (Nat.le_refl _) (fun h=>absurd h (Nat.lt_irrefl _)) (fun i j cs x h=>by simp [LI.els] at h) (fun i j cs x h=>by simp [LI.els] at h)
 ·cases h
theorem of_lSlice_le {x:I TL}{l:List Slice}(h:of_lSlice x=some l):Le x (.fz (.lSlice l)):=by
 unfold of_lSlice at h
 split at h
 ·cases h;exact fun _ _ hv=>hv
 ·cases h
  intro G v hv
  cases hv
  exact .fz (k:=0) (o:=0) (vals:=fun _ _=>undef) rfl (Nat.le_refl _) (fun h=>absurd h (Nat.lt_irrefl _)) (fun i j cs x h=>by simp [LI.els] at h) (fun i j cs x h=>by simp [LI.els] at h)
 ·cases h
theorem of_lInt_le {x:I TL}{l:List Int}(h:of_lInt x=some l):Le x (.fz (.lInt l)):=by
 unfold of_lInt at h
 split at h
 ·cases h;exact fun _ _ hv=>hv
 ·cases h
  intro G v hv
  cases hv
  exact .fz (k:=0) (o:=0) (vals:=fun _ _=>undef) rfl (Nat.le_refl _) (fun h=>absurd h (Nat.lt_irrefl _)) (fun i j cs x h=>by simp [LI.els] at h) (fun i j cs x h=>by simp [LI.els] at h)
 ·cases h
theorem of_lLease_le {x:I TL}{l:List Lease}(h:of_lLease x=some l):Le x (.fz (.lLease l)):=by
 unfold of_lLease at h
 split at h
 ·cases h;exact fun _ _ hv=>hv
 ·cases h
  intro G v hv
  cases hv
  exact .fz (k:=0) (o:=0) (vals:=fun _ _=>undef) rfl (Nat.le_refl _) (fun h=>absurd h (Nat.lt_irrefl _)) (fun i j cs x h=>by simp [LI.els] at h) (fun i j cs x h=>by simp [LI.els] at h)
 ·cases h
theorem of_lEntry_le {x:I TL}{l:List Entry}(h:of_lEntry x=some l):Le x (.fz (.lEntry l)):=by
 unfold of_lEntry at h
 split at h
 ·cases h;exact fun _ _ hv=>hv
 ·cases h
  intro G v hv
  cases hv
  exact .fz (k:=0) (o:=0) (vals:=fun _ _=>undef) rfl (Nat.le_refl _) (fun h=>absurd h (Nat.lt_irrefl _)) (fun i j cs x h=>by simp [LI.els] at h) (fun i j cs x h=>by simp [LI.els] at h)
 ·cases h
theorem of_lReg_le {x:I TL}{l:List Reg}(h:of_lReg x=some l):Le x (.fz (.lReg l)):=by
 unfold of_lReg at h
 split at h
 ·cases h;exact fun _ _ hv=>hv
 ·cases h
  intro G v hv
  cases hv
  exact .fz (k:=0) (o:=0) (vals:=fun _ _=>undef) rfl (Nat.le_refl _) (fun h=>absurd h (Nat.lt_irrefl _)) (fun i j cs x h=>by simp [LI.els] at h) (fun i j cs x h=>by simp [LI.els] at h)
 ·cases h
theorem of_lElem_le {x:I TL}{l:List Elem}(h:of_lElem x=some l):Le x (.fz (.lElem l)):=by
 unfold of_lElem at h
 split at h
 ·cases h;exact fun _ _ hv=>hv
 ·cases h
  intro G v hv
  cases hv
  exact .fz (k:=0) (o:=0) (vals:=fun _ _=>undef) rfl (Nat.le_refl _) (fun h=>absurd h (Nat.lt_irrefl _)) (fun i j cs x h=>by simp [LI.els] at h) (fun i j cs x h=>by simp [LI.els] at h)
 ·cases h
theorem of_lSum_le {x:I TL}{l:List Sum}(h:of_lSum x=some l):Le x (.fz (.lSum l)):=by
 unfold of_lSum at h
 split at h
 ·cases h;exact fun _ _ hv=>hv
 ·cases h
  intro G v hv
  cases hv
  exact .fz (k:=0) (o:=0) (vals:=fun _ _=>undef) rfl (Nat.le_refl _) (fun h=>absurd h (Nat.lt_irrefl _)) (fun i j cs x h=>by simp [LI.els] at h) (fun i j cs x h=>by simp [LI.els] at h)
 ·cases h
theorem of_lBind_le {x:I TL}{l:List Bind}(h:of_lBind x=some l):Le x (.fz (.lBind l)):=by
 unfold of_lBind at h
 split at h
 ·cases h;exact fun _ _ hv=>hv
 ·cases h
  intro G v hv
  cases hv
  exact .fz (k:=0) (o:=0) (vals:=fun _ _=>undef) rfl (Nat.le_refl _) (fun h=>absurd h (Nat.lt_irrefl _)) (fun i j cs x h=>by simp [LI.els] at h) (fun i j cs x h=>by simp [LI.els] at h)
 ·cases h
theorem of_lOp_le {x:I TL}{l:List Op}(h:of_lOp x=some l):Le x (.fz (.lOp l)):=by
 unfold of_lOp at h
 split at h
 ·cases h;exact fun _ _ hv=>hv
 ·cases h
  intro G v hv
  cases hv
  exact .fz (k:=0) (o:=0) (vals:=fun _ _=>undef) rfl (Nat.le_refl _) (fun h=>absurd h (Nat.lt_irrefl _)) (fun i j cs x h=>by simp [LI.els] at h) (fun i j cs x h=>by simp [LI.els] at h)
 ·cases h
theorem of_lWant_le {x:I TL}{l:List Want}(h:of_lWant x=some l):Le x (.fz (.lWant l)):=by
 unfold of_lWant at h
 split at h
 ·cases h;exact fun _ _ hv=>hv
 ·cases h
  intro G v hv
  cases hv
  exact .fz (k:=0) (o:=0) (vals:=fun _ _=>undef) rfl (Nat.le_refl _) (fun h=>absurd h (Nat.lt_irrefl _)) (fun i j cs x h=>by simp [LI.els] at h) (fun i j cs x h=>by simp [LI.els] at h)
 ·cases h
theorem of_lAct_le {x:I TL}{l:List Act}(h:of_lAct x=some l):Le x (.fz (.lAct l)):=by
 unfold of_lAct at h
 split at h
 ·cases h;exact fun _ _ hv=>hv
 ·cases h
  intro G v hv
  cases hv
  exact .fz (k:=0) (o:=0) (vals:=fun _ _=>undef) rfl (Nat.le_refl _) (fun h=>absurd h (Nat.lt_irrefl _)) (fun i j cs x h=>by simp [LI.els] at h) (fun i j cs x h=>by simp [LI.els] at h)
 ·cases h
theorem of_lBool_le {x:I TL}{l:List Bool}(h:of_lBool x=some l):Le x (.fz (.lBool l)):=by
 unfold of_lBool at h
 split at h
 ·cases h;exact fun _ _ hv=>hv
 ·cases h
  intro G v hv
  cases hv
  exact .fz (k:=0) (o:=0) (vals:=fun _ _=>undef) rfl (Nat.le_refl _) (fun h=>absurd h (Nat.lt_irrefl _)) (fun i j cs x h=>by simp [LI.els] at h) (fun i j cs x h=>by simp [LI.els] at h)
 ·cases h
theorem of_lCmd_le {x:I TL}{l:List Cmd}(h:of_lCmd x=some l):Le x (.fz (.lCmd l)):=by
 unfold of_lCmd at h
 split at h
 ·cases h;exact fun _ _ hv=>hv
 ·cases h
  intro G v hv
  cases hv
  exact .fz (k:=0) (o:=0) (vals:=fun _ _=>undef) rfl (Nat.le_refl _) (fun h=>absurd h (Nat.lt_irrefl _)) (fun i j cs x h=>by simp [LI.els] at h) (fun i j cs x h=>by simp [LI.els] at h)
 ·cases h
theorem of_lDevice_le {x:I TL}{l:List Device}(h:of_lDevice x=some l):Le x (.fz (.lDevice l)):=by
 unfold of_lDevice at h
 split at h
 ·cases h;exact fun _ _ hv=>hv
 ·cases h
  intro G v hv
  cases hv
  exact .fz (k:=0) (o:=0) (vals:=fun _ _=>undef) rfl (Nat.le_refl _) (fun h=>absurd h (Nat.lt_irrefl _)) (fun i j cs x h=>by simp [LI.els] at h) (fun i j cs x h=>by simp [LI.els] at h)
 ·cases h
theorem of_lLRange_le {x:I TL}{l:List (List Range)}(h:of_lLRange x=some l):Le x (.fz (.lLRange l)):=by
 unfold of_lLRange at h
 split at h
 ·cases h;exact fun _ _ hv=>hv
 ·cases h
  intro G v hv
  cases hv
  exact .fz (k:=0) (o:=0) (vals:=fun _ _=>undef) rfl (Nat.le_refl _) (fun h=>absurd h (Nat.lt_irrefl _)) (fun i j cs x h=>by simp [LI.els] at h) (fun i j cs x h=>by simp [LI.els] at h)
 ·cases h
theorem of_lStr_le {x:I TL}{l:List ByteArray}(h:of_lStr x=some l):Le x (.fz (.lStr l)):=by
 unfold of_lStr at h
 split at h
 ·cases h;exact fun _ _ hv=>hv
 ·cases h
  intro G v hv
  cases hv
  exact .fz (k:=0) (o:=0) (vals:=fun _ _=>undef) rfl (Nat.le_refl _) (fun h=>absurd h (Nat.lt_irrefl _)) (fun i j cs x h=>by simp [LI.els] at h) (fun i j cs x h=>by simp [LI.els] at h)
 ·cases h
theorem v_BoundsErrorMk_le {l:List (I TL)}{x:BoundsError}(h:v_BoundsErrorMk l=some x):All2 Le l (v_BoundsErrorC x):=by
 unfold v_BoundsErrorMk at h
 split at h
 ·split at h
  ·rename_i y0 h0
   split at h
   ·rename_i y1 h1
    split at h
    ·rename_i y2 h2
     split at h
     ·rename_i y3 h3
      cases h
      exact .cons (iOf_le h0) (.cons (iOf_le h1) (.cons (bOf_le h2) (.cons (iOf_le h3) (.nil))))
     ·cases h
    ·cases h
   ·cases h
  ·cases h
 ·cases h
theorem v_ErrorAddressStringMk_le {l:List (I TL)}{x:ErrorAddressString}(h:v_ErrorAddressStringMk l=some x):All2 Le l (v_ErrorAddressStringC x):=by
 unfold v_ErrorAddressStringMk at h
 split at h
 ·split at h
  ·rename_i y0 h0
   split at h
   ·rename_i y1 h1
    cases h
    exact .cons (sOf_le h0) (.cons (iOf_le h1) (.nil))
   ·cases h
  ·cases h
 ·cases h
theorem v_CounterMk_le {l:List (I TL)}{x:Counter}(h:v_CounterMk l=some x):All2 Le l (v_CounterC x):=by
 unfold v_CounterMk at h
 split at h
 ·split at h
  ·rename_i y0 h0
   split at h
   ·rename_i y1 h1
    split at h
    ·rename_i y2 h2
     split at h
     ·rename_i y3 h3
      split at h
      ·rename_i y4 h4
       split at h
       ·rename_i y5 h5
        split at h
        ·rename_i y6 h6
         cases h
         exact .cons (sOf_le h0) (.cons (iOf_le h1) (.cons (iOf_le h2) (.cons (iOf_le h3) (.cons (iOf_le h4) (.cons (iOf_le h5) (.cons (iOf_le h6) (.nil)))))))
        ·cases h
       ·cases h
      ·cases h
     ·cases h
    ·cases h
   ·cases h
  ·cases h
 ·cases h
theorem v_RangeMk_le {l:List (I TL)}{x:Range}(h:v_RangeMk l=some x):All2 Le l (v_RangeC x):=by
 unfold v_RangeMk at h
 split at h
 ·split at h
  ·rename_i y0 h0
   split at h
   ·rename_i y1 h1
    cases h
    exact .cons (iOf_le h0) (.cons (iOf_le h1) (.nil))
   ·cases h
  ·cases h
 ·cases h
theorem v_SliceMk_le {l:List (I TL)}{x:Slice}(h:v_SliceMk l=some x):All2 Le l (v_SliceC x):=by
 unfold v_SliceMk at h
 split at h
 ·split at h
  ·rename_i y0 h0
   split at h
   ·rename_i y1 h1
    split at h
    ·rename_i y2 h2
     split at h
     ·rename_i y3 h3
      split at h
      ·rename_i y4 h4
       cases h
       exact .cons (sOf_le h0) (.cons (iOf_le h1) (.cons (iOf_le h2) (.cons (iOf_le h3) (.cons (iOf_le h4) (.nil)))))
      ·cases h
     ·cases h
    ·cases h
   ·cases h
  ·cases h
 ·cases h
theorem v_LeaseMk_le {l:List (I TL)}{x:Lease}(h:v_LeaseMk l=some x):All2 Le l (v_LeaseC x):=by
 unfold v_LeaseMk at h
 split at h
 ·split at h
  ·rename_i y0 h0
   split at h
   ·rename_i y1 h1
    split at h
    ·rename_i y2 h2
     split at h
     ·rename_i y3 h3
      split at h
      ·rename_i y4 h4
       split at h
       ·rename_i y5 h5
        split at h
        ·rename_i y6 h6
         cases h
         exact .cons (iOf_le h0) (.cons (iOf_le h1) (.cons (iOf_le h2) (.cons (iOf_le h3) (.cons (of_lSlice_le h4) (.cons (of_lRange_le h5) (.cons (of_lInt_le h6) (.nil)))))))
        ·cases h
       ·cases h
      ·cases h
     ·cases h
    ·cases h
   ·cases h
  ·cases h
 ·cases h
theorem v_BookMk_le {l:List (I TL)}{x:Book}(h:v_BookMk l=some x):All2 Le l (v_BookC x):=by
 unfold v_BookMk at h
 split at h
 ·split at h
  ·rename_i y0 h0
   split at h
   ·rename_i y1 h1
    split at h
    ·rename_i y2 h2
     split at h
     ·rename_i y3 h3
      cases h
      exact .cons (of_lCounter_le h0) (.cons (of_lRange_le h1) (.cons (of_lLease_le h2) (.cons (of_lInt_le h3) (.nil))))
     ·cases h
    ·cases h
   ·cases h
  ·cases h
 ·cases h
theorem v_EntryMk_le {l:List (I TL)}{x:Entry}(h:v_EntryMk l=some x):All2 Le l (v_EntryC x):=by
 unfold v_EntryMk at h
 split at h
 ·split at h
  ·rename_i y0 h0
   split at h
   ·rename_i y1 h1
    split at h
    ·rename_i y2 h2
     cases h
     exact .cons (iOf_le h0) (.cons (iOf_le h1) (.cons (iOf_le h2) (.nil)))
    ·cases h
   ·cases h
  ·cases h
 ·cases h
theorem v_RegMk_le {l:List (I TL)}{x:Reg}(h:v_RegMk l=some x):All2 Le l (v_RegC x):=by
 unfold v_RegMk at h
 split at h
 ·split at h
  ·rename_i y0 h0
   split at h
   ·rename_i y1 h1
    split at h
    ·rename_i y2 h2
     split at h
     ·rename_i y3 h3
      split at h
      ·rename_i y4 h4
       split at h
       ·rename_i y5 h5
        split at h
        ·rename_i y6 h6
         cases h
         exact .cons (sOf_le h0) (.cons (sOf_le h1) (.cons (iOf_le h2) (.cons (iOf_le h3) (.cons (iOf_le h4) (.cons (iOf_le h5) (.cons (iOf_le h6) (.nil)))))))
        ·cases h
       ·cases h
      ·cases h
     ·cases h
    ·cases h
   ·cases h
  ·cases h
 ·cases h
theorem v_ElemMk_le {l:List (I TL)}{x:Elem}(h:v_ElemMk l=some x):All2 Le l (v_ElemC x):=by
 unfold v_ElemMk at h
 split at h
 ·split at h
  ·rename_i y0 h0
   split at h
   ·rename_i y1 h1
    split at h
    ·rename_i y2 h2
     split at h
     ·rename_i y3 h3
      split at h
      ·rename_i y4 h4
       split at h
       ·rename_i y5 h5
        cases h
        exact .cons (sOf_le h0) (.cons (sOf_le h1) (.cons (iOf_le h2) (.cons (iOf_le h3) (.cons (iOf_le h4) (.cons (iOf_le h5) (.nil))))))
       ·cases h
      ·cases h
     ·cases h
    ·cases h
   ·cases h
  ·cases h
 ·cases h
theorem v_SumMk_le {l:List (I TL)}{x:Sum}(h:v_SumMk l=some x):All2 Le l (v_SumC x):=by
 unfold v_SumMk at h
 split at h
 ·split at h
  ·rename_i y0 h0
   split at h
   ·rename_i y1 h1
    cases h
    exact .cons (sOf_le h0) (.cons (iOf_le h1) (.nil))
   ·cases h
  ·cases h
 ·cases h
theorem v_BindMk_le {l:List (I TL)}{x:Bind}(h:v_BindMk l=some x):All2 Le l (v_BindC x):=by
 unfold v_BindMk at h
 split at h
 ·split at h
  ·rename_i y0 h0
   split at h
   ·rename_i y1 h1
    split at h
    ·rename_i y2 h2
     split at h
     ·rename_i y3 h3
      split at h
      ·rename_i y4 h4
       split at h
       ·rename_i y5 h5
        cases h
        exact .cons (iOf_le h0) (.cons (sOf_le h1) (.cons (iOf_le h2) (.cons (iOf_le h3) (.cons (iOf_le h4) (.cons (iOf_le h5) (.nil))))))
       ·cases h
      ·cases h
     ·cases h
    ·cases h
   ·cases h
  ·cases h
 ·cases h
theorem v_CollMk_le {l:List (I TL)}{x:Coll}(h:v_CollMk l=some x):All2 Le l (v_CollC x):=by
 unfold v_CollMk at h
 split at h
 ·split at h
  ·rename_i y0 h0
   split at h
   ·rename_i y1 h1
    split at h
    ·rename_i y2 h2
     split at h
     ·rename_i y3 h3
      split at h
      ·rename_i y4 h4
       split at h
       ·rename_i y5 h5
        cases h
        exact .cons (of_lEntry_le h0) (.cons (of_lReg_le h1) (.cons (of_lElem_le h2) (.cons (of_lEntry_le h3) (.cons (of_lSum_le h4) (.cons (of_lBind_le h5) (.nil))))))
       ·cases h
      ·cases h
     ·cases h
    ·cases h
   ·cases h
  ·cases h
 ·cases h
theorem v_A3CollMk_le {l:List (I TL)}{x:A3Coll}(h:v_A3CollMk l=some x):All2 Le l (v_A3CollC x):=by
 unfold v_A3CollMk at h
 split at h
 ·split at h
  ·rename_i y0 h0
   split at h
   ·rename_i y1 h1
    split at h
    ·rename_i y2 h2
     split at h
     ·rename_i y3 h3
      split at h
      ·rename_i y4 h4
       split at h
       ·rename_i y5 h5
        split at h
        ·rename_i y6 h6
         split at h
         ·rename_i y7 h7
          split at h
          ·rename_i y8 h8
           split at h
           ·rename_i y9 h9
            split at h
            ·rename_i y10 h10
             split at h
             ·rename_i y11 h11
              split at h
              ·rename_i y12 h12
               split at h
               ·rename_i y13 h13
                split at h
                ·rename_i y14 h14
                 split at h
                 ·rename_i y15 h15
                  split at h
                  ·rename_i y16 h16
                   split at h
                   ·rename_i y17 h17
                    cases h
                    exact .cons (of_lEntry_le h0) (.cons (of_lReg_le h1) (.cons (of_lElem_le h2) (.cons (of_lEntry_le h3) (.cons (of_lSum_le h4) (.cons (of_lBind_le h5) (.cons (of_lEntry_le h6) (.cons (of_lReg_le h7) (.cons (of_lElem_le h8) (.cons (of_lEntry_le h9) (.cons (of_lSum_le h10) (.cons (of_lBind_le h11) (.cons (of_lEntry_le h12) (.cons (of_lReg_le h13) (.cons (of_lElem_le h14) (.cons (of_lEntry_le h15) (.cons (of_lSum_le h16) (.cons (of_lBind_le h17) (.nil))))))))))))))))))
                   ·cases h
                  ·cases h
                 ·cases h
                ·cases h
               ·cases h
              ·cases h
             ·cases h
            ·cases h
           ·cases h
          ·cases h
         ·cases h
        ·cases h
       ·cases h
      ·cases h
     ·cases h
    ·cases h
   ·cases h
  ·cases h
 ·cases h
theorem v_OpMk_le {l:List (I TL)}{x:Op}(h:v_OpMk l=some x):All2 Le l (v_OpC x):=by
 unfold v_OpMk at h
 split at h
 ·split at h
  ·rename_i y0 h0
   split at h
   ·rename_i y1 h1
    split at h
    ·rename_i y2 h2
     split at h
     ·rename_i y3 h3
      split at h
      ·rename_i y4 h4
       split at h
       ·rename_i y5 h5
        split at h
        ·rename_i y6 h6
         split at h
         ·rename_i y7 h7
          split at h
          ·rename_i y8 h8
           split at h
           ·rename_i y9 h9
            split at h
            ·rename_i y10 h10
             cases h
             exact .cons (iOf_le h0) (.cons (iOf_le h1) (.cons (iOf_le h2) (.cons (iOf_le h3) (.cons (iOf_le h4) (.cons (iOf_le h5) (.cons (sOf_le h6) (.cons (sOf_le h7) (.cons (iOf_le h8) (.cons (iOf_le h9) (.cons (of_lEntry_le h10) (.nil)))))))))))
            ·cases h
           ·cases h
          ·cases h
         ·cases h
        ·cases h
       ·cases h
      ·cases h
     ·cases h
    ·cases h
   ·cases h
  ·cases h
 ·cases h
theorem v_ReplyMk_le {l:List (I TL)}{x:Reply}(h:v_ReplyMk l=some x):All2 Le l (v_ReplyC x):=by
 unfold v_ReplyMk at h
 split at h
 ·split at h
  ·rename_i y0 h0
   split at h
   ·rename_i y1 h1
    split at h
    ·rename_i y2 h2
     split at h
     ·rename_i y3 h3
      split at h
      ·rename_i y4 h4
       split at h
       ·rename_i y5 h5
        split at h
        ·rename_i y6 h6
         split at h
         ·rename_i y7 h7
          split at h
          ·rename_i y8 h8
           cases h
           exact .cons (iOf_le h0) (.cons (iOf_le h1) (.cons (iOf_le h2) (.cons (iOf_le h3) (.cons (iOf_le h4) (.cons (iOf_le h5) (.cons (of_lSlice_le h6) (.cons (of_lRange_le h7) (.cons (of_lInt_le h8) (.nil)))))))))
          ·cases h
         ·cases h
        ·cases h
       ·cases h
      ·cases h
     ·cases h
    ·cases h
   ·cases h
  ·cases h
 ·cases h
theorem v_DeviceMk_le {l:List (I TL)}{x:Device}(h:v_DeviceMk l=some x):All2 Le l (v_DeviceC x):=by
 unfold v_DeviceMk at h
 split at h
 ·split at h
  ·rename_i y0 h0
   split at h
   ·rename_i y1 h1
    split at h
    ·rename_i y2 h2
     split at h
     ·rename_i y3 h3
      split at h
      ·rename_i y4 h4
       split at h
       ·rename_i y5 h5
        split at h
        ·rename_i y6 h6
         split at h
         ·rename_i y7 h7
          split at h
          ·rename_i y8 h8
           split at h
           ·rename_i y9 h9
            split at h
            ·rename_i y10 h10
             cases h
             exact .cons (iOf_le h0) (.cons (iOf_le h1) (.cons (iOf_le h2) (.cons (iOf_le h3) (.cons (iOf_le h4) (.cons (iOf_le h5) (.cons (iOf_le h6) (.cons (iOf_le h7) (.cons (of_lSlice_le h8) (.cons (of_lRange_le h9) (.cons (of_lInt_le h10) (.nil)))))))))))
            ·cases h
           ·cases h
          ·cases h
         ·cases h
        ·cases h
       ·cases h
      ·cases h
     ·cases h
    ·cases h
   ·cases h
  ·cases h
 ·cases h
theorem v_WantMk_le {l:List (I TL)}{x:Want}(h:v_WantMk l=some x):All2 Le l (v_WantC x):=by
 unfold v_WantMk at h
 split at h
 ·split at h
  ·rename_i y0 h0
   split at h
   ·rename_i y1 h1
    split at h
    ·rename_i y2 h2
     split at h
     ·rename_i y3 h3
      cases h
      exact .cons (sOf_le h0) (.cons (iOf_le h1) (.cons (iOf_le h2) (.cons (iOf_le h3) (.nil))))
     ·cases h
    ·cases h
   ·cases h
  ·cases h
 ·cases h
theorem v_CmdMk_le {l:List (I TL)}{x:Cmd}(h:v_CmdMk l=some x):All2 Le l (v_CmdC x):=by
 unfold v_CmdMk at h
 split at h
 ·split at h
  ·rename_i y0 h0
   split at h
   ·rename_i y1 h1
    split at h
    ·rename_i y2 h2
     split at h
     ·rename_i y3 h3
      split at h
      ·rename_i y4 h4
       split at h
       ·rename_i y5 h5
        split at h
        ·rename_i y6 h6
         cases h
         exact .cons (iOf_le h0) (.cons (iOf_le h1) (.cons (iOf_le h2) (.cons (iOf_le h3) (.cons (iOf_le h4) (.cons (of_lWant_le h5) (.cons (of_lOp_le h6) (.nil)))))))
        ·cases h
       ·cases h
      ·cases h
     ·cases h
    ·cases h
   ·cases h
  ·cases h
 ·cases h
theorem v_A5BoolMk_le {l:List (I TL)}{x:A5Bool}(h:v_A5BoolMk l=some x):All2 Le l (v_A5BoolC x):=by
 unfold v_A5BoolMk at h
 split at h
 ·split at h
  ·rename_i y0 h0
   split at h
   ·rename_i y1 h1
    split at h
    ·rename_i y2 h2
     split at h
     ·rename_i y3 h3
      split at h
      ·rename_i y4 h4
       cases h
       exact .cons (bOf_le h0) (.cons (bOf_le h1) (.cons (bOf_le h2) (.cons (bOf_le h3) (.cons (bOf_le h4) (.nil)))))
      ·cases h
     ·cases h
    ·cases h
   ·cases h
  ·cases h
 ·cases h
theorem v_ActMk_le {l:List (I TL)}{x:Act}(h:v_ActMk l=some x):All2 Le l (v_ActC x):=by
 unfold v_ActMk at h
 split at h
 ·split at h
  ·rename_i y0 h0
   split at h
   ·rename_i y1 h1
    split at h
    ·rename_i y2 h2
     split at h
     ·rename_i y3 h3
      split at h
      ·rename_i y4 h4
       cases h
       exact .cons (iOf_le h0) (.cons (iOf_le h1) (.cons (iOf_le h2) (.cons (of_lWant_le h3) (.cons (of_lOp_le h4) (.nil)))))
      ·cases h
     ·cases h
    ·cases h
   ·cases h
  ·cases h
 ·cases h
theorem v_A6IntMk_le {l:List (I TL)}{x:A6Int}(h:v_A6IntMk l=some x):All2 Le l (v_A6IntC x):=by
 unfold v_A6IntMk at h
 split at h
 ·split at h
  ·rename_i y0 h0
   split at h
   ·rename_i y1 h1
    split at h
    ·rename_i y2 h2
     split at h
     ·rename_i y3 h3
      split at h
      ·rename_i y4 h4
       split at h
       ·rename_i y5 h5
        cases h
        exact .cons (iOf_le h0) (.cons (iOf_le h1) (.cons (iOf_le h2) (.cons (iOf_le h3) (.cons (iOf_le h4) (.cons (iOf_le h5) (.nil))))))
       ·cases h
      ·cases h
     ·cases h
    ·cases h
   ·cases h
  ·cases h
 ·cases h
theorem v_PairMk_le {l:List (I TL)}{x:Pair}(h:v_PairMk l=some x):All2 Le l (v_PairC x):=by
 unfold v_PairMk at h
 split at h
 ·split at h
  ·rename_i y0 h0
   split at h
   ·rename_i y1 h1
    cases h
    exact .cons (iOf_le h0) (.cons (iOf_le h1) (.nil))
   ·cases h
  ·cases h
 ·cases h
theorem v_IntMk_le {l:List (I TL)}{x:Int}(h:v_IntMk l=some x):All2 Le l (v_IntC x):=by
 unfold v_IntMk at h
 split at h
 ·split at h
  ·rename_i y0 h0
   cases h
   exact .cons (iOf_le h0) (.nil)
  ·cases h
 ·cases h
theorem v_BoolMk_le {l:List (I TL)}{x:Bool}(h:v_BoolMk l=some x):All2 Le l (v_BoolC x):=by
 unfold v_BoolMk at h
 split at h
 ·split at h
  ·rename_i y0 h0
   cases h
   exact .cons (bOf_le h0) (.nil)
  ·cases h
 ·cases h
theorem v_LRangeMk_le {l:List (I TL)}{x:List Range}(h:v_LRangeMk l=some x):All2 Le l (v_LRangeC x):=by
 unfold v_LRangeMk at h
 split at h
 ·split at h
  ·rename_i y0 h0
   cases h
   exact .cons (of_lRange_le h0) (.nil)
  ·cases h
 ·cases h
theorem v_StrMk_le {l:List (I TL)}{x:ByteArray}(h:v_StrMk l=some x):All2 Le l (v_StrC x):=by
 unfold v_StrMk at h
 split at h
 ·split at h
  ·rename_i y0 h0
   cases h
   exact .cons (sOf_le h0) (.nil)
  ·cases h
 ·cases h
theorem mks_lCounter_le:∀ {css:List (List (I TL))} {l:List Counter},mks_lCounter css=some l→All2 (All2 Le) css (l.map v_CounterC)
 | [],l,h=>by simp [mks_lCounter] at h;subst h;exact .nil
 | c::r,l,h=>by
  simp only [mks_lCounter] at h
  split at h
  ·rename_i x xs hx hxs
   cases h
   exact .cons (v_CounterMk_le hx) (mks_lCounter_le hxs)
  ·cases h
theorem mks_lRange_le:∀ {css:List (List (I TL))} {l:List Range},mks_lRange css=some l→All2 (All2 Le) css (l.map v_RangeC)
 | [],l,h=>by simp [mks_lRange] at h;subst h;exact .nil
 | c::r,l,h=>by
  simp only [mks_lRange] at h
  split at h
  ·rename_i x xs hx hxs
   cases h
   exact .cons (v_RangeMk_le hx) (mks_lRange_le hxs)
  ·cases h
theorem mks_lSlice_le:∀ {css:List (List (I TL))} {l:List Slice},mks_lSlice css=some l→All2 (All2 Le) css (l.map v_SliceC)
 | [],l,h=>by simp [mks_lSlice] at h;subst h;exact .nil
 | c::r,l,h=>by
  simp only [mks_lSlice] at h
  split at h
  ·rename_i x xs hx hxs
   cases h
   exact .cons (v_SliceMk_le hx) (mks_lSlice_le hxs)
  ·cases h
theorem mks_lInt_le:∀ {css:List (List (I TL))} {l:List Int},mks_lInt css=some l→All2 (All2 Le) css (l.map v_IntC)
 | [],l,h=>by simp [mks_lInt] at h;subst h;exact .nil
 | c::r,l,h=>by
  simp only [mks_lInt] at h
  split at h
  ·rename_i x xs hx hxs
   cases h
   exact .cons (v_IntMk_le hx) (mks_lInt_le hxs)
  ·cases h
theorem mks_lLease_le:∀ {css:List (List (I TL))} {l:List Lease},mks_lLease css=some l→All2 (All2 Le) css (l.map v_LeaseC)
 | [],l,h=>by simp [mks_lLease] at h;subst h;exact .nil
 | c::r,l,h=>by
  simp only [mks_lLease] at h
  split at h
  ·rename_i x xs hx hxs
   cases h
   exact .cons (v_LeaseMk_le hx) (mks_lLease_le hxs)
  ·cases h
theorem mks_lEntry_le:∀ {css:List (List (I TL))} {l:List Entry},mks_lEntry css=some l→All2 (All2 Le) css (l.map v_EntryC)
 | [],l,h=>by simp [mks_lEntry] at h;subst h;exact .nil
 | c::r,l,h=>by
  simp only [mks_lEntry] at h
  split at h
  ·rename_i x xs hx hxs
   cases h
   exact .cons (v_EntryMk_le hx) (mks_lEntry_le hxs)
  ·cases h
theorem mks_lReg_le:∀ {css:List (List (I TL))} {l:List Reg},mks_lReg css=some l→All2 (All2 Le) css (l.map v_RegC)
 | [],l,h=>by simp [mks_lReg] at h;subst h;exact .nil
 | c::r,l,h=>by
  simp only [mks_lReg] at h
  split at h
  ·rename_i x xs hx hxs
   cases h
   exact .cons (v_RegMk_le hx) (mks_lReg_le hxs)
  ·cases h
theorem mks_lElem_le:∀ {css:List (List (I TL))} {l:List Elem},mks_lElem css=some l→All2 (All2 Le) css (l.map v_ElemC)
 | [],l,h=>by simp [mks_lElem] at h;subst h;exact .nil
 | c::r,l,h=>by
  simp only [mks_lElem] at h
  split at h
  ·rename_i x xs hx hxs
   cases h
   exact .cons (v_ElemMk_le hx) (mks_lElem_le hxs)
  ·cases h
theorem mks_lSum_le:∀ {css:List (List (I TL))} {l:List Sum},mks_lSum css=some l→All2 (All2 Le) css (l.map v_SumC)
 | [],l,h=>by simp [mks_lSum] at h;subst h;exact .nil
 | c::r,l,h=>by
  simp only [mks_lSum] at h
  split at h
  ·rename_i x xs hx hxs
   cases h
   exact .cons (v_SumMk_le hx) (mks_lSum_le hxs)
  ·cases h
theorem mks_lBind_le:∀ {css:List (List (I TL))} {l:List Bind},mks_lBind css=some l→All2 (All2 Le) css (l.map v_BindC)
 | [],l,h=>by simp [mks_lBind] at h;subst h;exact .nil
 | c::r,l,h=>by
  simp only [mks_lBind] at h
  split at h
  ·rename_i x xs hx hxs
   cases h
   exact .cons (v_BindMk_le hx) (mks_lBind_le hxs)
  ·cases h
theorem mks_lOp_le:∀ {css:List (List (I TL))} {l:List Op},mks_lOp css=some l→All2 (All2 Le) css (l.map v_OpC)
 | [],l,h=>by simp [mks_lOp] at h;subst h;exact .nil
 | c::r,l,h=>by
  simp only [mks_lOp] at h
  split at h
  ·rename_i x xs hx hxs
   cases h
   exact .cons (v_OpMk_le hx) (mks_lOp_le hxs)
  ·cases h
theorem mks_lWant_le:∀ {css:List (List (I TL))} {l:List Want},mks_lWant css=some l→All2 (All2 Le) css (l.map v_WantC)
 | [],l,h=>by simp [mks_lWant] at h;subst h;exact .nil
 | c::r,l,h=>by
  simp only [mks_lWant] at h
  split at h
  ·rename_i x xs hx hxs
   cases h
   exact .cons (v_WantMk_le hx) (mks_lWant_le hxs)
  ·cases h
theorem mks_lAct_le:∀ {css:List (List (I TL))} {l:List Act},mks_lAct css=some l→All2 (All2 Le) css (l.map v_ActC)
 | [],l,h=>by simp [mks_lAct] at h;subst h;exact .nil
 | c::r,l,h=>by
  simp only [mks_lAct] at h
  split at h
  ·rename_i x xs hx hxs
   cases h
   exact .cons (v_ActMk_le hx) (mks_lAct_le hxs)
  ·cases h
theorem mks_lBool_le:∀ {css:List (List (I TL))} {l:List Bool},mks_lBool css=some l→All2 (All2 Le) css (l.map v_BoolC)
 | [],l,h=>by simp [mks_lBool] at h;subst h;exact .nil
 | c::r,l,h=>by
  simp only [mks_lBool] at h
  split at h
  ·rename_i x xs hx hxs
   cases h
   exact .cons (v_BoolMk_le hx) (mks_lBool_le hxs)
  ·cases h
theorem mks_lCmd_le:∀ {css:List (List (I TL))} {l:List Cmd},mks_lCmd css=some l→All2 (All2 Le) css (l.map v_CmdC)
 | [],l,h=>by simp [mks_lCmd] at h;subst h;exact .nil
 | c::r,l,h=>by
  simp only [mks_lCmd] at h
  split at h
  ·rename_i x xs hx hxs
   cases h
   exact .cons (v_CmdMk_le hx) (mks_lCmd_le hxs)
  ·cases h
theorem mks_lDevice_le:∀ {css:List (List (I TL))} {l:List Device},mks_lDevice css=some l→All2 (All2 Le) css (l.map v_DeviceC)
 | [],l,h=>by simp [mks_lDevice] at h;subst h;exact .nil
 | c::r,l,h=>by
  simp only [mks_lDevice] at h
  split at h
  ·rename_i x xs hx hxs
   cases h
   exact .cons (v_DeviceMk_le hx) (mks_lDevice_le hxs)
  ·cases h
theorem mks_lLRange_le:∀ {css:List (List (I TL))} {l:List (List Range)},mks_lLRange css=some l→All2 (All2 Le) css (l.map v_LRangeC)
 | [],l,h=>by simp [mks_lLRange] at h;subst h;exact .nil
 | c::r,l,h=>by
  simp only [mks_lLRange] at h
  split at h
  ·rename_i x xs hx hxs
   cases h
   exact .cons (v_LRangeMk_le hx) (mks_lLRange_le hxs)
  ·cases h
theorem mks_lStr_le:∀ {css:List (List (I TL))} {l:List ByteArray},mks_lStr css=some l→All2 (All2 Le) css (l.map v_StrC)
 | [],l,h=>by simp [mks_lStr] at h;subst h;exact .nil
 | c::r,l,h=>by
  simp only [mks_lStr] at h
  split at h
  ·rename_i x xs hx hxs
   cases h
   exact .cons (v_StrMk_le hx) (mks_lStr_le hxs)
  ·cases h
instance:LLaws TL where
 len:=fun l=>by cases l<;>simp [LI.len,LI.els]
 idx:=fun l i k=>by cases l<;>simp only [LI.idx,LI.els,List.getElem?_map,ob]<;>rename_i l<;>cases l[i]?<;>rfl
 size:=fun l cs h=>by
  cases l<;>simp only [LI.els,List.mem_map] at h<;>obtain ⟨x,_,rfl⟩:=h<;>rfl
 mkL:=fun t css l h=>by
  simp only [LI.mkL] at h
  split at h
  ·split at h
   ·rename_i l hl;cases h;exact mks_lCounter_le hl
   ·cases h
  ·split at h
   ·rename_i l hl;cases h;exact mks_lRange_le hl
   ·cases h
  ·split at h
   ·rename_i l hl;cases h;exact mks_lSlice_le hl
   ·cases h
  ·split at h
   ·rename_i l hl;cases h;exact mks_lInt_le hl
   ·cases h
  ·split at h
   ·rename_i l hl;cases h;exact mks_lLease_le hl
   ·cases h
  ·split at h
   ·rename_i l hl;cases h;exact mks_lEntry_le hl
   ·cases h
  ·split at h
   ·rename_i l hl;cases h;exact mks_lEntry_le hl
   ·cases h
  ·split at h
   ·rename_i l hl;cases h;exact mks_lReg_le hl
   ·cases h
  ·split at h
   ·rename_i l hl;cases h;exact mks_lElem_le hl
   ·cases h
  ·split at h
   ·rename_i l hl;cases h;exact mks_lSum_le hl
   ·cases h
  ·split at h
   ·rename_i l hl;cases h;exact mks_lBind_le hl
   ·cases h
  ·split at h
   ·rename_i l hl;cases h;exact mks_lOp_le hl
   ·cases h
  ·split at h
   ·rename_i l hl;cases h;exact mks_lWant_le hl
   ·cases h
  ·split at h
   ·rename_i l hl;cases h;exact mks_lAct_le hl
   ·cases h
  ·split at h
   ·rename_i l hl;cases h;exact mks_lBool_le hl
   ·cases h
  ·split at h
   ·rename_i l hl;cases h;exact mks_lCmd_le hl
   ·cases h
  ·split at h
   ·rename_i l hl;cases h;exact mks_lDevice_le hl
   ·cases h
  ·split at h
   ·rename_i l hl;cases h;exact mks_lLRange_le hl
   ·cases h
  ·split at h
   ·rename_i l hl;cases h;exact mks_lStr_le hl
   ·cases h
  ·cases h
 app:=fun a b l h=>by
  simp only [LI.app] at h
  split at h<;>cases h<;>simp [LI.els,LI.sz]
 sub:=fun l lo hi=>by cases l<;>simp [LI.sub,LI.els,LI.sz,List.map_drop,List.map_take]
 set:=fun l i cs l' h=>by
  simp only [LI.set] at h
  split at h
  ·split at h
   ·rename_i y hy;cases h;exact ⟨_,v_CounterMk_le hy,by simp [LI.els,List.map_set],rfl⟩
   ·cases h
  ·split at h
   ·rename_i y hy;cases h;exact ⟨_,v_RangeMk_le hy,by simp [LI.els,List.map_set],rfl⟩
   ·cases h
  ·split at h
   ·rename_i y hy;cases h;exact ⟨_,v_SliceMk_le hy,by simp [LI.els,List.map_set],rfl⟩
   ·cases h
  ·split at h
   ·rename_i y hy;cases h;exact ⟨_,v_IntMk_le hy,by simp [LI.els,List.map_set],rfl⟩
   ·cases h
  ·split at h
   ·rename_i y hy;cases h;exact ⟨_,v_LeaseMk_le hy,by simp [LI.els,List.map_set],rfl⟩
   ·cases h
  ·split at h
   ·rename_i y hy;cases h;exact ⟨_,v_EntryMk_le hy,by simp [LI.els,List.map_set],rfl⟩
   ·cases h
  ·split at h
   ·rename_i y hy;cases h;exact ⟨_,v_RegMk_le hy,by simp [LI.els,List.map_set],rfl⟩
   ·cases h
  ·split at h
   ·rename_i y hy;cases h;exact ⟨_,v_ElemMk_le hy,by simp [LI.els,List.map_set],rfl⟩
   ·cases h
  ·split at h
   ·rename_i y hy;cases h;exact ⟨_,v_SumMk_le hy,by simp [LI.els,List.map_set],rfl⟩
   ·cases h
  ·split at h
   ·rename_i y hy;cases h;exact ⟨_,v_BindMk_le hy,by simp [LI.els,List.map_set],rfl⟩
   ·cases h
  ·split at h
   ·rename_i y hy;cases h;exact ⟨_,v_OpMk_le hy,by simp [LI.els,List.map_set],rfl⟩
   ·cases h
  ·split at h
   ·rename_i y hy;cases h;exact ⟨_,v_WantMk_le hy,by simp [LI.els,List.map_set],rfl⟩
   ·cases h
  ·split at h
   ·rename_i y hy;cases h;exact ⟨_,v_ActMk_le hy,by simp [LI.els,List.map_set],rfl⟩
   ·cases h
  ·split at h
   ·rename_i y hy;cases h;exact ⟨_,v_BoolMk_le hy,by simp [LI.els,List.map_set],rfl⟩
   ·cases h
  ·split at h
   ·rename_i y hy;cases h;exact ⟨_,v_CmdMk_le hy,by simp [LI.els,List.map_set],rfl⟩
   ·cases h
  ·split at h
   ·rename_i y hy;cases h;exact ⟨_,v_DeviceMk_le hy,by simp [LI.els,List.map_set],rfl⟩
   ·cases h
  ·split at h
   ·rename_i y hy;cases h;exact ⟨_,v_LRangeMk_le hy,by simp [LI.els,List.map_set],rfl⟩
   ·cases h
  ·split at h
   ·rename_i y hy;cases h;exact ⟨_,v_StrMk_le hy,by simp [LI.els,List.map_set],rfl⟩
   ·cases h
 mrg:=fun c a b l h=>by
  simp only [LI.mrg] at h
  split at h<;>cases h<;>cases c<;>simp [LI.els,LI.sz]
 flat:=fun l h cs hcs x hx G G' v hv=>by
  cases l<;>simp only [LI.flat] at h<;>first | (cases h;done) | skip
  all_goals
   simp only [LI.els,List.mem_map] at hcs
   obtain ⟨y,_,rfl⟩:=hcs
   first
    | (simp only [v_CounterC,List.mem_cons,List.not_mem_nil,or_false] at hx;rcases hx with rfl | rfl | rfl | rfl | rfl | rfl | rfl<;>cases hv<;>constructor)
    | (simp only [v_RangeC,List.mem_cons,List.not_mem_nil,or_false] at hx;rcases hx with rfl | rfl<;>cases hv<;>constructor)
    | (simp only [v_SliceC,List.mem_cons,List.not_mem_nil,or_false] at hx;rcases hx with rfl | rfl | rfl | rfl | rfl<;>cases hv<;>constructor)
    | (simp only [v_IntC,List.mem_cons,List.not_mem_nil,or_false] at hx;rcases hx with rfl<;>cases hv<;>constructor)
    | (simp only [v_EntryC,List.mem_cons,List.not_mem_nil,or_false] at hx;rcases hx with rfl | rfl | rfl<;>cases hv<;>constructor)
    | (simp only [v_RegC,List.mem_cons,List.not_mem_nil,or_false] at hx;rcases hx with rfl | rfl | rfl | rfl | rfl | rfl | rfl<;>cases hv<;>constructor)
    | (simp only [v_ElemC,List.mem_cons,List.not_mem_nil,or_false] at hx;rcases hx with rfl | rfl | rfl | rfl | rfl | rfl<;>cases hv<;>constructor)
    | (simp only [v_SumC,List.mem_cons,List.not_mem_nil,or_false] at hx;rcases hx with rfl | rfl<;>cases hv<;>constructor)
    | (simp only [v_BindC,List.mem_cons,List.not_mem_nil,or_false] at hx;rcases hx with rfl | rfl | rfl | rfl | rfl | rfl<;>cases hv<;>constructor)
    | (simp only [v_WantC,List.mem_cons,List.not_mem_nil,or_false] at hx;rcases hx with rfl | rfl | rfl | rfl<;>cases hv<;>constructor)
    | (simp only [v_BoolC,List.mem_cons,List.not_mem_nil,or_false] at hx;rcases hx with rfl<;>cases hv<;>constructor)
    | (simp only [v_StrC,List.mem_cons,List.not_mem_nil,or_false] at hx;rcases hx with rfl<;>cases hv<;>constructor)
 bytes:=fun l s h=>by simp [LI.bytes] at h
 ofStr:=fun t s l h=>by simp [LI.ofStr] at h
theorem tlaws:TLaws TL tab where
 mkL:=fun t css l i h hi=>by
  simp only [LI.mkL] at h
  split at h
  ·split at h
   ·cases h;cases (tab65_is.symm.trans hi);rfl
   ·cases h
  ·split at h
   ·cases h;cases (tab153_is.symm.trans hi);rfl
   ·cases h
  ·split at h
   ·cases h;cases (tab133_is.symm.trans hi);rfl
   ·cases h
  ·split at h
   ·cases h;cases (tab3_is.symm.trans hi);rfl
   ·cases h
  ·split at h
   ·cases h;cases (tab43_is.symm.trans hi);rfl
   ·cases h
  ·split at h
   ·cases h;cases (tab59_is.symm.trans hi);rfl
   ·cases h
  ·split at h
   ·cases h;cases (tab66_is.symm.trans hi);rfl
   ·cases h
  ·split at h
   ·cases h;cases (tab142_is.symm.trans hi);rfl
   ·cases h
  ·split at h
   ·cases h;cases (tab145_is.symm.trans hi);rfl
   ·cases h
  ·split at h
   ·cases h;cases (tab129_is.symm.trans hi);rfl
   ·cases h
  ·split at h
   ·cases h;cases (tab149_is.symm.trans hi);rfl
   ·cases h
  ·split at h
   ·cases h;cases (tab61_is.symm.trans hi);rfl
   ·cases h
  ·split at h
   ·cases h;cases (tab105_is.symm.trans hi);rfl
   ·cases h
  ·split at h
   ·cases h;cases (tab80_is.symm.trans hi);rfl
   ·cases h
  ·split at h
   ·cases h;cases (tab4_is.symm.trans hi);rfl
   ·cases h
  ·split at h
   ·cases h;cases (tab56_is.symm.trans hi);rfl
   ·cases h
  ·split at h
   ·cases h;cases (tab47_is.symm.trans hi);rfl
   ·cases h
  ·split at h
   ·cases h;cases (tab25_is.symm.trans hi);rfl
   ·cases h
  ·split at h
   ·cases h;cases (tab9_is.symm.trans hi);rfl
   ·cases h
  ·cases h
 rep:=fun t n l h=>by
  simp only [LI.rep] at h
  split at h
  ·cases h;exact ⟨_,_,v_CounterC (Counter.mk ⟨#[]⟩ 0 0 0 0 0 0),tab65_is,rfl,by simp [LI.els],rfl,.cons (fun _=>.str) (.cons (fun _=>.int) (.cons (fun _=>.int) (.cons (fun _=>.int) (.cons (fun _=>.int) (.cons (fun _=>.int) (.cons (fun _=>.int) (.nil)))))))⟩
  ·cases h;exact ⟨_,_,v_RangeC (Range.mk 0 0),tab153_is,rfl,by simp [LI.els],rfl,.cons (fun _=>.int) (.cons (fun _=>.int) (.nil))⟩
  ·cases h;exact ⟨_,_,v_SliceC (Slice.mk ⟨#[]⟩ 0 0 0 0),tab133_is,rfl,by simp [LI.els],rfl,.cons (fun _=>.str) (.cons (fun _=>.int) (.cons (fun _=>.int) (.cons (fun _=>.int) (.cons (fun _=>.int) (.nil)))))⟩
  ·cases h;exact ⟨_,_,v_IntC 0,tab3_is,rfl,by simp [LI.els],rfl,.cons (fun _=>.int) (.nil)⟩
  ·cases h;exact ⟨_,_,v_LeaseC (Lease.mk 0 0 0 0 [] [] []),tab43_is,rfl,by simp [LI.els],rfl,.cons (fun _=>.int) (.cons (fun _=>.int) (.cons (fun _=>.int) (.cons (fun _=>.int) (.cons (fun _=>.fz (k:=0) (o:=0) (vals:=fun _ _=>undef) rfl (Nat.le_refl _) (fun h=>absurd h (Nat.lt_irrefl _)) (fun i j cs x h=>by simp [LI.els] at h) (fun i j cs x h=>by simp [LI.els] at h)) (.cons (fun _=>.fz (k:=0) (o:=0) (vals:=fun _ _=>undef) rfl (Nat.le_refl _) (fun h=>absurd h (Nat.lt_irrefl _)) (fun i j cs x h=>by simp [LI.els] at h) (fun i j cs x h=>by simp [LI.els] at h)) (.cons (fun _=>.fz (k:=0) (o:=0) (vals:=fun _ _=>undef) rfl (Nat.le_refl _) (fun h=>absurd h (Nat.lt_irrefl _)) (fun i j cs x h=>by simp [LI.els] at h) (fun i j cs x h=>by simp [LI.els] at h)) (.nil)))))))⟩
  ·cases h;exact ⟨_,_,v_EntryC (Entry.mk 0 0 0),tab59_is,rfl,by simp [LI.els],rfl,.cons (fun _=>.int) (.cons (fun _=>.int) (.cons (fun _=>.int) (.nil)))⟩
  ·cases h;exact ⟨_,_,v_EntryC (Entry.mk 0 0 0),tab66_is,rfl,by simp [LI.els],rfl,.cons (fun _=>.int) (.cons (fun _=>.int) (.cons (fun _=>.int) (.nil)))⟩
  ·cases h;exact ⟨_,_,v_RegC (Reg.mk ⟨#[]⟩ ⟨#[]⟩ 0 0 (Entry.mk 0 0 0)),tab142_is,rfl,by simp [LI.els],rfl,.cons (fun _=>.str) (.cons (fun _=>.str) (.cons (fun _=>.int) (.cons (fun _=>.int) (.cons (fun _=>.int) (.cons (fun _=>.int) (.cons (fun _=>.int) (.nil)))))))⟩
  ·cases h;exact ⟨_,_,v_ElemC (Elem.mk ⟨#[]⟩ ⟨#[]⟩ 0 (Entry.mk 0 0 0)),tab145_is,rfl,by simp [LI.els],rfl,.cons (fun _=>.str) (.cons (fun _=>.str) (.cons (fun _=>.int) (.cons (fun _=>.int) (.cons (fun _=>.int) (.cons (fun _=>.int) (.nil))))))⟩
  ·cases h;exact ⟨_,_,v_SumC (Sum.mk ⟨#[]⟩ 0),tab129_is,rfl,by simp [LI.els],rfl,.cons (fun _=>.str) (.cons (fun _=>.int) (.nil))⟩
  ·cases h;exact ⟨_,_,v_BindC (Bind.mk 0 ⟨#[]⟩ 0 (Entry.mk 0 0 0)),tab149_is,rfl,by simp [LI.els],rfl,.cons (fun _=>.int) (.cons (fun _=>.str) (.cons (fun _=>.int) (.cons (fun _=>.int) (.cons (fun _=>.int) (.cons (fun _=>.int) (.nil))))))⟩
  ·cases h;exact ⟨_,_,v_OpC (Op.mk (Entry.mk 0 0 0) 0 0 0 ⟨#[]⟩ ⟨#[]⟩ 0 0 []),tab61_is,rfl,by simp [LI.els],rfl,.cons (fun _=>.int) (.cons (fun _=>.int) (.cons (fun _=>.int) (.cons (fun _=>.int) (.cons (fun _=>.int) (.cons (fun _=>.int) (.cons (fun _=>.str) (.cons (fun _=>.str) (.cons (fun _=>.int) (.cons (fun _=>.int) (.cons (fun _=>.fz (k:=0) (o:=0) (vals:=fun _ _=>undef) rfl (Nat.le_refl _) (fun h=>absurd h (Nat.lt_irrefl _)) (fun i j cs x h=>by simp [LI.els] at h) (fun i j cs x h=>by simp [LI.els] at h)) (.nil)))))))))))⟩
  ·cases h;exact ⟨_,_,v_WantC (Want.mk ⟨#[]⟩ 0 0 0),tab105_is,rfl,by simp [LI.els],rfl,.cons (fun _=>.str) (.cons (fun _=>.int) (.cons (fun _=>.int) (.cons (fun _=>.int) (.nil))))⟩
  ·cases h;exact ⟨_,_,v_ActC (Act.mk 0 0 0 [] []),tab80_is,rfl,by simp [LI.els],rfl,.cons (fun _=>.int) (.cons (fun _=>.int) (.cons (fun _=>.int) (.cons (fun _=>.fz (k:=0) (o:=0) (vals:=fun _ _=>undef) rfl (Nat.le_refl _) (fun h=>absurd h (Nat.lt_irrefl _)) (fun i j cs x h=>by simp [LI.els] at h) (fun i j cs x h=>by simp [LI.els] at h)) (.cons (fun _=>.fz (k:=0) (o:=0) (vals:=fun _ _=>undef) rfl (Nat.le_refl _) (fun h=>absurd h (Nat.lt_irrefl _)) (fun i j cs x h=>by simp [LI.els] at h) (fun i j cs x h=>by simp [LI.els] at h)) (.nil)))))⟩
  ·cases h;exact ⟨_,_,v_BoolC false,tab4_is,rfl,by simp [LI.els],rfl,.cons (fun _=>.bool) (.nil)⟩
  ·cases h;exact ⟨_,_,v_CmdC (Cmd.mk 0 0 0 0 0 [] []),tab56_is,rfl,by simp [LI.els],rfl,.cons (fun _=>.int) (.cons (fun _=>.int) (.cons (fun _=>.int) (.cons (fun _=>.int) (.cons (fun _=>.int) (.cons (fun _=>.fz (k:=0) (o:=0) (vals:=fun _ _=>undef) rfl (Nat.le_refl _) (fun h=>absurd h (Nat.lt_irrefl _)) (fun i j cs x h=>by simp [LI.els] at h) (fun i j cs x h=>by simp [LI.els] at h)) (.cons (fun _=>.fz (k:=0) (o:=0) (vals:=fun _ _=>undef) rfl (Nat.le_refl _) (fun h=>absurd h (Nat.lt_irrefl _)) (fun i j cs x h=>by simp [LI.els] at h) (fun i j cs x h=>by simp [LI.els] at h)) (.nil)))))))⟩
  ·cases h;exact ⟨_,_,v_DeviceC (Device.mk 0 0 (Reply.mk 0 0 (Lease.mk 0 0 0 0 [] [] []))),tab47_is,rfl,by simp [LI.els],rfl,.cons (fun _=>.int) (.cons (fun _=>.int) (.cons (fun _=>.int) (.cons (fun _=>.int) (.cons (fun _=>.int) (.cons (fun _=>.int) (.cons (fun _=>.int) (.cons (fun _=>.int) (.cons (fun _=>.fz (k:=0) (o:=0) (vals:=fun _ _=>undef) rfl (Nat.le_refl _) (fun h=>absurd h (Nat.lt_irrefl _)) (fun i j cs x h=>by simp [LI.els] at h) (fun i j cs x h=>by simp [LI.els] at h)) (.cons (fun _=>.fz (k:=0) (o:=0) (vals:=fun _ _=>undef) rfl (Nat.le_refl _) (fun h=>absurd h (Nat.lt_irrefl _)) (fun i j cs x h=>by simp [LI.els] at h) (fun i j cs x h=>by simp [LI.els] at h)) (.cons (fun _=>.fz (k:=0) (o:=0) (vals:=fun _ _=>undef) rfl (Nat.le_refl _) (fun h=>absurd h (Nat.lt_irrefl _)) (fun i j cs x h=>by simp [LI.els] at h) (fun i j cs x h=>by simp [LI.els] at h)) (.nil)))))))))))⟩
  ·cases h;exact ⟨_,_,v_LRangeC [],tab25_is,rfl,by simp [LI.els],rfl,.cons (fun _=>.fz (k:=0) (o:=0) (vals:=fun _ _=>undef) rfl (Nat.le_refl _) (fun h=>absurd h (Nat.lt_irrefl _)) (fun i j cs x h=>by simp [LI.els] at h) (fun i j cs x h=>by simp [LI.els] at h)) (.nil)⟩
  ·cases h;exact ⟨_,_,v_StrC ⟨#[]⟩,tab9_is,rfl,by simp [LI.els],rfl,.cons (fun _=>.str) (.nil)⟩
  ·cases h
def j_lCounter:Cod.Inj TL (List Counter):=⟨TL.lCounter,fun | .lCounter l=>some l | _=>none,fun l t h=>by cases l<;>simp_all⟩
def di_lCounter:DI TL (List Counter):=⟨fun l=>.fz (.lCounter l),of_lCounter,fun _ _ h=>of_lCounter_le h⟩
def j_lRange:Cod.Inj TL (List Range):=⟨TL.lRange,fun | .lRange l=>some l | _=>none,fun l t h=>by cases l<;>simp_all⟩
def di_lRange:DI TL (List Range):=⟨fun l=>.fz (.lRange l),of_lRange,fun _ _ h=>of_lRange_le h⟩
def j_lSlice:Cod.Inj TL (List Slice):=⟨TL.lSlice,fun | .lSlice l=>some l | _=>none,fun l t h=>by cases l<;>simp_all⟩
def di_lSlice:DI TL (List Slice):=⟨fun l=>.fz (.lSlice l),of_lSlice,fun _ _ h=>of_lSlice_le h⟩
def j_lInt:Cod.Inj TL (List Int):=⟨TL.lInt,fun | .lInt l=>some l | _=>none,fun l t h=>by cases l<;>simp_all⟩
def di_lInt:DI TL (List Int):=⟨fun l=>.fz (.lInt l),of_lInt,fun _ _ h=>of_lInt_le h⟩
def j_lLease:Cod.Inj TL (List Lease):=⟨TL.lLease,fun | .lLease l=>some l | _=>none,fun l t h=>by cases l<;>simp_all⟩
def di_lLease:DI TL (List Lease):=⟨fun l=>.fz (.lLease l),of_lLease,fun _ _ h=>of_lLease_le h⟩
def j_lEntry:Cod.Inj TL (List Entry):=⟨TL.lEntry,fun | .lEntry l=>some l | _=>none,fun l t h=>by cases l<;>simp_all⟩
def di_lEntry:DI TL (List Entry):=⟨fun l=>.fz (.lEntry l),of_lEntry,fun _ _ h=>of_lEntry_le h⟩
def j_lReg:Cod.Inj TL (List Reg):=⟨TL.lReg,fun | .lReg l=>some l | _=>none,fun l t h=>by cases l<;>simp_all⟩
def di_lReg:DI TL (List Reg):=⟨fun l=>.fz (.lReg l),of_lReg,fun _ _ h=>of_lReg_le h⟩
def j_lElem:Cod.Inj TL (List Elem):=⟨TL.lElem,fun | .lElem l=>some l | _=>none,fun l t h=>by cases l<;>simp_all⟩
def di_lElem:DI TL (List Elem):=⟨fun l=>.fz (.lElem l),of_lElem,fun _ _ h=>of_lElem_le h⟩
def j_lSum:Cod.Inj TL (List Sum):=⟨TL.lSum,fun | .lSum l=>some l | _=>none,fun l t h=>by cases l<;>simp_all⟩
def di_lSum:DI TL (List Sum):=⟨fun l=>.fz (.lSum l),of_lSum,fun _ _ h=>of_lSum_le h⟩
def j_lBind:Cod.Inj TL (List Bind):=⟨TL.lBind,fun | .lBind l=>some l | _=>none,fun l t h=>by cases l<;>simp_all⟩
def di_lBind:DI TL (List Bind):=⟨fun l=>.fz (.lBind l),of_lBind,fun _ _ h=>of_lBind_le h⟩
def j_lOp:Cod.Inj TL (List Op):=⟨TL.lOp,fun | .lOp l=>some l | _=>none,fun l t h=>by cases l<;>simp_all⟩
def di_lOp:DI TL (List Op):=⟨fun l=>.fz (.lOp l),of_lOp,fun _ _ h=>of_lOp_le h⟩
def j_lWant:Cod.Inj TL (List Want):=⟨TL.lWant,fun | .lWant l=>some l | _=>none,fun l t h=>by cases l<;>simp_all⟩
def di_lWant:DI TL (List Want):=⟨fun l=>.fz (.lWant l),of_lWant,fun _ _ h=>of_lWant_le h⟩
def j_lAct:Cod.Inj TL (List Act):=⟨TL.lAct,fun | .lAct l=>some l | _=>none,fun l t h=>by cases l<;>simp_all⟩
def di_lAct:DI TL (List Act):=⟨fun l=>.fz (.lAct l),of_lAct,fun _ _ h=>of_lAct_le h⟩
def j_lBool:Cod.Inj TL (List Bool):=⟨TL.lBool,fun | .lBool l=>some l | _=>none,fun l t h=>by cases l<;>simp_all⟩
def di_lBool:DI TL (List Bool):=⟨fun l=>.fz (.lBool l),of_lBool,fun _ _ h=>of_lBool_le h⟩
def j_lCmd:Cod.Inj TL (List Cmd):=⟨TL.lCmd,fun | .lCmd l=>some l | _=>none,fun l t h=>by cases l<;>simp_all⟩
def di_lCmd:DI TL (List Cmd):=⟨fun l=>.fz (.lCmd l),of_lCmd,fun _ _ h=>of_lCmd_le h⟩
def j_lDevice:Cod.Inj TL (List Device):=⟨TL.lDevice,fun | .lDevice l=>some l | _=>none,fun l t h=>by cases l<;>simp_all⟩
def di_lDevice:DI TL (List Device):=⟨fun l=>.fz (.lDevice l),of_lDevice,fun _ _ h=>of_lDevice_le h⟩
def j_lLRange:Cod.Inj TL (List (List Range)):=⟨TL.lLRange,fun | .lLRange l=>some l | _=>none,fun l t h=>by cases l<;>simp_all⟩
def di_lLRange:DI TL (List (List Range)):=⟨fun l=>.fz (.lLRange l),of_lLRange,fun _ _ h=>of_lLRange_le h⟩
def j_lStr:Cod.Inj TL (List ByteArray):=⟨TL.lStr,fun | .lStr l=>some l | _=>none,fun l t h=>by cases l<;>simp_all⟩
def di_lStr:DI TL (List ByteArray):=⟨fun l=>.fz (.lStr l),of_lStr,fun _ _ h=>of_lStr_le h⟩
def dc_BoundsError:DC TL BoundsError:=⟨v_BoundsErrorC,v_BoundsErrorMk,fun _ _ h=>v_BoundsErrorMk_le h⟩
def dc_ErrorAddressString:DC TL ErrorAddressString:=⟨v_ErrorAddressStringC,v_ErrorAddressStringMk,fun _ _ h=>v_ErrorAddressStringMk_le h⟩
def dc_Counter:DC TL Counter:=⟨v_CounterC,v_CounterMk,fun _ _ h=>v_CounterMk_le h⟩
def dc_Range:DC TL Range:=⟨v_RangeC,v_RangeMk,fun _ _ h=>v_RangeMk_le h⟩
def dc_Slice:DC TL Slice:=⟨v_SliceC,v_SliceMk,fun _ _ h=>v_SliceMk_le h⟩
def dc_Lease:DC TL Lease:=⟨v_LeaseC,v_LeaseMk,fun _ _ h=>v_LeaseMk_le h⟩
def dc_Book:DC TL Book:=⟨v_BookC,v_BookMk,fun _ _ h=>v_BookMk_le h⟩
def dc_Entry:DC TL Entry:=⟨v_EntryC,v_EntryMk,fun _ _ h=>v_EntryMk_le h⟩
def dc_Reg:DC TL Reg:=⟨v_RegC,v_RegMk,fun _ _ h=>v_RegMk_le h⟩
def dc_Elem:DC TL Elem:=⟨v_ElemC,v_ElemMk,fun _ _ h=>v_ElemMk_le h⟩
def dc_Sum:DC TL Sum:=⟨v_SumC,v_SumMk,fun _ _ h=>v_SumMk_le h⟩
def dc_Bind:DC TL Bind:=⟨v_BindC,v_BindMk,fun _ _ h=>v_BindMk_le h⟩
def dc_Coll:DC TL Coll:=⟨v_CollC,v_CollMk,fun _ _ h=>v_CollMk_le h⟩
def dc_A3Coll:DC TL A3Coll:=⟨v_A3CollC,v_A3CollMk,fun _ _ h=>v_A3CollMk_le h⟩
def dc_Op:DC TL Op:=⟨v_OpC,v_OpMk,fun _ _ h=>v_OpMk_le h⟩
def dc_Reply:DC TL Reply:=⟨v_ReplyC,v_ReplyMk,fun _ _ h=>v_ReplyMk_le h⟩
def dc_Device:DC TL Device:=⟨v_DeviceC,v_DeviceMk,fun _ _ h=>v_DeviceMk_le h⟩
def dc_A6Device:DC TL A6Device:=DC.iso (DC.cons (DI.int .i64) (DC.cons (DI.int .i64) (DC.cons (DI.int .i64) (DC.cons (DI.int .i64) (DC.cons (DI.int .i64) (DC.cons (DI.int .i64) (DC.cons (DI.int .i64) (DC.cons (DI.int .i64) (DC.cons di_lSlice (DC.cons di_lRange (DC.cons di_lInt (DC.cons (DI.int .i64) (DC.cons (DI.int .i64) (DC.cons (DI.int .i64) (DC.cons (DI.int .i64) (DC.cons (DI.int .i64) (DC.cons (DI.int .i64) (DC.cons (DI.int .i64) (DC.cons (DI.int .i64) (DC.cons di_lSlice (DC.cons di_lRange (DC.cons di_lInt (DC.cons (DI.int .i64) (DC.cons (DI.int .i64) (DC.cons (DI.int .i64) (DC.cons (DI.int .i64) (DC.cons (DI.int .i64) (DC.cons (DI.int .i64) (DC.cons (DI.int .i64) (DC.cons (DI.int .i64) (DC.cons di_lSlice (DC.cons di_lRange (DC.cons di_lInt (DC.cons (DI.int .i64) (DC.cons (DI.int .i64) (DC.cons (DI.int .i64) (DC.cons (DI.int .i64) (DC.cons (DI.int .i64) (DC.cons (DI.int .i64) (DC.cons (DI.int .i64) (DC.cons (DI.int .i64) (DC.cons di_lSlice (DC.cons di_lRange (DC.cons di_lInt (DC.cons (DI.int .i64) (DC.cons (DI.int .i64) (DC.cons (DI.int .i64) (DC.cons (DI.int .i64) (DC.cons (DI.int .i64) (DC.cons (DI.int .i64) (DC.cons (DI.int .i64) (DC.cons (DI.int .i64) (DC.cons di_lSlice (DC.cons di_lRange (DC.cons di_lInt (DC.cons (DI.int .i64) (DC.cons (DI.int .i64) (DC.cons (DI.int .i64) (DC.cons (DI.int .i64) (DC.cons (DI.int .i64) (DC.cons (DI.int .i64) (DC.cons (DI.int .i64) (DC.cons (DI.int .i64) (DC.cons di_lSlice (DC.cons di_lRange (DC.cons di_lInt (DC.nil))))))))))))))))))))))))))))))))))))))))))))))))))))))))))))))))))) (fun p=>(A6Device.mk (Device.mk p.1 p.2.1 (Reply.mk p.2.2.1 p.2.2.2.1 (Lease.mk p.2.2.2.2.1 p.2.2.2.2.2.1 p.2.2.2.2.2.2.1 p.2.2.2.2.2.2.2.1 (t8 p).1 (t8 p).2.1 (t8 p).2.2.1))) (Device.mk (t8 p).2.2.2.1 (t8 p).2.2.2.2.1 (Reply.mk (t8 p).2.2.2.2.2.1 (t8 p).2.2.2.2.2.2.1 (Lease.mk (t8 p).2.2.2.2.2.2.2.1 (t8 (t8 p)).1 (t8 (t8 p)).2.1 (t8 (t8 p)).2.2.1 (t8 (t8 p)).2.2.2.1 (t8 (t8 p)).2.2.2.2.1 (t8 (t8 p)).2.2.2.2.2.1))) (Device.mk (t8 (t8 p)).2.2.2.2.2.2.1 (t8 (t8 p)).2.2.2.2.2.2.2.1 (Reply.mk (t8 (t8 (t8 p))).1 (t8 (t8 (t8 p))).2.1 (Lease.mk (t8 (t8 (t8 p))).2.2.1 (t8 (t8 (t8 p))).2.2.2.1 (t8 (t8 (t8 p))).2.2.2.2.1 (t8 (t8 (t8 p))).2.2.2.2.2.1 (t8 (t8 (t8 p))).2.2.2.2.2.2.1 (t8 (t8 (t8 p))).2.2.2.2.2.2.2.1 (t32 p).1))) (Device.mk (t32 p).2.1 (t32 p).2.2.1 (Reply.mk (t32 p).2.2.2.1 (t32 p).2.2.2.2.1 (Lease.mk (t32 p).2.2.2.2.2.1 (t32 p).2.2.2.2.2.2.1 (t32 p).2.2.2.2.2.2.2.1 (t8 (t32 p)).1 (t8 (t32 p)).2.1 (t8 (t32 p)).2.2.1 (t8 (t32 p)).2.2.2.1))) (Device.mk (t8 (t32 p)).2.2.2.2.1 (t8 (t32 p)).2.2.2.2.2.1 (Reply.mk (t8 (t32 p)).2.2.2.2.2.2.1 (t8 (t32 p)).2.2.2.2.2.2.2.1 (Lease.mk (t8 (t8 (t32 p))).1 (t8 (t8 (t32 p))).2.1 (t8 (t8 (t32 p))).2.2.1 (t8 (t8 (t32 p))).2.2.2.1 (t8 (t8 (t32 p))).2.2.2.2.1 (t8 (t8 (t32 p))).2.2.2.2.2.1 (t8 (t8 (t32 p))).2.2.2.2.2.2.1))) (Device.mk (t8 (t8 (t32 p))).2.2.2.2.2.2.2.1 (t8 (t8 (t8 (t32 p)))).1 (Reply.mk (t8 (t8 (t8 (t32 p)))).2.1 (t8 (t8 (t8 (t32 p)))).2.2.1 (Lease.mk (t8 (t8 (t8 (t32 p)))).2.2.2.1 (t8 (t8 (t8 (t32 p)))).2.2.2.2.1 (t8 (t8 (t8 (t32 p)))).2.2.2.2.2.1 (t8 (t8 (t8 (t32 p)))).2.2.2.2.2.2.1 (t8 (t8 (t8 (t32 p)))).2.2.2.2.2.2.2.1 (t32 (t32 p)).1 (t32 (t32 p)).2.1))))) (fun (x:A6Device)=>(x.a0.epoch,(x.a0.req,(x.a0.reply.err,(x.a0.reply.n,(x.a0.reply.lease.device,(x.a0.reply.lease.epoch,(x.a0.reply.lease.until_,(x.a0.reply.lease.last,(x.a0.reply.lease.slices,(x.a0.reply.lease.ids,(x.a0.reply.lease.used,(x.a1.epoch,(x.a1.req,(x.a1.reply.err,(x.a1.reply.n,(x.a1.reply.lease.device,(x.a1.reply.lease.epoch,(x.a1.reply.lease.until_,(x.a1.reply.lease.last,(x.a1.reply.lease.slices,(x.a1.reply.lease.ids,(x.a1.reply.lease.used,(x.a2.epoch,(x.a2.req,(x.a2.reply.err,(x.a2.reply.n,(x.a2.reply.lease.device,(x.a2.reply.lease.epoch,(x.a2.reply.lease.until_,(x.a2.reply.lease.last,(x.a2.reply.lease.slices,(x.a2.reply.lease.ids,(x.a2.reply.lease.used,(x.a3.epoch,(x.a3.req,(x.a3.reply.err,(x.a3.reply.n,(x.a3.reply.lease.device,(x.a3.reply.lease.epoch,(x.a3.reply.lease.until_,(x.a3.reply.lease.last,(x.a3.reply.lease.slices,(x.a3.reply.lease.ids,(x.a3.reply.lease.used,(x.a4.epoch,(x.a4.req,(x.a4.reply.err,(x.a4.reply.n,(x.a4.reply.lease.device,(x.a4.reply.lease.epoch,(x.a4.reply.lease.until_,(x.a4.reply.lease.last,(x.a4.reply.lease.slices,(x.a4.reply.lease.ids,(x.a4.reply.lease.used,(x.a5.epoch,(x.a5.req,(x.a5.reply.err,(x.a5.reply.n,(x.a5.reply.lease.device,(x.a5.reply.lease.epoch,(x.a5.reply.lease.until_,(x.a5.reply.lease.last,(x.a5.reply.lease.slices,(x.a5.reply.lease.ids,(x.a5.reply.lease.used,()))))))))))))))))))))))))))))))))))))))))))))))))))))))))))))))))))) (fun _=>rfl)
def v_A6DeviceC (x:A6Device):List (I TL):=dc_A6Device.enc x
def dc_Desk:DC TL Desk:=DC.iso (DC.cons di_lCounter (DC.cons di_lRange (DC.cons di_lLease (DC.cons di_lInt (DC.cons di_lEntry (DC.cons di_lReg (DC.cons di_lElem (DC.cons di_lEntry (DC.cons di_lSum (DC.cons di_lBind (DC.cons di_lEntry (DC.cons di_lReg (DC.cons di_lElem (DC.cons di_lEntry (DC.cons di_lSum (DC.cons di_lBind (DC.cons di_lEntry (DC.cons di_lReg (DC.cons di_lElem (DC.cons di_lEntry (DC.cons di_lSum (DC.cons di_lBind (DC.cons di_lOp (DC.cons (DI.int .i64) (DC.cons (DI.int .i64) (DC.cons (DI.int .i64) (DC.cons (DI.int .i64) (DC.cons (DI.int .i64) (DC.cons (DI.int .i64) (DC.cons (DI.int .i64) (DC.cons (DI.int .i64) (DC.cons di_lSlice (DC.cons di_lRange (DC.cons di_lInt (DC.cons (DI.int .i64) (DC.cons (DI.int .i64) (DC.cons (DI.int .i64) (DC.cons (DI.int .i64) (DC.cons (DI.int .i64) (DC.cons (DI.int .i64) (DC.cons (DI.int .i64) (DC.cons (DI.int .i64) (DC.cons di_lSlice (DC.cons di_lRange (DC.cons di_lInt (DC.cons (DI.int .i64) (DC.cons (DI.int .i64) (DC.cons (DI.int .i64) (DC.cons (DI.int .i64) (DC.cons (DI.int .i64) (DC.cons (DI.int .i64) (DC.cons (DI.int .i64) (DC.cons (DI.int .i64) (DC.cons di_lSlice (DC.cons di_lRange (DC.cons di_lInt (DC.cons (DI.int .i64) (DC.cons (DI.int .i64) (DC.cons (DI.int .i64) (DC.cons (DI.int .i64) (DC.cons (DI.int .i64) (DC.cons (DI.int .i64) (DC.cons (DI.int .i64) (DC.cons (DI.int .i64) (DC.cons di_lSlice (DC.cons di_lRange (DC.cons di_lInt (DC.cons (DI.int .i64) (DC.cons (DI.int .i64) (DC.cons (DI.int .i64) (DC.cons (DI.int .i64) (DC.cons (DI.int .i64) (DC.cons (DI.int .i64) (DC.cons (DI.int .i64) (DC.cons (DI.int .i64) (DC.cons di_lSlice (DC.cons di_lRange (DC.cons di_lInt (DC.cons (DI.int .i64) (DC.cons (DI.int .i64) (DC.cons (DI.int .i64) (DC.cons (DI.int .i64) (DC.cons (DI.int .i64) (DC.cons (DI.int .i64) (DC.cons (DI.int .i64) (DC.cons (DI.int .i64) (DC.cons di_lSlice (DC.cons di_lRange (DC.cons di_lInt (DC.cons di_lEntry (DC.cons (DI.int .i64) (DC.nil)))))))))))))))))))))))))))))))))))))))))))))))))))))))))))))))))))))))))))))))))))))))))))) (fun p=>(Desk.mk (Book.mk p.1 p.2.1 p.2.2.1 p.2.2.2.1) (A3Coll.mk (Coll.mk p.2.2.2.2.1 p.2.2.2.2.2.1 p.2.2.2.2.2.2.1 p.2.2.2.2.2.2.2.1 (t8 p).1 (t8 p).2.1) (Coll.mk (t8 p).2.2.1 (t8 p).2.2.2.1 (t8 p).2.2.2.2.1 (t8 p).2.2.2.2.2.1 (t8 p).2.2.2.2.2.2.1 (t8 p).2.2.2.2.2.2.2.1) (Coll.mk (t8 (t8 p)).1 (t8 (t8 p)).2.1 (t8 (t8 p)).2.2.1 (t8 (t8 p)).2.2.2.1 (t8 (t8 p)).2.2.2.2.1 (t8 (t8 p)).2.2.2.2.2.1)) (t8 (t8 p)).2.2.2.2.2.2.1 (A6Device.mk (Device.mk (t8 (t8 p)).2.2.2.2.2.2.2.1 (t8 (t8 (t8 p))).1 (Reply.mk (t8 (t8 (t8 p))).2.1 (t8 (t8 (t8 p))).2.2.1 (Lease.mk (t8 (t8 (t8 p))).2.2.2.1 (t8 (t8 (t8 p))).2.2.2.2.1 (t8 (t8 (t8 p))).2.2.2.2.2.1 (t8 (t8 (t8 p))).2.2.2.2.2.2.1 (t8 (t8 (t8 p))).2.2.2.2.2.2.2.1 (t32 p).1 (t32 p).2.1))) (Device.mk (t32 p).2.2.1 (t32 p).2.2.2.1 (Reply.mk (t32 p).2.2.2.2.1 (t32 p).2.2.2.2.2.1 (Lease.mk (t32 p).2.2.2.2.2.2.1 (t32 p).2.2.2.2.2.2.2.1 (t8 (t32 p)).1 (t8 (t32 p)).2.1 (t8 (t32 p)).2.2.1 (t8 (t32 p)).2.2.2.1 (t8 (t32 p)).2.2.2.2.1))) (Device.mk (t8 (t32 p)).2.2.2.2.2.1 (t8 (t32 p)).2.2.2.2.2.2.1 (Reply.mk (t8 (t32 p)).2.2.2.2.2.2.2.1 (t8 (t8 (t32 p))).1 (Lease.mk (t8 (t8 (t32 p))).2.1 (t8 (t8 (t32 p))).2.2.1 (t8 (t8 (t32 p))).2.2.2.1 (t8 (t8 (t32 p))).2.2.2.2.1 (t8 (t8 (t32 p))).2.2.2.2.2.1 (t8 (t8 (t32 p))).2.2.2.2.2.2.1 (t8 (t8 (t32 p))).2.2.2.2.2.2.2.1))) (Device.mk (t8 (t8 (t8 (t32 p)))).1 (t8 (t8 (t8 (t32 p)))).2.1 (Reply.mk (t8 (t8 (t8 (t32 p)))).2.2.1 (t8 (t8 (t8 (t32 p)))).2.2.2.1 (Lease.mk (t8 (t8 (t8 (t32 p)))).2.2.2.2.1 (t8 (t8 (t8 (t32 p)))).2.2.2.2.2.1 (t8 (t8 (t8 (t32 p)))).2.2.2.2.2.2.1 (t8 (t8 (t8 (t32 p)))).2.2.2.2.2.2.2.1 (t32 (t32 p)).1 (t32 (t32 p)).2.1 (t32 (t32 p)).2.2.1))) (Device.mk (t32 (t32 p)).2.2.2.1 (t32 (t32 p)).2.2.2.2.1 (Reply.mk (t32 (t32 p)).2.2.2.2.2.1 (t32 (t32 p)).2.2.2.2.2.2.1 (Lease.mk (t32 (t32 p)).2.2.2.2.2.2.2.1 (t8 (t32 (t32 p))).1 (t8 (t32 (t32 p))).2.1 (t8 (t32 (t32 p))).2.2.1 (t8 (t32 (t32 p))).2.2.2.1 (t8 (t32 (t32 p))).2.2.2.2.1 (t8 (t32 (t32 p))).2.2.2.2.2.1))) (Device.mk (t8 (t32 (t32 p))).2.2.2.2.2.2.1 (t8 (t32 (t32 p))).2.2.2.2.2.2.2.1 (Reply.mk (t8 (t8 (t32 (t32 p)))).1 (t8 (t8 (t32 (t32 p)))).2.1 (Lease.mk (t8 (t8 (t32 (t32 p)))).2.2.1 (t8 (t8 (t32 (t32 p)))).2.2.2.1 (t8 (t8 (t32 (t32 p)))).2.2.2.2.1 (t8 (t8 (t32 (t32 p)))).2.2.2.2.2.1 (t8 (t8 (t32 (t32 p)))).2.2.2.2.2.2.1 (t8 (t8 (t32 (t32 p)))).2.2.2.2.2.2.2.1 (t8 (t8 (t8 (t32 (t32 p))))).1)))) (t8 (t8 (t8 (t32 (t32 p))))).2.1 (t8 (t8 (t8 (t32 (t32 p))))).2.2.1)) (fun (x:Desk)=>(x.book.counters,(x.book.free,(x.book.leases,(x.book.bound,(x.colls.a0.v,(x.colls.a0.regs,(x.colls.a0.elems,(x.colls.a0.gone,(x.colls.a0.sums,(x.colls.a0.binds,(x.colls.a1.v,(x.colls.a1.regs,(x.colls.a1.elems,(x.colls.a1.gone,(x.colls.a1.sums,(x.colls.a1.binds,(x.colls.a2.v,(x.colls.a2.regs,(x.colls.a2.elems,(x.colls.a2.gone,(x.colls.a2.sums,(x.colls.a2.binds,(x.log,(x.dev.a0.epoch,(x.dev.a0.req,(x.dev.a0.reply.err,(x.dev.a0.reply.n,(x.dev.a0.reply.lease.device,(x.dev.a0.reply.lease.epoch,(x.dev.a0.reply.lease.until_,(x.dev.a0.reply.lease.last,(x.dev.a0.reply.lease.slices,(x.dev.a0.reply.lease.ids,(x.dev.a0.reply.lease.used,(x.dev.a1.epoch,(x.dev.a1.req,(x.dev.a1.reply.err,(x.dev.a1.reply.n,(x.dev.a1.reply.lease.device,(x.dev.a1.reply.lease.epoch,(x.dev.a1.reply.lease.until_,(x.dev.a1.reply.lease.last,(x.dev.a1.reply.lease.slices,(x.dev.a1.reply.lease.ids,(x.dev.a1.reply.lease.used,(x.dev.a2.epoch,(x.dev.a2.req,(x.dev.a2.reply.err,(x.dev.a2.reply.n,(x.dev.a2.reply.lease.device,(x.dev.a2.reply.lease.epoch,(x.dev.a2.reply.lease.until_,(x.dev.a2.reply.lease.last,(x.dev.a2.reply.lease.slices,(x.dev.a2.reply.lease.ids,(x.dev.a2.reply.lease.used,(x.dev.a3.epoch,(x.dev.a3.req,(x.dev.a3.reply.err,(x.dev.a3.reply.n,(x.dev.a3.reply.lease.device,(x.dev.a3.reply.lease.epoch,(x.dev.a3.reply.lease.until_,(x.dev.a3.reply.lease.last,(x.dev.a3.reply.lease.slices,(x.dev.a3.reply.lease.ids,(x.dev.a3.reply.lease.used,(x.dev.a4.epoch,(x.dev.a4.req,(x.dev.a4.reply.err,(x.dev.a4.reply.n,(x.dev.a4.reply.lease.device,(x.dev.a4.reply.lease.epoch,(x.dev.a4.reply.lease.until_,(x.dev.a4.reply.lease.last,(x.dev.a4.reply.lease.slices,(x.dev.a4.reply.lease.ids,(x.dev.a4.reply.lease.used,(x.dev.a5.epoch,(x.dev.a5.req,(x.dev.a5.reply.err,(x.dev.a5.reply.n,(x.dev.a5.reply.lease.device,(x.dev.a5.reply.lease.epoch,(x.dev.a5.reply.lease.until_,(x.dev.a5.reply.lease.last,(x.dev.a5.reply.lease.slices,(x.dev.a5.reply.lease.ids,(x.dev.a5.reply.lease.used,(x.lost,(x.now,())))))))))))))))))))))))))))))))))))))))))))))))))))))))))))))))))))))))))))))))))))))))))))) (fun _=>rfl)
def v_DeskC (x:Desk):List (I TL):=dc_Desk.enc x
def dc_Want:DC TL Want:=⟨v_WantC,v_WantMk,fun _ _ h=>v_WantMk_le h⟩
def dc_Cmd:DC TL Cmd:=⟨v_CmdC,v_CmdMk,fun _ _ h=>v_CmdMk_le h⟩
def dc_A5Bool:DC TL A5Bool:=⟨v_A5BoolC,v_A5BoolMk,fun _ _ h=>v_A5BoolMk_le h⟩
def dc_Act:DC TL Act:=⟨v_ActC,v_ActMk,fun _ _ h=>v_ActMk_le h⟩
def dc_A6Int:DC TL A6Int:=⟨v_A6IntC,v_A6IntMk,fun _ _ h=>v_A6IntMk_le h⟩
def dc_Clerk:DC TL Clerk:=DC.iso (DC.cons di_lCounter (DC.cons di_lRange (DC.cons di_lLease (DC.cons di_lInt (DC.cons di_lEntry (DC.cons di_lReg (DC.cons di_lElem (DC.cons di_lEntry (DC.cons di_lSum (DC.cons di_lBind (DC.cons di_lEntry (DC.cons di_lReg (DC.cons di_lElem (DC.cons di_lEntry (DC.cons di_lSum (DC.cons di_lBind (DC.cons di_lEntry (DC.cons di_lReg (DC.cons di_lElem (DC.cons di_lEntry (DC.cons di_lSum (DC.cons di_lBind (DC.cons di_lOp (DC.cons (DI.int .i64) (DC.cons (DI.int .i64) (DC.cons (DI.int .i64) (DC.cons (DI.int .i64) (DC.cons (DI.int .i64) (DC.cons (DI.int .i64) (DC.cons (DI.int .i64) (DC.cons (DI.int .i64) (DC.cons di_lSlice (DC.cons di_lRange (DC.cons di_lInt (DC.cons (DI.int .i64) (DC.cons (DI.int .i64) (DC.cons (DI.int .i64) (DC.cons (DI.int .i64) (DC.cons (DI.int .i64) (DC.cons (DI.int .i64) (DC.cons (DI.int .i64) (DC.cons (DI.int .i64) (DC.cons di_lSlice (DC.cons di_lRange (DC.cons di_lInt (DC.cons (DI.int .i64) (DC.cons (DI.int .i64) (DC.cons (DI.int .i64) (DC.cons (DI.int .i64) (DC.cons (DI.int .i64) (DC.cons (DI.int .i64) (DC.cons (DI.int .i64) (DC.cons (DI.int .i64) (DC.cons di_lSlice (DC.cons di_lRange (DC.cons di_lInt (DC.cons (DI.int .i64) (DC.cons (DI.int .i64) (DC.cons (DI.int .i64) (DC.cons (DI.int .i64) (DC.cons (DI.int .i64) (DC.cons (DI.int .i64) (DC.cons (DI.int .i64) (DC.cons (DI.int .i64) (DC.cons di_lSlice (DC.cons di_lRange (DC.cons di_lInt (DC.cons (DI.int .i64) (DC.cons (DI.int .i64) (DC.cons (DI.int .i64) (DC.cons (DI.int .i64) (DC.cons (DI.int .i64) (DC.cons (DI.int .i64) (DC.cons (DI.int .i64) (DC.cons (DI.int .i64) (DC.cons di_lSlice (DC.cons di_lRange (DC.cons di_lInt (DC.cons (DI.int .i64) (DC.cons (DI.int .i64) (DC.cons (DI.int .i64) (DC.cons (DI.int .i64) (DC.cons (DI.int .i64) (DC.cons (DI.int .i64) (DC.cons (DI.int .i64) (DC.cons (DI.int .i64) (DC.cons di_lSlice (DC.cons di_lRange (DC.cons di_lInt (DC.cons di_lEntry (DC.cons (DI.int .i64) (DC.cons (DI.int .i64) (DC.cons (DI.int .i64) (DC.cons (DI.int .i64) (DC.cons (DI.int .i64) (DC.cons (DI.int .i64) (DC.cons di_lWant (DC.cons di_lOp (DC.nil))))))))))))))))))))))))))))))))))))))))))))))))))))))))))))))))))))))))))))))))))))))))))))))))))) (fun p=>(Clerk.mk (Desk.mk (Book.mk p.1 p.2.1 p.2.2.1 p.2.2.2.1) (A3Coll.mk (Coll.mk p.2.2.2.2.1 p.2.2.2.2.2.1 p.2.2.2.2.2.2.1 p.2.2.2.2.2.2.2.1 (t8 p).1 (t8 p).2.1) (Coll.mk (t8 p).2.2.1 (t8 p).2.2.2.1 (t8 p).2.2.2.2.1 (t8 p).2.2.2.2.2.1 (t8 p).2.2.2.2.2.2.1 (t8 p).2.2.2.2.2.2.2.1) (Coll.mk (t8 (t8 p)).1 (t8 (t8 p)).2.1 (t8 (t8 p)).2.2.1 (t8 (t8 p)).2.2.2.1 (t8 (t8 p)).2.2.2.2.1 (t8 (t8 p)).2.2.2.2.2.1)) (t8 (t8 p)).2.2.2.2.2.2.1 (A6Device.mk (Device.mk (t8 (t8 p)).2.2.2.2.2.2.2.1 (t8 (t8 (t8 p))).1 (Reply.mk (t8 (t8 (t8 p))).2.1 (t8 (t8 (t8 p))).2.2.1 (Lease.mk (t8 (t8 (t8 p))).2.2.2.1 (t8 (t8 (t8 p))).2.2.2.2.1 (t8 (t8 (t8 p))).2.2.2.2.2.1 (t8 (t8 (t8 p))).2.2.2.2.2.2.1 (t8 (t8 (t8 p))).2.2.2.2.2.2.2.1 (t32 p).1 (t32 p).2.1))) (Device.mk (t32 p).2.2.1 (t32 p).2.2.2.1 (Reply.mk (t32 p).2.2.2.2.1 (t32 p).2.2.2.2.2.1 (Lease.mk (t32 p).2.2.2.2.2.2.1 (t32 p).2.2.2.2.2.2.2.1 (t8 (t32 p)).1 (t8 (t32 p)).2.1 (t8 (t32 p)).2.2.1 (t8 (t32 p)).2.2.2.1 (t8 (t32 p)).2.2.2.2.1))) (Device.mk (t8 (t32 p)).2.2.2.2.2.1 (t8 (t32 p)).2.2.2.2.2.2.1 (Reply.mk (t8 (t32 p)).2.2.2.2.2.2.2.1 (t8 (t8 (t32 p))).1 (Lease.mk (t8 (t8 (t32 p))).2.1 (t8 (t8 (t32 p))).2.2.1 (t8 (t8 (t32 p))).2.2.2.1 (t8 (t8 (t32 p))).2.2.2.2.1 (t8 (t8 (t32 p))).2.2.2.2.2.1 (t8 (t8 (t32 p))).2.2.2.2.2.2.1 (t8 (t8 (t32 p))).2.2.2.2.2.2.2.1))) (Device.mk (t8 (t8 (t8 (t32 p)))).1 (t8 (t8 (t8 (t32 p)))).2.1 (Reply.mk (t8 (t8 (t8 (t32 p)))).2.2.1 (t8 (t8 (t8 (t32 p)))).2.2.2.1 (Lease.mk (t8 (t8 (t8 (t32 p)))).2.2.2.2.1 (t8 (t8 (t8 (t32 p)))).2.2.2.2.2.1 (t8 (t8 (t8 (t32 p)))).2.2.2.2.2.2.1 (t8 (t8 (t8 (t32 p)))).2.2.2.2.2.2.2.1 (t32 (t32 p)).1 (t32 (t32 p)).2.1 (t32 (t32 p)).2.2.1))) (Device.mk (t32 (t32 p)).2.2.2.1 (t32 (t32 p)).2.2.2.2.1 (Reply.mk (t32 (t32 p)).2.2.2.2.2.1 (t32 (t32 p)).2.2.2.2.2.2.1 (Lease.mk (t32 (t32 p)).2.2.2.2.2.2.2.1 (t8 (t32 (t32 p))).1 (t8 (t32 (t32 p))).2.1 (t8 (t32 (t32 p))).2.2.1 (t8 (t32 (t32 p))).2.2.2.1 (t8 (t32 (t32 p))).2.2.2.2.1 (t8 (t32 (t32 p))).2.2.2.2.2.1))) (Device.mk (t8 (t32 (t32 p))).2.2.2.2.2.2.1 (t8 (t32 (t32 p))).2.2.2.2.2.2.2.1 (Reply.mk (t8 (t8 (t32 (t32 p)))).1 (t8 (t8 (t32 (t32 p)))).2.1 (Lease.mk (t8 (t8 (t32 (t32 p)))).2.2.1 (t8 (t8 (t32 (t32 p)))).2.2.2.1 (t8 (t8 (t32 (t32 p)))).2.2.2.2.1 (t8 (t8 (t32 (t32 p)))).2.2.2.2.2.1 (t8 (t8 (t32 (t32 p)))).2.2.2.2.2.2.1 (t8 (t8 (t32 (t32 p)))).2.2.2.2.2.2.2.1 (t8 (t8 (t8 (t32 (t32 p))))).1)))) (t8 (t8 (t8 (t32 (t32 p))))).2.1 (t8 (t8 (t8 (t32 (t32 p))))).2.2.1) (Cmd.mk (t8 (t8 (t8 (t32 (t32 p))))).2.2.2.1 (t8 (t8 (t8 (t32 (t32 p))))).2.2.2.2.1 (t8 (t8 (t8 (t32 (t32 p))))).2.2.2.2.2.1 (t8 (t8 (t8 (t32 (t32 p))))).2.2.2.2.2.2.1 (t8 (t8 (t8 (t32 (t32 p))))).2.2.2.2.2.2.2.1 (t32 (t32 (t32 p))).1 (t32 (t32 (t32 p))).2.1))) (fun (x:Clerk)=>(x.d.book.counters,(x.d.book.free,(x.d.book.leases,(x.d.book.bound,(x.d.colls.a0.v,(x.d.colls.a0.regs,(x.d.colls.a0.elems,(x.d.colls.a0.gone,(x.d.colls.a0.sums,(x.d.colls.a0.binds,(x.d.colls.a1.v,(x.d.colls.a1.regs,(x.d.colls.a1.elems,(x.d.colls.a1.gone,(x.d.colls.a1.sums,(x.d.colls.a1.binds,(x.d.colls.a2.v,(x.d.colls.a2.regs,(x.d.colls.a2.elems,(x.d.colls.a2.gone,(x.d.colls.a2.sums,(x.d.colls.a2.binds,(x.d.log,(x.d.dev.a0.epoch,(x.d.dev.a0.req,(x.d.dev.a0.reply.err,(x.d.dev.a0.reply.n,(x.d.dev.a0.reply.lease.device,(x.d.dev.a0.reply.lease.epoch,(x.d.dev.a0.reply.lease.until_,(x.d.dev.a0.reply.lease.last,(x.d.dev.a0.reply.lease.slices,(x.d.dev.a0.reply.lease.ids,(x.d.dev.a0.reply.lease.used,(x.d.dev.a1.epoch,(x.d.dev.a1.req,(x.d.dev.a1.reply.err,(x.d.dev.a1.reply.n,(x.d.dev.a1.reply.lease.device,(x.d.dev.a1.reply.lease.epoch,(x.d.dev.a1.reply.lease.until_,(x.d.dev.a1.reply.lease.last,(x.d.dev.a1.reply.lease.slices,(x.d.dev.a1.reply.lease.ids,(x.d.dev.a1.reply.lease.used,(x.d.dev.a2.epoch,(x.d.dev.a2.req,(x.d.dev.a2.reply.err,(x.d.dev.a2.reply.n,(x.d.dev.a2.reply.lease.device,(x.d.dev.a2.reply.lease.epoch,(x.d.dev.a2.reply.lease.until_,(x.d.dev.a2.reply.lease.last,(x.d.dev.a2.reply.lease.slices,(x.d.dev.a2.reply.lease.ids,(x.d.dev.a2.reply.lease.used,(x.d.dev.a3.epoch,(x.d.dev.a3.req,(x.d.dev.a3.reply.err,(x.d.dev.a3.reply.n,(x.d.dev.a3.reply.lease.device,(x.d.dev.a3.reply.lease.epoch,(x.d.dev.a3.reply.lease.until_,(x.d.dev.a3.reply.lease.last,(x.d.dev.a3.reply.lease.slices,(x.d.dev.a3.reply.lease.ids,(x.d.dev.a3.reply.lease.used,(x.d.dev.a4.epoch,(x.d.dev.a4.req,(x.d.dev.a4.reply.err,(x.d.dev.a4.reply.n,(x.d.dev.a4.reply.lease.device,(x.d.dev.a4.reply.lease.epoch,(x.d.dev.a4.reply.lease.until_,(x.d.dev.a4.reply.lease.last,(x.d.dev.a4.reply.lease.slices,(x.d.dev.a4.reply.lease.ids,(x.d.dev.a4.reply.lease.used,(x.d.dev.a5.epoch,(x.d.dev.a5.req,(x.d.dev.a5.reply.err,(x.d.dev.a5.reply.n,(x.d.dev.a5.reply.lease.device,(x.d.dev.a5.reply.lease.epoch,(x.d.dev.a5.reply.lease.until_,(x.d.dev.a5.reply.lease.last,(x.d.dev.a5.reply.lease.slices,(x.d.dev.a5.reply.lease.ids,(x.d.dev.a5.reply.lease.used,(x.d.lost,(x.d.now,(x.c.kind,(x.c.device,(x.c.epoch,(x.c.req,(x.c.n,(x.c.wants,(x.c.ops,()))))))))))))))))))))))))))))))))))))))))))))))))))))))))))))))))))))))))))))))))))))))))))))))))))) (fun _=>rfl)
def v_ClerkC (x:Clerk):List (I TL):=dc_Clerk.enc x
def dc_Pair:DC TL Pair:=⟨v_PairC,v_PairMk,fun _ _ h=>v_PairMk_le h⟩
theorem base:Base TL Tryz.prog tab:=⟨tabOK,tlaws,by kernel_rfl⟩
end Go.Proofs.YtcjpeijiaojeiaaGreat
