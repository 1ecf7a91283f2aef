/- By program (gen.py): the typed lists of this program, and their laws. -/
import Derived.Test.YtcjpeijiaojeiaaGreatTab
import Derived.Test.YtcjpeijiaojeiaaGreatEd
namespace Go.Proofs.YtcjpeijiaojeiaaGreat
open Go Go.Ev
structure aOc where
 x:Int
 y:Int
 signed:Bool
 code:Int
structure aOb where
 msg:ByteArray
 addr:Int
structure bl where
 key:ByteArray
 cC:Int
 lo:Int
 hi:Int
 start:Int
 cO:Int
 cY:Int
structure Range where
 from_:Int
 bt:Int
structure Slice where
 key:ByteArray
 cO:Int
 cY:Int
 gZ:Int
 ir:Int
structure aI where
 device:Int
 aB:Int
 bC:Int
 last:Int
 aX:List Slice
 ids:List Range
 used:List Int
structure aG where
 ak:List bl
 free:List Range
 aP:List aI
 bF:List Int
structure aL where
 device:Int
 aB:Int
 seq:Int
structure dE where
 key:ByteArray
 text:ByteArray
 cU:Int
 time:Int
 al:aL
structure cH where
 key:ByteArray
 text:ByteArray
 cU:Int
 al:aL
structure Sum where
 key:ByteArray
 n:Int
structure Bind where
 tY:Int
 text:ByteArray
 cU:Int
 al:aL
structure ah where
 v:List aL
 be:List dE
 bY:List cH
 gone:List aL
 bc:List Sum
 binds:List Bind
structure fw where
 a0:ah
 a1:ah
 a2:ah
structure Op where
 al:aL
 cC:Int
 cU:Int
 kind:Int
 key:ByteArray
 text:ByteArray
 n:Int
 time:Int
 dG:List aL
structure aO where
 err:Int
 n:Int
 aD:aI
structure Device where
 aB:Int
 aK:Int
 aA:aO
structure dw where
 a0:Device
 a1:Device
 a2:Device
 a3:Device
 a4:Device
 a5:Device
structure bI where
 book:aG
 aM:fw
 log:List Op
 dev:dw
 lost:List aL
 now:Int
structure Want where
 key:ByteArray
 cO:Int
 cY:Int
 ids:Int
structure bg where
 kind:Int
 device:Int
 aB:Int
 aK:Int
 n:Int
 cP:List Want
 ops:List Op
structure aOg where
 a0:Bool
 a1:Bool
 a2:Bool
 a3:Bool
 a4:Bool
structure Act where
 kind:Int
 device:Int
 n:Int
 cP:List Want
 ops:List Op
structure aOh where
 a0:Int
 a1:Int
 a2:Int
 a3:Int
 a4:Int
 a5:Int
structure az where
 d:bI
 c:bg
structure fE where
 device:Int
 aB:Int
inductive TL where
 | eX (l:List bl)
 | eD (l:List Range)
 | eM (l:List Slice)
 | eG (l:List Int)
 | eY (l:List aI)
 | dq (l:List aL)
 | eu (l:List dE)
 | eg (l:List cH)
 | eo (l:List Sum)
 | ee (l:List Bind)
 | eB (l:List Op)
 | eN (l:List Want)
 | eU (l:List Act)
 | gK (l:List Bool)
 | gQ (l:List bg)
 | fZ (l:List Device)
 | gI (l:List (List Range))
 | gP (l:List ByteArray)
def cE (k:IntKind)(x:I TL):Option Int:=match x with | .lit k1 n=>cond (eH k1 k) (some n) none | .int k1 n=>cond (eH k1 k) (some n) none | _=>none
def WU (x:I TL):Option Bool:=match x with | .tt=>some true | .ff=>some false | .bool b=>some b | _=>none
def iO (x:I TL):Option ByteArray:=match x with | .str s=>some s | _=>none
def uT (x:I TL):Option (List bl):=match x with | .fz (.eX l)=>some l | .val (.slice none 0 0)=>some [] | _=>none
def kw (x:I TL):Option (List Range):=match x with | .fz (.eD l)=>some l | .val (.slice none 0 0)=>some [] | _=>none
def nI (x:I TL):Option (List Slice):=match x with | .fz (.eM l)=>some l | .val (.slice none 0 0)=>some [] | _=>none
def mG (x:I TL):Option (List Int):=match x with | .fz (.eG l)=>some l | .val (.slice none 0 0)=>some [] | _=>none
def wZ (x:I TL):Option (List aI):=match x with | .fz (.eY l)=>some l | .val (.slice none 0 0)=>some [] | _=>none
def ku (x:I TL):Option (List aL):=match x with | .fz (.dq l)=>some l | .val (.slice none 0 0)=>some [] | _=>none
def xp (x:I TL):Option (List dE):=match x with | .fz (.eu l)=>some l | .val (.slice none 0 0)=>some [] | _=>none
def xL (x:I TL):Option (List cH):=match x with | .fz (.eg l)=>some l | .val (.slice none 0 0)=>some [] | _=>none
def xl (x:I TL):Option (List Sum):=match x with | .fz (.eo l)=>some l | .val (.slice none 0 0)=>some [] | _=>none
def xV (x:I TL):Option (List Bind):=match x with | .fz (.ee l)=>some l | .val (.slice none 0 0)=>some [] | _=>none
def mS (x:I TL):Option (List Op):=match x with | .fz (.eB l)=>some l | .val (.slice none 0 0)=>some [] | _=>none
def sJ (x:I TL):Option (List Want):=match x with | .fz (.eN l)=>some l | .val (.slice none 0 0)=>some [] | _=>none
def D1 (x:I TL):Option (List Act):=match x with | .fz (.eU l)=>some l | .val (.slice none 0 0)=>some [] | _=>none
def lc (x:bl):List (I TL):=[.str x.key,.int .i64 x.cC,.int .i64 x.lo,.int .i64 x.hi,.int .i64 x.start,.int .i64 x.cO,.int .i64 x.cY]
def qm (l:List (I TL)):Option bl:=match l with | x0::x1::x2::x3::x4::x5::x6::[]=>(match iO x0 with | some y0=>(match cE .i64 x1 with | some y1=>(match cE .i64 x2 with | some y2=>(match cE .i64 x3 with | some y3=>(match cE .i64 x4 with | some y4=>(match cE .i64 x5 with | some y5=>(match cE .i64 x6 with | some y6=>(some (bl.mk y0 y1 y2 y3 y4 y5 y6)) | none=>none) | none=>none) | none=>none) | none=>none) | none=>none) | none=>none) | none=>none) | _=>none
def ly (x:Range):List (I TL):=[.int .i64 x.from_,.int .i64 x.bt]
def ra (l:List (I TL)):Option Range:=match l with | x0::x1::[]=>(match cE .i64 x0 with | some y0=>(match cE .i64 x1 with | some y1=>(some (Range.mk y0 y1)) | none=>none) | none=>none) | _=>none
def nZ (x:Slice):List (I TL):=[.str x.key,.int .i64 x.cO,.int .i64 x.cY,.int .i64 x.gZ,.int .i64 x.ir]
def vm (l:List (I TL)):Option Slice:=match l with | x0::x1::x2::x3::x4::[]=>(match iO x0 with | some y0=>(match cE .i64 x1 with | some y1=>(match cE .i64 x2 with | some y2=>(match cE .i64 x3 with | some y3=>(match cE .i64 x4 with | some y4=>(some (Slice.mk y0 y1 y2 y3 y4)) | none=>none) | none=>none) | none=>none) | none=>none) | none=>none) | _=>none
def nc (x:aI):List (I TL):=[.int .i64 x.device,.int .i64 x.aB,.int .i64 x.bC,.int .i64 x.last,.fz (.eM x.aX),.fz (.eD x.ids),.fz (.eG x.used)]
def sC (l:List (I TL)):Option aI:=match l with | x0::x1::x2::x3::x4::x5::x6::[]=>(match cE .i64 x0 with | some y0=>(match cE .i64 x1 with | some y1=>(match cE .i64 x2 with | some y2=>(match cE .i64 x3 with | some y3=>(match nI x4 with | some y4=>(match kw x5 with | some y5=>(match mG x6 with | some y6=>(some (aI.mk y0 y1 y2 y3 y4 y5 y6)) | none=>none) | none=>none) | none=>none) | none=>none) | none=>none) | none=>none) | none=>none) | _=>none
def Pv (x:aG):List (I TL):=[.fz (.eX x.ak),.fz (.eD x.free),.fz (.eY x.aP),.fz (.eG x.bF)]
def DL (l:List (I TL)):Option aG:=match l with | x0::x1::x2::x3::[]=>(match uT x0 with | some y0=>(match kw x1 with | some y1=>(match wZ x2 with | some y2=>(match mG x3 with | some y3=>(some (aG.mk y0 y1 y2 y3)) | none=>none) | none=>none) | none=>none) | none=>none) | _=>none
def jN (x:aL):List (I TL):=[.int .i64 x.device,.int .i64 x.aB,.int .i64 x.seq]
def rT (l:List (I TL)):Option aL:=match l with | x0::x1::x2::[]=>(match cE .i64 x0 with | some y0=>(match cE .i64 x1 with | some y1=>(match cE .i64 x2 with | some y2=>(some (aL.mk y0 y1 y2)) | none=>none) | none=>none) | none=>none) | _=>none
def nq (x:dE):List (I TL):=[.str x.key,.str x.text,.int .i64 x.cU,.int .i64 x.time,.int .i64 x.al.device,.int .i64 x.al.aB,.int .i64 x.al.seq]
def xu (l:List (I TL)):Option dE:=match l with | x0::x1::x2::x3::x4::x5::x6::[]=>(match iO x0 with | some y0=>(match iO x1 with | some y1=>(match cE .i64 x2 with | some y2=>(match cE .i64 x3 with | some y3=>(match cE .i64 x4 with | some y4=>(match cE .i64 x5 with | some y5=>(match cE .i64 x6 with | some y6=>(some (dE.mk y0 y1 y2 y3 (aL.mk y4 y5 y6))) | none=>none) | none=>none) | none=>none) | none=>none) | none=>none) | none=>none) | none=>none) | _=>none
def nj (x:cH):List (I TL):=[.str x.key,.str x.text,.int .i64 x.cU,.int .i64 x.al.device,.int .i64 x.al.aB,.int .i64 x.al.seq]
def xG (l:List (I TL)):Option cH:=match l with | x0::x1::x2::x3::x4::x5::[]=>(match iO x0 with | some y0=>(match iO x1 with | some y1=>(match cE .i64 x2 with | some y2=>(match cE .i64 x3 with | some y3=>(match cE .i64 x4 with | some y4=>(match cE .i64 x5 with | some y5=>(some (cH.mk y0 y1 y2 (aL.mk y3 y4 y5))) | none=>none) | none=>none) | none=>none) | none=>none) | none=>none) | none=>none) | _=>none
def nv (x:Sum):List (I TL):=[.str x.key,.int .i64 x.n]
def xv (l:List (I TL)):Option Sum:=match l with | x0::x1::[]=>(match iO x0 with | some y0=>(match cE .i64 x1 with | some y1=>(some (Sum.mk y0 y1)) | none=>none) | none=>none) | _=>none
def nk (x:Bind):List (I TL):=[.int .i64 x.tY,.str x.text,.int .i64 x.cU,.int .i64 x.al.device,.int .i64 x.al.aB,.int .i64 x.al.seq]
def xO (l:List (I TL)):Option Bind:=match l with | x0::x1::x2::x3::x4::x5::[]=>(match cE .i64 x0 with | some y0=>(match iO x1 with | some y1=>(match cE .i64 x2 with | some y2=>(match cE .i64 x3 with | some y3=>(match cE .i64 x4 with | some y4=>(match cE .i64 x5 with | some y5=>(some (Bind.mk y0 y1 y2 (aL.mk y3 y4 y5))) | none=>none) | none=>none) | none=>none) | none=>none) | none=>none) | none=>none) | _=>none
def Pt (x:ah):List (I TL):=[.fz (.dq x.v),.fz (.eu x.be),.fz (.eg x.bY),.fz (.dq x.gone),.fz (.eo x.bc),.fz (.ee x.binds)]
def DN (l:List (I TL)):Option ah:=match l with | x0::x1::x2::x3::x4::x5::[]=>(match ku x0 with | some y0=>(match xp x1 with | some y1=>(match xL x2 with | some y2=>(match ku x3 with | some y3=>(match xl x4 with | some y4=>(match xV x5 with | some y5=>(some (ah.mk y0 y1 y2 y3 y4 y5)) | none=>none) | none=>none) | none=>none) | none=>none) | none=>none) | none=>none) | _=>none
def kU (x:Op):List (I TL):=[.int .i64 x.al.device,.int .i64 x.al.aB,.int .i64 x.al.seq,.int .i64 x.cC,.int .i64 x.cU,.int .i64 x.kind,.str x.key,.str x.text,.int .i64 x.n,.int .i64 x.time,.fz (.dq x.dG)]
def sm (l:List (I TL)):Option Op:=match l with | x0::x1::x2::x3::x4::x5::x6::x7::x8::x9::x10::[]=>(match cE .i64 x0 with | some y0=>(match cE .i64 x1 with | some y1=>(match cE .i64 x2 with | some y2=>(match cE .i64 x3 with | some y3=>(match cE .i64 x4 with | some y4=>(match cE .i64 x5 with | some y5=>(match iO x6 with | some y6=>(match iO x7 with | some y7=>(match cE .i64 x8 with | some y8=>(match cE .i64 x9 with | some y9=>(match ku x10 with | some y10=>(some (Op.mk (aL.mk y0 y1 y2) y3 y4 y5 y6 y7 y8 y9 y10)) | none=>none) | none=>none) | none=>none) | none=>none) | none=>none) | none=>none) | none=>none) | none=>none) | none=>none) | none=>none) | none=>none) | _=>none
def Od (x:aO):List (I TL):=[.int .i64 x.err,.int .i64 x.n,.int .i64 x.aD.device,.int .i64 x.aD.aB,.int .i64 x.aD.bC,.int .i64 x.aD.last,.fz (.eM x.aD.aX),.fz (.eD x.aD.ids),.fz (.eG x.aD.used)]
def CG (l:List (I TL)):Option aO:=match l with | x0::x1::x2::x3::x4::x5::x6::x7::x8::[]=>(match cE .i64 x0 with | some y0=>(match cE .i64 x1 with | some y1=>(match cE .i64 x2 with | some y2=>(match cE .i64 x3 with | some y3=>(match cE .i64 x4 with | some y4=>(match cE .i64 x5 with | some y5=>(match nI x6 with | some y6=>(match kw x7 with | some y7=>(match mG x8 with | some y8=>(some (aO.mk y0 y1 (aI.mk y2 y3 y4 y5 y6 y7 y8))) | none=>none) | none=>none) | none=>none) | none=>none) | none=>none) | none=>none) | none=>none) | none=>none) | none=>none) | _=>none
def nS (x:Device):List (I TL):=[.int .i64 x.aB,.int .i64 x.aK,.int .i64 x.aA.err,.int .i64 x.aA.n,.int .i64 x.aA.aD.device,.int .i64 x.aA.aD.aB,.int .i64 x.aA.aD.bC,.int .i64 x.aA.aD.last,.fz (.eM x.aA.aD.aX),.fz (.eD x.aA.aD.ids),.fz (.eG x.aA.aD.used)]
def rI (l:List (I TL)):Option Device:=match l with | x0::x1::x2::x3::x4::x5::x6::x7::x8::x9::x10::[]=>(match cE .i64 x0 with | some y0=>(match cE .i64 x1 with | some y1=>(match cE .i64 x2 with | some y2=>(match cE .i64 x3 with | some y3=>(match cE .i64 x4 with | some y4=>(match cE .i64 x5 with | some y5=>(match cE .i64 x6 with | some y6=>(match cE .i64 x7 with | some y7=>(match nI x8 with | some y8=>(match kw x9 with | some y9=>(match mG x10 with | some y10=>(some (Device.mk y0 y1 (aO.mk y2 y3 (aI.mk y4 y5 y6 y7 y8 y9 y10)))) | none=>none) | none=>none) | none=>none) | none=>none) | none=>none) | none=>none) | none=>none) | none=>none) | none=>none) | none=>none) | none=>none) | _=>none
def mJ (x:Want):List (I TL):=[.str x.key,.int .i64 x.cO,.int .i64 x.cY,.int .i64 x.ids]
def xT (l:List (I TL)):Option Want:=match l with | x0::x1::x2::x3::[]=>(match iO x0 with | some y0=>(match cE .i64 x1 with | some y1=>(match cE .i64 x2 with | some y2=>(match cE .i64 x3 with | some y3=>(some (Want.mk y0 y1 y2 y3)) | none=>none) | none=>none) | none=>none) | none=>none) | _=>none
def nu (x:bg):List (I TL):=[.int .i64 x.kind,.int .i64 x.device,.int .i64 x.aB,.int .i64 x.aK,.int .i64 x.n,.fz (.eN x.cP),.fz (.eB x.ops)]
def s9 (l:List (I TL)):Option bg:=match l with | x0::x1::x2::x3::x4::x5::x6::[]=>(match cE .i64 x0 with | some y0=>(match cE .i64 x1 with | some y1=>(match cE .i64 x2 with | some y2=>(match cE .i64 x3 with | some y3=>(match cE .i64 x4 with | some y4=>(match sJ x5 with | some y5=>(match mS x6 with | some y6=>(some (bg.mk y0 y1 y2 y3 y4 y5 y6)) | none=>none) | none=>none) | none=>none) | none=>none) | none=>none) | none=>none) | none=>none) | _=>none
def mO (x:Act):List (I TL):=[.int .i64 x.kind,.int .i64 x.device,.int .i64 x.n,.fz (.eN x.cP),.fz (.eB x.ops)]
def sW (l:List (I TL)):Option Act:=match l with | x0::x1::x2::x3::x4::[]=>(match cE .i64 x0 with | some y0=>(match cE .i64 x1 with | some y1=>(match cE .i64 x2 with | some y2=>(match sJ x3 with | some y3=>(match mS x4 with | some y4=>(some (Act.mk y0 y1 y2 y3 y4)) | none=>none) | none=>none) | none=>none) | none=>none) | none=>none) | _=>none
def QO (x:fE):List (I TL):=[.int .i64 x.device,.int .i64 x.aB]
def Cb (l:List (I TL)):Option fE:=match l with | x0::x1::[]=>(match cE .i64 x0 with | some y0=>(match cE .i64 x1 with | some y1=>(some (fE.mk y0 y1)) | none=>none) | none=>none) | _=>none
def np (x:Int):List (I TL):=[.int .i64 x]
def xm (l:List (I TL)):Option Int:=match l with | x0::[]=>(match cE .i64 x0 with | some y0=>(some y0) | none=>none) | _=>none
def nd (x:Bool):List (I TL):=[.bool x]
def xK (l:List (I TL)):Option Bool:=match l with | x0::[]=>(match WU x0 with | some y0=>(some y0) | none=>none) | _=>none
def rp (x:List Range):List (I TL):=[.fz (.eD x)]
def vV (l:List (I TL)):Option (List Range):=match l with | x0::[]=>(match kw x0 with | some y0=>(some y0) | none=>none) | _=>none
def oF (x:ByteArray):List (I TL):=[.str x]
def yD (l:List (I TL)):Option ByteArray:=match l with | x0::[]=>(match iO x0 with | some y0=>(some y0) | none=>none) | _=>none
def qe:List (List (I TL))→Option (List bl)
 | []=>some []
 | c::r=>match qm c,qe r with | some x,some xs=>some (x::xs) | _,_=>none
def rF:List (List (I TL))→Option (List Range)
 | []=>some []
 | c::r=>match ra c,rF r with | some x,some xs=>some (x::xs) | _,_=>none
def qx:List (List (I TL))→Option (List Slice)
 | []=>some []
 | c::r=>match vm c,qx r with | some x,some xs=>some (x::xs) | _,_=>none
def sR:List (List (I TL))→Option (List Int)
 | []=>some []
 | c::r=>match xm c,sR r with | some x,some xs=>some (x::xs) | _,_=>none
def rM:List (List (I TL))→Option (List aI)
 | []=>some []
 | c::r=>match sC c,rM r with | some x,some xs=>some (x::xs) | _,_=>none
def rA:List (List (I TL))→Option (List aL)
 | []=>some []
 | c::r=>match rT c,rA r with | some x,some xs=>some (x::xs) | _,_=>none
def sQ:List (List (I TL))→Option (List dE)
 | []=>some []
 | c::r=>match xu c,sQ r with | some x,some xs=>some (x::xs) | _,_=>none
def rV:List (List (I TL))→Option (List cH)
 | []=>some []
 | c::r=>match xG c,rV r with | some x,some xs=>some (x::xs) | _,_=>none
def sP:List (List (I TL))→Option (List Sum)
 | []=>some []
 | c::r=>match xv c,sP r with | some x,some xs=>some (x::xs) | _,_=>none
def rX:List (List (I TL))→Option (List Bind)
 | []=>some []
 | c::r=>match xO c,rX r with | some x,some xs=>some (x::xs) | _,_=>none
def s8:List (List (I TL))→Option (List Op)
 | []=>some []
 | c::r=>match sm c,s8 r with | some x,some xs=>some (x::xs) | _,_=>none
def rU:List (List (I TL))→Option (List Want)
 | []=>some []
 | c::r=>match xT c,rU r with | some x,some xs=>some (x::xs) | _,_=>none
def sF:List (List (I TL))→Option (List Act)
 | []=>some []
 | c::r=>match sW c,sF r with | some x,some xs=>some (x::xs) | _,_=>none
def rc:List (List (I TL))→Option (List Bool)
 | []=>some []
 | c::r=>match xK c,rc r with | some x,some xs=>some (x::xs) | _,_=>none
def sO:List (List (I TL))→Option (List bg)
 | []=>some []
 | c::r=>match s9 c,sO r with | some x,some xs=>some (x::xs) | _,_=>none
def ql:List (List (I TL))→Option (List Device)
 | []=>some []
 | c::r=>match rI c,ql r with | some x,some xs=>some (x::xs) | _,_=>none
def qi:List (List (I TL))→Option (List (List Range))
 | []=>some []
 | c::r=>match vV c,qi r with | some x,some xs=>some (x::xs) | _,_=>none
def sI:List (List (I TL))→Option (List ByteArray)
 | []=>some []
 | c::r=>match yD c,sI r with | some x,some xs=>some (x::xs) | _,_=>none
instance:LI TL where
 kn:=false
 tO:=fun t=>Nat.beq t 38 || Nat.beq t 48 || Nat.beq t 63 || Nat.beq t 88 || Nat.beq t 303
 aH:=fun
  | .eX l=>l.map lc
  | .eD l=>l.map ly
  | .eM l=>l.map nZ
  | .eG l=>l.map np
  | .eY l=>l.map nc
  | .dq l=>l.map jN
  | .eu l=>l.map nq
  | .eg l=>l.map nj
  | .eo l=>l.map nv
  | .ee l=>l.map nk
  | .eB l=>l.map kU
  | .eN l=>l.map mJ
  | .eU l=>l.map mO
  | .gK l=>l.map nd
  | .gQ l=>l.map nu
  | .fZ l=>l.map nS
  | .gI l=>l.map rp
  | .gP l=>l.map oF
 sz:=fun
  | .eX _=>7
  | .eD _=>2
  | .eM _=>5
  | .eG _=>1
  | .eY _=>7
  | .dq _=>3
  | .eu _=>7
  | .eg _=>6
  | .eo _=>2
  | .ee _=>6
  | .eB _=>11
  | .eN _=>4
  | .eU _=>5
  | .gK _=>1
  | .gQ _=>7
  | .fZ _=>11
  | .gI _=>1
  | .gP _=>1
 len:=fun
  | .eX l=>l.length
  | .eD l=>l.length
  | .eM l=>l.length
  | .eG l=>l.length
  | .eY l=>l.length
  | .dq l=>l.length
  | .eu l=>l.length
  | .eg l=>l.length
  | .eo l=>l.length
  | .ee l=>l.length
  | .eB l=>l.length
  | .eN l=>l.length
  | .eU l=>l.length
  | .gK l=>l.length
  | .gQ l=>l.length
  | .fZ l=>l.length
  | .gI l=>l.length
  | .gP l=>l.length
 idx:=fun x i k=>match x with
  | .eX l=>ob l[i]? fun x=>k (lc x)
  | .eD l=>ob l[i]? fun x=>k (ly x)
  | .eM l=>ob l[i]? fun x=>k (nZ x)
  | .eG l=>ob l[i]? fun x=>k (np x)
  | .eY l=>ob l[i]? fun x=>k (nc x)
  | .dq l=>ob l[i]? fun x=>k (jN x)
  | .eu l=>ob l[i]? fun x=>k (nq x)
  | .eg l=>ob l[i]? fun x=>k (nj x)
  | .eo l=>ob l[i]? fun x=>k (nv x)
  | .ee l=>ob l[i]? fun x=>k (nk x)
  | .eB l=>ob l[i]? fun x=>k (kU x)
  | .eN l=>ob l[i]? fun x=>k (mJ x)
  | .eU l=>ob l[i]? fun x=>k (mO x)
  | .gK l=>ob l[i]? fun x=>k (nd x)
  | .gQ l=>ob l[i]? fun x=>k (nu x)
  | .fZ l=>ob l[i]? fun x=>k (nS x)
  | .gI l=>ob l[i]? fun x=>k (rp x)
  | .gP l=>ob l[i]? fun x=>k (oF x)
 dp:=fun t cs=>match t with
  | 65=>match qe cs with | some l=>some (.eX l) | none=>none
  | 153=>match rF cs with | some l=>some (.eD l) | none=>none
  | 133=>match qx cs with | some l=>some (.eM l) | none=>none
  | 3=>match sR cs with | some l=>some (.eG l) | none=>none
  | 43=>match rM cs with | some l=>some (.eY l) | none=>none
  | 59 | 66=>match rA cs with | some l=>some (.dq l) | none=>none
  | 142=>match sQ cs with | some l=>some (.eu l) | none=>none
  | 145=>match rV cs with | some l=>some (.eg l) | none=>none
  | 129=>match sP cs with | some l=>some (.eo l) | none=>none
  | 149=>match rX cs with | some l=>some (.ee l) | none=>none
  | 61=>match s8 cs with | some l=>some (.eB l) | none=>none
  | 105=>match rU cs with | some l=>some (.eN l) | none=>none
  | 80=>match sF cs with | some l=>some (.eU l) | none=>none
  | 4=>match rc cs with | some l=>some (.gK l) | none=>none
  | 56=>match sO cs with | some l=>some (.gQ l) | none=>none
  | 47=>match ql cs with | some l=>some (.fZ l) | none=>none
  | 25=>match qi cs with | some l=>some (.gI l) | none=>none
  | 9=>match sI cs with | some l=>some (.gP l) | none=>none
  | _=>none
 bytes:=fun
  | _=>none
 ofStr:=fun _ _=>none
 eV:=fun x y=>match x,y with
  | .eX a,.eX b=>some (.eX (a++b))
  | .eD a,.eD b=>some (.eD (a++b))
  | .eM a,.eM b=>some (.eM (a++b))
  | .eG a,.eG b=>some (.eG (a++b))
  | .eY a,.eY b=>some (.eY (a++b))
  | .dq a,.dq b=>some (.dq (a++b))
  | .eu a,.eu b=>some (.eu (a++b))
  | .eg a,.eg b=>some (.eg (a++b))
  | .eo a,.eo b=>some (.eo (a++b))
  | .ee a,.ee b=>some (.ee (a++b))
  | .eB a,.eB b=>some (.eB (a++b))
  | .eN a,.eN b=>some (.eN (a++b))
  | .eU a,.eU b=>some (.eU (a++b))
  | .gK a,.gK b=>some (.gK (a++b))
  | .gQ a,.gQ b=>some (.gQ (a++b))
  | .fZ a,.fZ b=>some (.fZ (a++b))
  | .gI a,.gI b=>some (.gI (a++b))
  | .gP a,.gP b=>some (.gP (a++b))
  | _,_=>none
 sub:=fun x lo hi=>match x with
  | .eX l=>.eX ((l.take hi).drop lo)
  | .eD l=>.eD ((l.take hi).drop lo)
  | .eM l=>.eM ((l.take hi).drop lo)
  | .eG l=>.eG ((l.take hi).drop lo)
  | .eY l=>.eY ((l.take hi).drop lo)
  | .dq l=>.dq ((l.take hi).drop lo)
  | .eu l=>.eu ((l.take hi).drop lo)
  | .eg l=>.eg ((l.take hi).drop lo)
  | .eo l=>.eo ((l.take hi).drop lo)
  | .ee l=>.ee ((l.take hi).drop lo)
  | .eB l=>.eB ((l.take hi).drop lo)
  | .eN l=>.eN ((l.take hi).drop lo)
  | .eU l=>.eU ((l.take hi).drop lo)
  | .gK l=>.gK ((l.take hi).drop lo)
  | .gQ l=>.gQ ((l.take hi).drop lo)
  | .fZ l=>.fZ ((l.take hi).drop lo)
  | .gI l=>.gI ((l.take hi).drop lo)
  | .gP l=>.gP ((l.take hi).drop lo)
 set:=fun x i cs=>match x with
  | .eX l=>match qm cs with | some y=>some (.eX (l.set i y)) | none=>none
  | .eD l=>match ra cs with | some y=>some (.eD (l.set i y)) | none=>none
  | .eM l=>match vm cs with | some y=>some (.eM (l.set i y)) | none=>none
  | .eG l=>match xm cs with | some y=>some (.eG (l.set i y)) | none=>none
  | .eY l=>match sC cs with | some y=>some (.eY (l.set i y)) | none=>none
  | .dq l=>match rT cs with | some y=>some (.dq (l.set i y)) | none=>none
  | .eu l=>match xu cs with | some y=>some (.eu (l.set i y)) | none=>none
  | .eg l=>match xG cs with | some y=>some (.eg (l.set i y)) | none=>none
  | .eo l=>match xv cs with | some y=>some (.eo (l.set i y)) | none=>none
  | .ee l=>match xO cs with | some y=>some (.ee (l.set i y)) | none=>none
  | .eB l=>match sm cs with | some y=>some (.eB (l.set i y)) | none=>none
  | .eN l=>match xT cs with | some y=>some (.eN (l.set i y)) | none=>none
  | .eU l=>match sW cs with | some y=>some (.eU (l.set i y)) | none=>none
  | .gK l=>match xK cs with | some y=>some (.gK (l.set i y)) | none=>none
  | .gQ l=>match s9 cs with | some y=>some (.gQ (l.set i y)) | none=>none
  | .fZ l=>match rI cs with | some y=>some (.fZ (l.set i y)) | none=>none
  | .gI l=>match vV cs with | some y=>some (.gI (l.set i y)) | none=>none
  | .gP l=>match yD cs with | some y=>some (.gP (l.set i y)) | none=>none
 cG:=fun t n=>match t with
  | 65=>some (.eX (List.replicate n (bl.mk ⟨#[]⟩ 0 0 0 0 0 0)))
  | 153=>some (.eD (List.replicate n (Range.mk 0 0)))
  | 133=>some (.eM (List.replicate n (Slice.mk ⟨#[]⟩ 0 0 0 0)))
  | 3=>some (.eG (List.replicate n 0))
  | 43=>some (.eY (List.replicate n (aI.mk 0 0 0 0 [] [] [])))
  | 59 | 66=>some (.dq (List.replicate n (aL.mk 0 0 0)))
  | 142=>some (.eu (List.replicate n (dE.mk ⟨#[]⟩ ⟨#[]⟩ 0 0 (aL.mk 0 0 0))))
  | 145=>some (.eg (List.replicate n (cH.mk ⟨#[]⟩ ⟨#[]⟩ 0 (aL.mk 0 0 0))))
  | 129=>some (.eo (List.replicate n (Sum.mk ⟨#[]⟩ 0)))
  | 149=>some (.ee (List.replicate n (Bind.mk 0 ⟨#[]⟩ 0 (aL.mk 0 0 0))))
  | 61=>some (.eB (List.replicate n (Op.mk (aL.mk 0 0 0) 0 0 0 ⟨#[]⟩ ⟨#[]⟩ 0 0 [])))
  | 105=>some (.eN (List.replicate n (Want.mk ⟨#[]⟩ 0 0 0)))
  | 80=>some (.eU (List.replicate n (Act.mk 0 0 0 [] [])))
  | 4=>some (.gK (List.replicate n false))
  | 56=>some (.gQ (List.replicate n (bg.mk 0 0 0 0 0 [] [])))
  | 47=>some (.fZ (List.replicate n (Device.mk 0 0 (aO.mk 0 0 (aI.mk 0 0 0 0 [] [] [])))))
  | 25=>some (.gI (List.replicate n []))
  | 9=>some (.gP (List.replicate n ⟨#[]⟩))
  | _=>none
 gy:=fun c x y=>match x,y with
  | .eX a,.eX b=>some (.eX (cond c a b))
  | .eD a,.eD b=>some (.eD (cond c a b))
  | .eM a,.eM b=>some (.eM (cond c a b))
  | .eG a,.eG b=>some (.eG (cond c a b))
  | .eY a,.eY b=>some (.eY (cond c a b))
  | .dq a,.dq b=>some (.dq (cond c a b))
  | .eu a,.eu b=>some (.eu (cond c a b))
  | .eg a,.eg b=>some (.eg (cond c a b))
  | .eo a,.eo b=>some (.eo (cond c a b))
  | .ee a,.ee b=>some (.ee (cond c a b))
  | .eB a,.eB b=>some (.eB (cond c a b))
  | .eN a,.eN b=>some (.eN (cond c a b))
  | .eU a,.eU b=>some (.eU (cond c a b))
  | .gK a,.gK b=>some (.gK (cond c a b))
  | .gQ a,.gQ b=>some (.gQ (cond c a b))
  | .fZ a,.fZ b=>some (.fZ (cond c a b))
  | .gI a,.gI b=>some (.gI (cond c a b))
  | .gP a,.gP b=>some (.gP (cond c a b))
  | _,_=>none
 flat:=fun
  | .eX _=>true
  | .eD _=>true
  | .eM _=>true
  | .eG _=>true
  | .eY _=>false
  | .dq _=>true
  | .eu _=>true
  | .eg _=>true
  | .eo _=>true
  | .ee _=>true
  | .eB _=>false
  | .eN _=>true
  | .eU _=>false
  | .gK _=>true
  | .gQ _=>false
  | .fZ _=>false
  | .gI _=>false
  | .gP _=>true
theorem cF {k:IntKind}{x:I TL}{n:Int}(h:cE k x=some n):Le x (.int k n):=(DI.int (L:=TL) k).ok _ _ (by cases x<;>exact h)
theorem aHg {x:I TL}{b:Bool}(h:WU x=some b):Le x (.bool b):=(DI.bool (L:=TL)).ok _ _ (by cases x<;>exact h)
theorem iv {x:I TL}{s:ByteArray}(h:iO x=some s):Le x (.str s):=by
 unfold iO at h
 split at h
 ·cases h;exact fun _ _ hv=>hv
 ·cases h
theorem Gu {x:I TL}{l:List bl}(h:uT x=some l):Le x (.fz (.eX l)):=by
 unfold uT at h
 split at h
 ·cases h;exact fun _ _ hv=>hv
 ·cases h
  intro G v hv
  cases hv
  exact .fz (k:=0) (o:=0) (vals:=fun _ _=>undef) rfl (Nat.le_refl _) (fun h=>absurd h (Nat.lt_irrefl _)) (fun i j cs x h=>by simp [LI.aH] at h) (fun i j cs x h=>by simp [LI.aH] at h)
 ·cases h
theorem mq {x:I TL}{l:List Range}(h:kw x=some l):Le x (.fz (.eD l)):=by
 unfold kw at h
 split at h
 ·cases h;exact fun _ _ hv=>hv
 ·cases h
  intro G v hv
  cases hv
  exact .fz (k:=0) (o:=0) (vals:=fun _ _=>undef) rfl (Nat.le_refl _) (fun h=>absurd h (Nat.lt_irrefl _)) (fun i j cs x h=>by simp [LI.aH] at h) (fun i j cs x h=>by simp [LI.aH] at h)
 ·cases h
theorem uF {x:I TL}{l:List Slice}(h:nI x=some l):Le x (.fz (.eM l)):=by
 unfold nI at h
 split at h
 ·cases h;exact fun _ _ hv=>hv
 ·cases h
  intro G v hv
  cases hv
  exact .fz (k:=0) (o:=0) (vals:=fun _ _=>undef) rfl (Nat.le_refl _) (fun h=>absurd h (Nat.lt_irrefl _)) (fun i j cs x h=>by simp [LI.aH] at h) (fun i j cs x h=>by simp [LI.aH] at h)
 ·cases h
theorem qo {x:I TL}{l:List Int}(h:mG x=some l):Le x (.fz (.eG l)):=by
 unfold mG at h
 split at h
 ·cases h;exact fun _ _ hv=>hv
 ·cases h
  intro G v hv
  cases hv
  exact .fz (k:=0) (o:=0) (vals:=fun _ _=>undef) rfl (Nat.le_refl _) (fun h=>absurd h (Nat.lt_irrefl _)) (fun i j cs x h=>by simp [LI.aH] at h) (fun i j cs x h=>by simp [LI.aH] at h)
 ·cases h
theorem IN {x:I TL}{l:List aI}(h:wZ x=some l):Le x (.fz (.eY l)):=by
 unfold wZ at h
 split at h
 ·cases h;exact fun _ _ hv=>hv
 ·cases h
  intro G v hv
  cases hv
  exact .fz (k:=0) (o:=0) (vals:=fun _ _=>undef) rfl (Nat.le_refl _) (fun h=>absurd h (Nat.lt_irrefl _)) (fun i j cs x h=>by simp [LI.aH] at h) (fun i j cs x h=>by simp [LI.aH] at h)
 ·cases h
theorem tz {x:I TL}{l:List aL}(h:ku x=some l):Le x (.fz (.dq l)):=by
 unfold ku at h
 split at h
 ·cases h;exact fun _ _ hv=>hv
 ·cases h
  intro G v hv
  cases hv
  exact .fz (k:=0) (o:=0) (vals:=fun _ _=>undef) rfl (Nat.le_refl _) (fun h=>absurd h (Nat.lt_irrefl _)) (fun i j cs x h=>by simp [LI.aH] at h) (fun i j cs x h=>by simp [LI.aH] at h)
 ·cases h
theorem Ln {x:I TL}{l:List dE}(h:xp x=some l):Le x (.fz (.eu l)):=by
 unfold xp at h
 split at h
 ·cases h;exact fun _ _ hv=>hv
 ·cases h
  intro G v hv
  cases hv
  exact .fz (k:=0) (o:=0) (vals:=fun _ _=>undef) rfl (Nat.le_refl _) (fun h=>absurd h (Nat.lt_irrefl _)) (fun i j cs x h=>by simp [LI.aH] at h) (fun i j cs x h=>by simp [LI.aH] at h)
 ·cases h
theorem Jn {x:I TL}{l:List cH}(h:xL x=some l):Le x (.fz (.eg l)):=by
 unfold xL at h
 split at h
 ·cases h;exact fun _ _ hv=>hv
 ·cases h
  intro G v hv
  cases hv
  exact .fz (k:=0) (o:=0) (vals:=fun _ _=>undef) rfl (Nat.le_refl _) (fun h=>absurd h (Nat.lt_irrefl _)) (fun i j cs x h=>by simp [LI.aH] at h) (fun i j cs x h=>by simp [LI.aH] at h)
 ·cases h
theorem LL {x:I TL}{l:List Sum}(h:xl x=some l):Le x (.fz (.eo l)):=by
 unfold xl at h
 split at h
 ·cases h;exact fun _ _ hv=>hv
 ·cases h
  intro G v hv
  cases hv
  exact .fz (k:=0) (o:=0) (vals:=fun _ _=>undef) rfl (Nat.le_refl _) (fun h=>absurd h (Nat.lt_irrefl _)) (fun i j cs x h=>by simp [LI.aH] at h) (fun i j cs x h=>by simp [LI.aH] at h)
 ·cases h
theorem K1 {x:I TL}{l:List Bind}(h:xV x=some l):Le x (.fz (.ee l)):=by
 unfold xV at h
 split at h
 ·cases h;exact fun _ _ hv=>hv
 ·cases h
  intro G v hv
  cases hv
  exact .fz (k:=0) (o:=0) (vals:=fun _ _=>undef) rfl (Nat.le_refl _) (fun h=>absurd h (Nat.lt_irrefl _)) (fun i j cs x h=>by simp [LI.aH] at h) (fun i j cs x h=>by simp [LI.aH] at h)
 ·cases h
theorem Bk {x:I TL}{l:List Op}(h:mS x=some l):Le x (.fz (.eB l)):=by
 unfold mS at h
 split at h
 ·cases h;exact fun _ _ hv=>hv
 ·cases h
  intro G v hv
  cases hv
  exact .fz (k:=0) (o:=0) (vals:=fun _ _=>undef) rfl (Nat.le_refl _) (fun h=>absurd h (Nat.lt_irrefl _)) (fun i j cs x h=>by simp [LI.aH] at h) (fun i j cs x h=>by simp [LI.aH] at h)
 ·cases h
theorem An {x:I TL}{l:List Want}(h:sJ x=some l):Le x (.fz (.eN l)):=by
 unfold sJ at h
 split at h
 ·cases h;exact fun _ _ hv=>hv
 ·cases h
  intro G v hv
  cases hv
  exact .fz (k:=0) (o:=0) (vals:=fun _ _=>undef) rfl (Nat.le_refl _) (fun h=>absurd h (Nat.lt_irrefl _)) (fun i j cs x h=>by simp [LI.aH] at h) (fun i j cs x h=>by simp [LI.aH] at h)
 ·cases h
theorem aDC {x:I TL}{l:List Act}(h:D1 x=some l):Le x (.fz (.eU l)):=by
 unfold D1 at h
 split at h
 ·cases h;exact fun _ _ hv=>hv
 ·cases h
  intro G v hv
  cases hv
  exact .fz (k:=0) (o:=0) (vals:=fun _ _=>undef) rfl (Nat.le_refl _) (fun h=>absurd h (Nat.lt_irrefl _)) (fun i j cs x h=>by simp [LI.aH] at h) (fun i j cs x h=>by simp [LI.aH] at h)
 ·cases h
theorem zT {l:List (I TL)}{x:bl}(h:qm l=some x):aQ Le l (lc x):=by
 unfold qm at h
 split at h
 ·split at h
  ·rename_i y0 h0
   split at h
   ·rename_i y1 h1
    split at h
    ·rename_i y2 h2
     split at h
     ·rename_i y3 h3
      split at h
      ·rename_i y4 h4
       split at h
       ·rename_i y5 h5
        split at h
        ·rename_i y6 h6
         cases h
         exact .cons (iv h0) (.cons (cF h1) (.cons (cF h2) (.cons (cF h3) (.cons (cF h4) (.cons (cF h5) (.cons (cF h6) (.nil)))))))
        ·cases h
       ·cases h
      ·cases h
     ·cases h
    ·cases h
   ·cases h
  ·cases h
 ·cases h
theorem zh {l:List (I TL)}{x:Range}(h:ra l=some x):aQ Le l (ly x):=by
 unfold ra at h
 split at h
 ·split at h
  ·rename_i y0 h0
   split at h
   ·rename_i y1 h1
    cases h
    exact .cons (cF h0) (.cons (cF h1) (.nil))
   ·cases h
  ·cases h
 ·cases h
theorem Ik {l:List (I TL)}{x:Slice}(h:vm l=some x):aQ Le l (nZ x):=by
 unfold vm at h
 split at h
 ·split at h
  ·rename_i y0 h0
   split at h
   ·rename_i y1 h1
    split at h
    ·rename_i y2 h2
     split at h
     ·rename_i y3 h3
      split at h
      ·rename_i y4 h4
       cases h
       exact .cons (iv h0) (.cons (cF h1) (.cons (cF h2) (.cons (cF h3) (.cons (cF h4) (.nil)))))
      ·cases h
     ·cases h
    ·cases h
   ·cases h
  ·cases h
 ·cases h
theorem zj {l:List (I TL)}{x:aI}(h:sC l=some x):aQ Le l (nc x):=by
 unfold sC at h
 split at h
 ·split at h
  ·rename_i y0 h0
   split at h
   ·rename_i y1 h1
    split at h
    ·rename_i y2 h2
     split at h
     ·rename_i y3 h3
      split at h
      ·rename_i y4 h4
       split at h
       ·rename_i y5 h5
        split at h
        ·rename_i y6 h6
         cases h
         exact .cons (cF h0) (.cons (cF h1) (.cons (cF h2) (.cons (cF h3) (.cons (uF h4) (.cons (mq h5) (.cons (qo h6) (.nil)))))))
        ·cases h
       ·cases h
      ·cases h
     ·cases h
    ·cases h
   ·cases h
  ·cases h
 ·cases h
theorem aAo {l:List (I TL)}{x:aG}(h:DL l=some x):aQ Le l (Pv x):=by
 unfold DL at h
 split at h
 ·split at h
  ·rename_i y0 h0
   split at h
   ·rename_i y1 h1
    split at h
    ·rename_i y2 h2
     split at h
     ·rename_i y3 h3
      cases h
      exact .cons (Gu h0) (.cons (mq h1) (.cons (IN h2) (.cons (qo h3) (.nil))))
     ·cases h
    ·cases h
   ·cases h
  ·cases h
 ·cases h
theorem AK {l:List (I TL)}{x:aL}(h:rT l=some x):aQ Le l (jN x):=by
 unfold rT at h
 split at h
 ·split at h
  ·rename_i y0 h0
   split at h
   ·rename_i y1 h1
    split at h
    ·rename_i y2 h2
     cases h
     exact .cons (cF h0) (.cons (cF h1) (.cons (cF h2) (.nil)))
    ·cases h
   ·cases h
  ·cases h
 ·cases h
theorem Kw {l:List (I TL)}{x:dE}(h:xu l=some x):aQ Le l (nq x):=by
 unfold xu at h
 split at h
 ·split at h
  ·rename_i y0 h0
   split at h
   ·rename_i y1 h1
    split at h
    ·rename_i y2 h2
     split at h
     ·rename_i y3 h3
      split at h
      ·rename_i y4 h4
       split at h
       ·rename_i y5 h5
        split at h
        ·rename_i y6 h6
         cases h
         exact .cons (iv h0) (.cons (iv h1) (.cons (cF h2) (.cons (cF h3) (.cons (cF h4) (.cons (cF h5) (.cons (cF h6) (.nil)))))))
        ·cases h
       ·cases h
      ·cases h
     ·cases h
    ·cases h
   ·cases h
  ·cases h
 ·cases h
theorem JK {l:List (I TL)}{x:cH}(h:xG l=some x):aQ Le l (nj x):=by
 unfold xG at h
 split at h
 ·split at h
  ·rename_i y0 h0
   split at h
   ·rename_i y1 h1
    split at h
    ·rename_i y2 h2
     split at h
     ·rename_i y3 h3
      split at h
      ·rename_i y4 h4
       split at h
       ·rename_i y5 h5
        cases h
        exact .cons (iv h0) (.cons (iv h1) (.cons (cF h2) (.cons (cF h3) (.cons (cF h4) (.cons (cF h5) (.nil))))))
       ·cases h
      ·cases h
     ·cases h
    ·cases h
   ·cases h
  ·cases h
 ·cases h
theorem L8 {l:List (I TL)}{x:Sum}(h:xv l=some x):aQ Le l (nv x):=by
 unfold xv at h
 split at h
 ·split at h
  ·rename_i y0 h0
   split at h
   ·rename_i y1 h1
    cases h
    exact .cons (iv h0) (.cons (cF h1) (.nil))
   ·cases h
  ·cases h
 ·cases h
theorem KN {l:List (I TL)}{x:Bind}(h:xO l=some x):aQ Le l (nk x):=by
 unfold xO at h
 split at h
 ·split at h
  ·rename_i y0 h0
   split at h
   ·rename_i y1 h1
    split at h
    ·rename_i y2 h2
     split at h
     ·rename_i y3 h3
      split at h
      ·rename_i y4 h4
       split at h
       ·rename_i y5 h5
        cases h
        exact .cons (cF h0) (.cons (iv h1) (.cons (cF h2) (.cons (cF h3) (.cons (cF h4) (.cons (cF h5) (.nil))))))
       ·cases h
      ·cases h
     ·cases h
    ·cases h
   ·cases h
  ·cases h
 ·cases h
theorem aAf {l:List (I TL)}{x:ah}(h:DN l=some x):aQ Le l (Pt x):=by
 unfold DN at h
 split at h
 ·split at h
  ·rename_i y0 h0
   split at h
   ·rename_i y1 h1
    split at h
    ·rename_i y2 h2
     split at h
     ·rename_i y3 h3
      split at h
      ·rename_i y4 h4
       split at h
       ·rename_i y5 h5
        cases h
        exact .cons (tz h0) (.cons (Ln h1) (.cons (Jn h2) (.cons (tz h3) (.cons (LL h4) (.cons (K1 h5) (.nil))))))
       ·cases h
      ·cases h
     ·cases h
    ·cases h
   ·cases h
  ·cases h
 ·cases h
theorem By {l:List (I TL)}{x:Op}(h:sm l=some x):aQ Le l (kU x):=by
 unfold sm at h
 split at h
 ·split at h
  ·rename_i y0 h0
   split at h
   ·rename_i y1 h1
    split at h
    ·rename_i y2 h2
     split at h
     ·rename_i y3 h3
      split at h
      ·rename_i y4 h4
       split at h
       ·rename_i y5 h5
        split at h
        ·rename_i y6 h6
         split at h
         ·rename_i y7 h7
          split at h
          ·rename_i y8 h8
           split at h
           ·rename_i y9 h9
            split at h
            ·rename_i y10 h10
             cases h
             exact .cons (cF h0) (.cons (cF h1) (.cons (cF h2) (.cons (cF h3) (.cons (cF h4) (.cons (cF h5) (.cons (iv h6) (.cons (iv h7) (.cons (cF h8) (.cons (cF h9) (.cons (tz h10) (.nil)))))))))))
            ·cases h
           ·cases h
          ·cases h
         ·cases h
        ·cases h
       ·cases h
      ·cases h
     ·cases h
    ·cases h
   ·cases h
  ·cases h
 ·cases h
theorem ZY {l:List (I TL)}{x:aO}(h:CG l=some x):aQ Le l (Od x):=by
 unfold CG at h
 split at h
 ·split at h
  ·rename_i y0 h0
   split at h
   ·rename_i y1 h1
    split at h
    ·rename_i y2 h2
     split at h
     ·rename_i y3 h3
      split at h
      ·rename_i y4 h4
       split at h
       ·rename_i y5 h5
        split at h
        ·rename_i y6 h6
         split at h
         ·rename_i y7 h7
          split at h
          ·rename_i y8 h8
           cases h
           exact .cons (cF h0) (.cons (cF h1) (.cons (cF h2) (.cons (cF h3) (.cons (cF h4) (.cons (cF h5) (.cons (uF h6) (.cons (mq h7) (.cons (qo h8) (.nil)))))))))
          ·cases h
         ·cases h
        ·cases h
       ·cases h
      ·cases h
     ·cases h
    ·cases h
   ·cases h
  ·cases h
 ·cases h
theorem ze {l:List (I TL)}{x:Device}(h:rI l=some x):aQ Le l (nS x):=by
 unfold rI at h
 split at h
 ·split at h
  ·rename_i y0 h0
   split at h
   ·rename_i y1 h1
    split at h
    ·rename_i y2 h2
     split at h
     ·rename_i y3 h3
      split at h
      ·rename_i y4 h4
       split at h
       ·rename_i y5 h5
        split at h
        ·rename_i y6 h6
         split at h
         ·rename_i y7 h7
          split at h
          ·rename_i y8 h8
           split at h
           ·rename_i y9 h9
            split at h
            ·rename_i y10 h10
             cases h
             exact .cons (cF h0) (.cons (cF h1) (.cons (cF h2) (.cons (cF h3) (.cons (cF h4) (.cons (cF h5) (.cons (cF h6) (.cons (cF h7) (.cons (uF h8) (.cons (mq h9) (.cons (qo h10) (.nil)))))))))))
            ·cases h
           ·cases h
          ·cases h
         ·cases h
        ·cases h
       ·cases h
      ·cases h
     ·cases h
    ·cases h
   ·cases h
  ·cases h
 ·cases h
theorem JL {l:List (I TL)}{x:Want}(h:xT l=some x):aQ Le l (mJ x):=by
 unfold xT at h
 split at h
 ·split at h
  ·rename_i y0 h0
   split at h
   ·rename_i y1 h1
    split at h
    ·rename_i y2 h2
     split at h
     ·rename_i y3 h3
      cases h
      exact .cons (iv h0) (.cons (cF h1) (.cons (cF h2) (.cons (cF h3) (.nil))))
     ·cases h
    ·cases h
   ·cases h
  ·cases h
 ·cases h
theorem Ax {l:List (I TL)}{x:bg}(h:s9 l=some x):aQ Le l (nu x):=by
 unfold s9 at h
 split at h
 ·split at h
  ·rename_i y0 h0
   split at h
   ·rename_i y1 h1
    split at h
    ·rename_i y2 h2
     split at h
     ·rename_i y3 h3
      split at h
      ·rename_i y4 h4
       split at h
       ·rename_i y5 h5
        split at h
        ·rename_i y6 h6
         cases h
         exact .cons (cF h0) (.cons (cF h1) (.cons (cF h2) (.cons (cF h3) (.cons (cF h4) (.cons (An h5) (.cons (Bk h6) (.nil)))))))
        ·cases h
       ·cases h
      ·cases h
     ·cases h
    ·cases h
   ·cases h
  ·cases h
 ·cases h
theorem BP {l:List (I TL)}{x:Act}(h:sW l=some x):aQ Le l (mO x):=by
 unfold sW at h
 split at h
 ·split at h
  ·rename_i y0 h0
   split at h
   ·rename_i y1 h1
    split at h
    ·rename_i y2 h2
     split at h
     ·rename_i y3 h3
      split at h
      ·rename_i y4 h4
       cases h
       exact .cons (cF h0) (.cons (cF h1) (.cons (cF h2) (.cons (An h3) (.cons (Bk h4) (.nil)))))
      ·cases h
     ·cases h
    ·cases h
   ·cases h
  ·cases h
 ·cases h
theorem aBC {l:List (I TL)}{x:fE}(h:Cb l=some x):aQ Le l (QO x):=by
 unfold Cb at h
 split at h
 ·split at h
  ·rename_i y0 h0
   split at h
   ·rename_i y1 h1
    cases h
    exact .cons (cF h0) (.cons (cF h1) (.nil))
   ·cases h
  ·cases h
 ·cases h
theorem Ku {l:List (I TL)}{x:Int}(h:xm l=some x):aQ Le l (np x):=by
 unfold xm at h
 split at h
 ·split at h
  ·rename_i y0 h0
   cases h
   exact .cons (cF h0) (.nil)
  ·cases h
 ·cases h
theorem J8 {l:List (I TL)}{x:Bool}(h:xK l=some x):aQ Le l (nd x):=by
 unfold xK at h
 split at h
 ·split at h
  ·rename_i y0 h0
   cases h
   exact .cons (aHg h0) (.nil)
  ·cases h
 ·cases h
theorem Hj {l:List (I TL)}{x:List Range}(h:vV l=some x):aQ Le l (rp x):=by
 unfold vV at h
 split at h
 ·split at h
  ·rename_i y0 h0
   cases h
   exact .cons (mq h0) (.nil)
  ·cases h
 ·cases h
theorem LM {l:List (I TL)}{x:ByteArray}(h:yD l=some x):aQ Le l (oF x):=by
 unfold yD at h
 split at h
 ·split at h
  ·rename_i y0 h0
   cases h
   exact .cons (iv h0) (.nil)
  ·cases h
 ·cases h
theorem Gb:∀ {css:List (List (I TL))} {l:List bl},qe css=some l→aQ (aQ Le) css (l.map lc)
 | [],l,h=>by simp [qe] at h;subst h;exact .nil
 | c::r,l,h=>by
  simp only [qe] at h
  split at h
  ·rename_i x xs hx bN
   cases h
   exact .cons (zT hx) (Gb bN)
  ·cases h
theorem HB:∀ {css:List (List (I TL))} {l:List Range},rF css=some l→aQ (aQ Le) css (l.map ly)
 | [],l,h=>by simp [rF] at h;subst h;exact .nil
 | c::r,l,h=>by
  simp only [rF] at h
  split at h
  ·rename_i x xs hx bN
   cases h
   exact .cons (zh hx) (HB bN)
  ·cases h
theorem Hw:∀ {css:List (List (I TL))} {l:List Slice},qx css=some l→aQ (aQ Le) css (l.map nZ)
 | [],l,h=>by simp [qx] at h;subst h;exact .nil
 | c::r,l,h=>by
  simp only [qx] at h
  split at h
  ·rename_i x xs hx bN
   cases h
   exact .cons (Ik hx) (Hw bN)
  ·cases h
theorem KL:∀ {css:List (List (I TL))} {l:List Int},sR css=some l→aQ (aQ Le) css (l.map np)
 | [],l,h=>by simp [sR] at h;subst h;exact .nil
 | c::r,l,h=>by
  simp only [sR] at h
  split at h
  ·rename_i x xs hx bN
   cases h
   exact .cons (Ku hx) (KL bN)
  ·cases h
theorem HT:∀ {css:List (List (I TL))} {l:List aI},rM css=some l→aQ (aQ Le) css (l.map nc)
 | [],l,h=>by simp [rM] at h;subst h;exact .nil
 | c::r,l,h=>by
  simp only [rM] at h
  split at h
  ·rename_i x xs hx bN
   cases h
   exact .cons (zj hx) (HT bN)
  ·cases h
theorem zU:∀ {css:List (List (I TL))} {l:List aL},rA css=some l→aQ (aQ Le) css (l.map jN)
 | [],l,h=>by simp [rA] at h;subst h;exact .nil
 | c::r,l,h=>by
  simp only [rA] at h
  split at h
  ·rename_i x xs hx bN
   cases h
   exact .cons (AK hx) (zU bN)
  ·cases h
theorem JY:∀ {css:List (List (I TL))} {l:List dE},sQ css=some l→aQ (aQ Le) css (l.map nq)
 | [],l,h=>by simp [sQ] at h;subst h;exact .nil
 | c::r,l,h=>by
  simp only [sQ] at h
  split at h
  ·rename_i x xs hx bN
   cases h
   exact .cons (Kw hx) (JY bN)
  ·cases h
theorem ID:∀ {css:List (List (I TL))} {l:List cH},rV css=some l→aQ (aQ Le) css (l.map nj)
 | [],l,h=>by simp [rV] at h;subst h;exact .nil
 | c::r,l,h=>by
  simp only [rV] at h
  split at h
  ·rename_i x xs hx bN
   cases h
   exact .cons (JK hx) (ID bN)
  ·cases h
theorem K4:∀ {css:List (List (I TL))} {l:List Sum},sP css=some l→aQ (aQ Le) css (l.map nv)
 | [],l,h=>by simp [sP] at h;subst h;exact .nil
 | c::r,l,h=>by
  simp only [sP] at h
  split at h
  ·rename_i x xs hx bN
   cases h
   exact .cons (L8 hx) (K4 bN)
  ·cases h
theorem IQ:∀ {css:List (List (I TL))} {l:List Bind},rX css=some l→aQ (aQ Le) css (l.map nk)
 | [],l,h=>by simp [rX] at h;subst h;exact .nil
 | c::r,l,h=>by
  simp only [rX] at h
  split at h
  ·rename_i x xs hx bN
   cases h
   exact .cons (KN hx) (IQ bN)
  ·cases h
theorem Lr:∀ {css:List (List (I TL))} {l:List Op},s8 css=some l→aQ (aQ Le) css (l.map kU)
 | [],l,h=>by simp [s8] at h;subst h;exact .nil
 | c::r,l,h=>by
  simp only [s8] at h
  split at h
  ·rename_i x xs hx bN
   cases h
   exact .cons (By hx) (Lr bN)
  ·cases h
theorem IR:∀ {css:List (List (I TL))} {l:List Want},rU css=some l→aQ (aQ Le) css (l.map mJ)
 | [],l,h=>by simp [rU] at h;subst h;exact .nil
 | c::r,l,h=>by
  simp only [rU] at h
  split at h
  ·rename_i x xs hx bN
   cases h
   exact .cons (JL hx) (IR bN)
  ·cases h
theorem JO:∀ {css:List (List (I TL))} {l:List Act},sF css=some l→aQ (aQ Le) css (l.map mO)
 | [],l,h=>by simp [sF] at h;subst h;exact .nil
 | c::r,l,h=>by
  simp only [sF] at h
  split at h
  ·rename_i x xs hx bN
   cases h
   exact .cons (BP hx) (JO bN)
  ·cases h
theorem Iv:∀ {css:List (List (I TL))} {l:List Bool},rc css=some l→aQ (aQ Le) css (l.map nd)
 | [],l,h=>by simp [rc] at h;subst h;exact .nil
 | c::r,l,h=>by
  simp only [rc] at h
  split at h
  ·rename_i x xs hx bN
   cases h
   exact .cons (J8 hx) (Iv bN)
  ·cases h
theorem Je:∀ {css:List (List (I TL))} {l:List bg},sO css=some l→aQ (aQ Le) css (l.map nu)
 | [],l,h=>by simp [sO] at h;subst h;exact .nil
 | c::r,l,h=>by
  simp only [sO] at h
  split at h
  ·rename_i x xs hx bN
   cases h
   exact .cons (Ax hx) (Je bN)
  ·cases h
theorem Gl:∀ {css:List (List (I TL))} {l:List Device},ql css=some l→aQ (aQ Le) css (l.map nS)
 | [],l,h=>by simp [ql] at h;subst h;exact .nil
 | c::r,l,h=>by
  simp only [ql] at h
  split at h
  ·rename_i x xs hx bN
   cases h
   exact .cons (ze hx) (Gl bN)
  ·cases h
theorem Gg:∀ {css:List (List (I TL))} {l:List (List Range)},qi css=some l→aQ (aQ Le) css (l.map rp)
 | [],l,h=>by simp [qi] at h;subst h;exact .nil
 | c::r,l,h=>by
  simp only [qi] at h
  split at h
  ·rename_i x xs hx bN
   cases h
   exact .cons (Hj hx) (Gg bN)
  ·cases h
theorem Jl:∀ {css:List (List (I TL))} {l:List ByteArray},sI css=some l→aQ (aQ Le) css (l.map oF)
 | [],l,h=>by simp [sI] at h;subst h;exact .nil
 | c::r,l,h=>by
  simp only [sI] at h
  split at h
  ·rename_i x xs hx bN
   cases h
   exact .cons (LM hx) (Jl bN)
  ·cases h
instance:aS TL where
 len:=fun l=>by cases l<;>simp [LI.len,LI.aH]
 idx:=fun l i k=>by cases l<;>simp only [LI.idx,LI.aH,List.getElem?_map,ob]<;>rename_i l<;>cases l[i]?<;>rfl
 size:=fun l cs h=>by
  cases l<;>simp only [LI.aH,List.mem_map] at h<;>obtain ⟨x,_,rfl⟩:=h<;>rfl
 dp:=fun t css l h=>by
  simp only [LI.dp] at h
  split at h
  ·split at h
   ·rename_i l hl;cases h;exact Gb hl
   ·cases h
  ·split at h
   ·rename_i l hl;cases h;exact HB hl
   ·cases h
  ·split at h
   ·rename_i l hl;cases h;exact Hw hl
   ·cases h
  ·split at h
   ·rename_i l hl;cases h;exact KL hl
   ·cases h
  ·split at h
   ·rename_i l hl;cases h;exact HT hl
   ·cases h
  ·split at h
   ·rename_i l hl;cases h;exact zU hl
   ·cases h
  ·split at h
   ·rename_i l hl;cases h;exact zU hl
   ·cases h
  ·split at h
   ·rename_i l hl;cases h;exact JY hl
   ·cases h
  ·split at h
   ·rename_i l hl;cases h;exact ID hl
   ·cases h
  ·split at h
   ·rename_i l hl;cases h;exact K4 hl
   ·cases h
  ·split at h
   ·rename_i l hl;cases h;exact IQ hl
   ·cases h
  ·split at h
   ·rename_i l hl;cases h;exact Lr hl
   ·cases h
  ·split at h
   ·rename_i l hl;cases h;exact IR hl
   ·cases h
  ·split at h
   ·rename_i l hl;cases h;exact JO hl
   ·cases h
  ·split at h
   ·rename_i l hl;cases h;exact Iv hl
   ·cases h
  ·split at h
   ·rename_i l hl;cases h;exact Je hl
   ·cases h
  ·split at h
   ·rename_i l hl;cases h;exact Gl hl
   ·cases h
  ·split at h
   ·rename_i l hl;cases h;exact Gg hl
   ·cases h
  ·split at h
   ·rename_i l hl;cases h;exact Jl hl
   ·cases h
  ·cases h
 eV:=fun a b l h=>by
  simp only [LI.eV] at h
  split at h<;>cases h<;>simp [LI.aH,LI.sz]
 sub:=fun l lo hi=>by cases l<;>simp [LI.sub,LI.aH,LI.sz,List.map_drop,List.map_take]
 set:=fun l i cs l' h=>by
  simp only [LI.set] at h
  split at h
  ·split at h
   ·rename_i y hy;cases h;exact ⟨_,zT hy,by simp [LI.aH,List.map_set],rfl⟩
   ·cases h
  ·split at h
   ·rename_i y hy;cases h;exact ⟨_,zh hy,by simp [LI.aH,List.map_set],rfl⟩
   ·cases h
  ·split at h
   ·rename_i y hy;cases h;exact ⟨_,Ik hy,by simp [LI.aH,List.map_set],rfl⟩
   ·cases h
  ·split at h
   ·rename_i y hy;cases h;exact ⟨_,Ku hy,by simp [LI.aH,List.map_set],rfl⟩
   ·cases h
  ·split at h
   ·rename_i y hy;cases h;exact ⟨_,zj hy,by simp [LI.aH,List.map_set],rfl⟩
   ·cases h
  ·split at h
   ·rename_i y hy;cases h;exact ⟨_,AK hy,by simp [LI.aH,List.map_set],rfl⟩
   ·cases h
  ·split at h
   ·rename_i y hy;cases h;exact ⟨_,Kw hy,by simp [LI.aH,List.map_set],rfl⟩
   ·cases h
  ·split at h
   ·rename_i y hy;cases h;exact ⟨_,JK hy,by simp [LI.aH,List.map_set],rfl⟩
   ·cases h
  ·split at h
   ·rename_i y hy;cases h;exact ⟨_,L8 hy,by simp [LI.aH,List.map_set],rfl⟩
   ·cases h
  ·split at h
   ·rename_i y hy;cases h;exact ⟨_,KN hy,by simp [LI.aH,List.map_set],rfl⟩
   ·cases h
  ·split at h
   ·rename_i y hy;cases h;exact ⟨_,By hy,by simp [LI.aH,List.map_set],rfl⟩
   ·cases h
  ·split at h
   ·rename_i y hy;cases h;exact ⟨_,JL hy,by simp [LI.aH,List.map_set],rfl⟩
   ·cases h
  ·split at h
   ·rename_i y hy;cases h;exact ⟨_,BP hy,by simp [LI.aH,List.map_set],rfl⟩
   ·cases h
  ·split at h
   ·rename_i y hy;cases h;exact ⟨_,J8 hy,by simp [LI.aH,List.map_set],rfl⟩
   ·cases h
  ·split at h
   ·rename_i y hy;cases h;exact ⟨_,Ax hy,by simp [LI.aH,List.map_set],rfl⟩
   ·cases h
  ·split at h
   ·rename_i y hy;cases h;exact ⟨_,ze hy,by simp [LI.aH,List.map_set],rfl⟩
   ·cases h
  ·split at h
   ·rename_i y hy;cases h;exact ⟨_,Hj hy,by simp [LI.aH,List.map_set],rfl⟩
   ·cases h
  ·split at h
   ·rename_i y hy;cases h;exact ⟨_,LM hy,by simp [LI.aH,List.map_set],rfl⟩
   ·cases h
 gy:=fun c a b l h=>by
  simp only [LI.gy] at h
  split at h<;>cases h<;>cases c<;>simp [LI.aH,LI.sz]
 flat:=fun l h cs hcs x hx G G' v hv=>by
  cases l<;>simp only [LI.flat] at h<;>first | (cases h;done) | skip
  all_goals
   simp only [LI.aH,List.mem_map] at hcs
   obtain ⟨y,_,rfl⟩:=hcs
   first
    | (simp only [lc,List.mem_cons,List.not_mem_nil,or_false] at hx;rcases hx with rfl | rfl | rfl | rfl | rfl | rfl | rfl<;>cases hv<;>constructor)
    | (simp only [ly,List.mem_cons,List.not_mem_nil,or_false] at hx;rcases hx with rfl | rfl<;>cases hv<;>constructor)
    | (simp only [nZ,List.mem_cons,List.not_mem_nil,or_false] at hx;rcases hx with rfl | rfl | rfl | rfl | rfl<;>cases hv<;>constructor)
    | (simp only [np,List.mem_cons,List.not_mem_nil,or_false] at hx;rcases hx with rfl<;>cases hv<;>constructor)
    | (simp only [jN,List.mem_cons,List.not_mem_nil,or_false] at hx;rcases hx with rfl | rfl | rfl<;>cases hv<;>constructor)
    | (simp only [nq,List.mem_cons,List.not_mem_nil,or_false] at hx;rcases hx with rfl | rfl | rfl | rfl | rfl | rfl | rfl<;>cases hv<;>constructor)
    | (simp only [nj,List.mem_cons,List.not_mem_nil,or_false] at hx;rcases hx with rfl | rfl | rfl | rfl | rfl | rfl<;>cases hv<;>constructor)
    | (simp only [nv,List.mem_cons,List.not_mem_nil,or_false] at hx;rcases hx with rfl | rfl<;>cases hv<;>constructor)
    | (simp only [nk,List.mem_cons,List.not_mem_nil,or_false] at hx;rcases hx with rfl | rfl | rfl | rfl | rfl | rfl<;>cases hv<;>constructor)
    | (simp only [mJ,List.mem_cons,List.not_mem_nil,or_false] at hx;rcases hx with rfl | rfl | rfl | rfl<;>cases hv<;>constructor)
    | (simp only [nd,List.mem_cons,List.not_mem_nil,or_false] at hx;rcases hx with rfl<;>cases hv<;>constructor)
    | (simp only [oF,List.mem_cons,List.not_mem_nil,or_false] at hx;rcases hx with rfl<;>cases hv<;>constructor)
 bytes:=fun l s h=>by simp [LI.bytes] at h
 ofStr:=fun t s l h=>by simp [LI.ofStr] at h
theorem aMC:lV TL tab where
 dp:=fun t css l i h hi=>by
  simp only [LI.dp] at h
  split at h
  ·split at h
   ·cases h;cases (PO.symm.trans hi);rfl
   ·cases h
  ·split at h
   ·cases h;cases (MV.symm.trans hi);rfl
   ·cases h
  ·split at h
   ·cases h;cases (N1.symm.trans hi);rfl
   ·cases h
  ·split at h
   ·cases h;cases (QP.symm.trans hi);rfl
   ·cases h
  ·split at h
   ·cases h;cases (PZ.symm.trans hi);rfl
   ·cases h
  ·split at h
   ·cases h;cases (PK.symm.trans hi);rfl
   ·cases h
  ·split at h
   ·cases h;cases (PA.symm.trans hi);rfl
   ·cases h
  ·split at h
   ·cases h;cases (MT.symm.trans hi);rfl
   ·cases h
  ·split at h
   ·cases h;cases (M8.symm.trans hi);rfl
   ·cases h
  ·split at h
   ·cases h;cases (Mv.symm.trans hi);rfl
   ·cases h
  ·split at h
   ·cases h;cases (NQ.symm.trans hi);rfl
   ·cases h
  ·split at h
   ·cases h;cases (PN.symm.trans hi);rfl
   ·cases h
  ·split at h
   ·cases h;cases (MK.symm.trans hi);rfl
   ·cases h
  ·split at h
   ·cases h;cases (PQ.symm.trans hi);rfl
   ·cases h
  ·split at h
   ·cases h;cases (Q3.symm.trans hi);rfl
   ·cases h
  ·split at h
   ·cases h;cases (Nu.symm.trans hi);rfl
   ·cases h
  ·split at h
   ·cases h;cases (OS.symm.trans hi);rfl
   ·cases h
  ·split at h
   ·cases h;cases (PS.symm.trans hi);rfl
   ·cases h
  ·split at h
   ·cases h;cases (Pw.symm.trans hi);rfl
   ·cases h
  ·cases h
 cG:=fun t n l h=>by
  simp only [LI.cG] at h
  split at h
  ·cases h;exact ⟨_,_,lc (bl.mk ⟨#[]⟩ 0 0 0 0 0 0),PO,rfl,by simp [LI.aH],rfl,.cons (fun _=>.str) (.cons (fun _=>.int) (.cons (fun _=>.int) (.cons (fun _=>.int) (.cons (fun _=>.int) (.cons (fun _=>.int) (.cons (fun _=>.int) (.nil)))))))⟩
  ·cases h;exact ⟨_,_,ly (Range.mk 0 0),MV,rfl,by simp [LI.aH],rfl,.cons (fun _=>.int) (.cons (fun _=>.int) (.nil))⟩
  ·cases h;exact ⟨_,_,nZ (Slice.mk ⟨#[]⟩ 0 0 0 0),N1,rfl,by simp [LI.aH],rfl,.cons (fun _=>.str) (.cons (fun _=>.int) (.cons (fun _=>.int) (.cons (fun _=>.int) (.cons (fun _=>.int) (.nil)))))⟩
  ·cases h;exact ⟨_,_,np 0,QP,rfl,by simp [LI.aH],rfl,.cons (fun _=>.int) (.nil)⟩
  ·cases h;exact ⟨_,_,nc (aI.mk 0 0 0 0 [] [] []),PZ,rfl,by simp [LI.aH],rfl,.cons (fun _=>.int) (.cons (fun _=>.int) (.cons (fun _=>.int) (.cons (fun _=>.int) (.cons (fun _=>.fz (k:=0) (o:=0) (vals:=fun _ _=>undef) rfl (Nat.le_refl _) (fun h=>absurd h (Nat.lt_irrefl _)) (fun i j cs x h=>by simp [LI.aH] at h) (fun i j cs x h=>by simp [LI.aH] at h)) (.cons (fun _=>.fz (k:=0) (o:=0) (vals:=fun _ _=>undef) rfl (Nat.le_refl _) (fun h=>absurd h (Nat.lt_irrefl _)) (fun i j cs x h=>by simp [LI.aH] at h) (fun i j cs x h=>by simp [LI.aH] at h)) (.cons (fun _=>.fz (k:=0) (o:=0) (vals:=fun _ _=>undef) rfl (Nat.le_refl _) (fun h=>absurd h (Nat.lt_irrefl _)) (fun i j cs x h=>by simp [LI.aH] at h) (fun i j cs x h=>by simp [LI.aH] at h)) (.nil)))))))⟩
  ·cases h;exact ⟨_,_,jN (aL.mk 0 0 0),PK,rfl,by simp [LI.aH],rfl,.cons (fun _=>.int) (.cons (fun _=>.int) (.cons (fun _=>.int) (.nil)))⟩
  ·cases h;exact ⟨_,_,jN (aL.mk 0 0 0),PA,rfl,by simp [LI.aH],rfl,.cons (fun _=>.int) (.cons (fun _=>.int) (.cons (fun _=>.int) (.nil)))⟩
  ·cases h;exact ⟨_,_,nq (dE.mk ⟨#[]⟩ ⟨#[]⟩ 0 0 (aL.mk 0 0 0)),MT,rfl,by simp [LI.aH],rfl,.cons (fun _=>.str) (.cons (fun _=>.str) (.cons (fun _=>.int) (.cons (fun _=>.int) (.cons (fun _=>.int) (.cons (fun _=>.int) (.cons (fun _=>.int) (.nil)))))))⟩
  ·cases h;exact ⟨_,_,nj (cH.mk ⟨#[]⟩ ⟨#[]⟩ 0 (aL.mk 0 0 0)),M8,rfl,by simp [LI.aH],rfl,.cons (fun _=>.str) (.cons (fun _=>.str) (.cons (fun _=>.int) (.cons (fun _=>.int) (.cons (fun _=>.int) (.cons (fun _=>.int) (.nil))))))⟩
  ·cases h;exact ⟨_,_,nv (Sum.mk ⟨#[]⟩ 0),Mv,rfl,by simp [LI.aH],rfl,.cons (fun _=>.str) (.cons (fun _=>.int) (.nil))⟩
  ·cases h;exact ⟨_,_,nk (Bind.mk 0 ⟨#[]⟩ 0 (aL.mk 0 0 0)),NQ,rfl,by simp [LI.aH],rfl,.cons (fun _=>.int) (.cons (fun _=>.str) (.cons (fun _=>.int) (.cons (fun _=>.int) (.cons (fun _=>.int) (.cons (fun _=>.int) (.nil))))))⟩
  ·cases h;exact ⟨_,_,kU (Op.mk (aL.mk 0 0 0) 0 0 0 ⟨#[]⟩ ⟨#[]⟩ 0 0 []),PN,rfl,by simp [LI.aH],rfl,.cons (fun _=>.int) (.cons (fun _=>.int) (.cons (fun _=>.int) (.cons (fun _=>.int) (.cons (fun _=>.int) (.cons (fun _=>.int) (.cons (fun _=>.str) (.cons (fun _=>.str) (.cons (fun _=>.int) (.cons (fun _=>.int) (.cons (fun _=>.fz (k:=0) (o:=0) (vals:=fun _ _=>undef) rfl (Nat.le_refl _) (fun h=>absurd h (Nat.lt_irrefl _)) (fun i j cs x h=>by simp [LI.aH] at h) (fun i j cs x h=>by simp [LI.aH] at h)) (.nil)))))))))))⟩
  ·cases h;exact ⟨_,_,mJ (Want.mk ⟨#[]⟩ 0 0 0),MK,rfl,by simp [LI.aH],rfl,.cons (fun _=>.str) (.cons (fun _=>.int) (.cons (fun _=>.int) (.cons (fun _=>.int) (.nil))))⟩
  ·cases h;exact ⟨_,_,mO (Act.mk 0 0 0 [] []),PQ,rfl,by simp [LI.aH],rfl,.cons (fun _=>.int) (.cons (fun _=>.int) (.cons (fun _=>.int) (.cons (fun _=>.fz (k:=0) (o:=0) (vals:=fun _ _=>undef) rfl (Nat.le_refl _) (fun h=>absurd h (Nat.lt_irrefl _)) (fun i j cs x h=>by simp [LI.aH] at h) (fun i j cs x h=>by simp [LI.aH] at h)) (.cons (fun _=>.fz (k:=0) (o:=0) (vals:=fun _ _=>undef) rfl (Nat.le_refl _) (fun h=>absurd h (Nat.lt_irrefl _)) (fun i j cs x h=>by simp [LI.aH] at h) (fun i j cs x h=>by simp [LI.aH] at h)) (.nil)))))⟩
  ·cases h;exact ⟨_,_,nd false,Q3,rfl,by simp [LI.aH],rfl,.cons (fun _=>.bool) (.nil)⟩
  ·cases h;exact ⟨_,_,nu (bg.mk 0 0 0 0 0 [] []),Nu,rfl,by simp [LI.aH],rfl,.cons (fun _=>.int) (.cons (fun _=>.int) (.cons (fun _=>.int) (.cons (fun _=>.int) (.cons (fun _=>.int) (.cons (fun _=>.fz (k:=0) (o:=0) (vals:=fun _ _=>undef) rfl (Nat.le_refl _) (fun h=>absurd h (Nat.lt_irrefl _)) (fun i j cs x h=>by simp [LI.aH] at h) (fun i j cs x h=>by simp [LI.aH] at h)) (.cons (fun _=>.fz (k:=0) (o:=0) (vals:=fun _ _=>undef) rfl (Nat.le_refl _) (fun h=>absurd h (Nat.lt_irrefl _)) (fun i j cs x h=>by simp [LI.aH] at h) (fun i j cs x h=>by simp [LI.aH] at h)) (.nil)))))))⟩
  ·cases h;exact ⟨_,_,nS (Device.mk 0 0 (aO.mk 0 0 (aI.mk 0 0 0 0 [] [] []))),OS,rfl,by simp [LI.aH],rfl,.cons (fun _=>.int) (.cons (fun _=>.int) (.cons (fun _=>.int) (.cons (fun _=>.int) (.cons (fun _=>.int) (.cons (fun _=>.int) (.cons (fun _=>.int) (.cons (fun _=>.int) (.cons (fun _=>.fz (k:=0) (o:=0) (vals:=fun _ _=>undef) rfl (Nat.le_refl _) (fun h=>absurd h (Nat.lt_irrefl _)) (fun i j cs x h=>by simp [LI.aH] at h) (fun i j cs x h=>by simp [LI.aH] at h)) (.cons (fun _=>.fz (k:=0) (o:=0) (vals:=fun _ _=>undef) rfl (Nat.le_refl _) (fun h=>absurd h (Nat.lt_irrefl _)) (fun i j cs x h=>by simp [LI.aH] at h) (fun i j cs x h=>by simp [LI.aH] at h)) (.cons (fun _=>.fz (k:=0) (o:=0) (vals:=fun _ _=>undef) rfl (Nat.le_refl _) (fun h=>absurd h (Nat.lt_irrefl _)) (fun i j cs x h=>by simp [LI.aH] at h) (fun i j cs x h=>by simp [LI.aH] at h)) (.nil)))))))))))⟩
  ·cases h;exact ⟨_,_,rp [],PS,rfl,by simp [LI.aH],rfl,.cons (fun _=>.fz (k:=0) (o:=0) (vals:=fun _ _=>undef) rfl (Nat.le_refl _) (fun h=>absurd h (Nat.lt_irrefl _)) (fun i j cs x h=>by simp [LI.aH] at h) (fun i j cs x h=>by simp [LI.aH] at h)) (.nil)⟩
  ·cases h;exact ⟨_,_,oF ⟨#[]⟩,Pw,rfl,by simp [LI.aH],rfl,.cons (fun _=>.str) (.nil)⟩
  ·cases h
def cQ:aE.fG TL (List bl):=⟨TL.eX,fun | .eX l=>some l | _=>none,fun l t h=>by cases l<;>simp_all⟩
def jK:DI TL (List bl):=⟨fun l=>.fz (.eX l),uT,fun _ _ h=>Gu h⟩
def aa:aE.fG TL (List Range):=⟨TL.eD,fun | .eD l=>some l | _=>none,fun l t h=>by cases l<;>simp_all⟩
def dF:DI TL (List Range):=⟨fun l=>.fz (.eD l),kw,fun _ _ h=>mq h⟩
def bh:aE.fG TL (List Slice):=⟨TL.eM,fun | .eM l=>some l | _=>none,fun l t h=>by cases l<;>simp_all⟩
def j1:DI TL (List Slice):=⟨fun l=>.fz (.eM l),nI,fun _ _ h=>uF h⟩
def au:aE.fG TL (List Int):=⟨TL.eG,fun | .eG l=>some l | _=>none,fun l t h=>by cases l<;>simp_all⟩
def fX:DI TL (List Int):=⟨fun l=>.fz (.eG l),mG,fun _ _ h=>qo h⟩
def cS:aE.fG TL (List aI):=⟨TL.eY,fun | .eY l=>some l | _=>none,fun l t h=>by cases l<;>simp_all⟩
def aE3:DI TL (List aI):=⟨fun l=>.fz (.eY l),wZ,fun _ _ h=>IN h⟩
def bL:aE.fG TL (List aL):=⟨TL.dq,fun | .dq l=>some l | _=>none,fun l t h=>by cases l<;>simp_all⟩
def dP:DI TL (List aL):=⟨fun l=>.fz (.dq l),ku,fun _ _ h=>tz h⟩
def dC:aE.fG TL (List dE):=⟨TL.eu,fun | .eu l=>some l | _=>none,fun l t h=>by cases l<;>simp_all⟩
def mA:DI TL (List dE):=⟨fun l=>.fz (.eu l),xp,fun _ _ h=>Ln h⟩
def cd:aE.fG TL (List cH):=⟨TL.eg,fun | .eg l=>some l | _=>none,fun l t h=>by cases l<;>simp_all⟩
def lk:DI TL (List cH):=⟨fun l=>.fz (.eg l),xL,fun _ _ h=>Jn h⟩
def dD:aE.fG TL (List Sum):=⟨TL.eo,fun | .eo l=>some l | _=>none,fun l t h=>by cases l<;>simp_all⟩
def mE:DI TL (List Sum):=⟨fun l=>.fz (.eo l),xl,fun _ _ h=>LL h⟩
def dA:aE.fG TL (List Bind):=⟨TL.ee,fun | .ee l=>some l | _=>none,fun l t h=>by cases l<;>simp_all⟩
def ll:DI TL (List Bind):=⟨fun l=>.fz (.ee l),xV,fun _ _ h=>K1 h⟩
def dn:aE.fG TL (List Op):=⟨TL.eB,fun | .eB l=>some l | _=>none,fun l t h=>by cases l<;>simp_all⟩
def ER:DI TL (List Op):=⟨fun l=>.fz (.eB l),mS,fun _ _ h=>Bk h⟩
def fb:aE.fG TL (List Want):=⟨TL.eN,fun | .eN l=>some l | _=>none,fun l t h=>by cases l<;>simp_all⟩
def n3:DI TL (List Want):=⟨fun l=>.fz (.eN l),sJ,fun _ _ h=>An h⟩
def yU:aE.fG TL (List Act):=⟨TL.eU,fun | .eU l=>some l | _=>none,fun l t h=>by cases l<;>simp_all⟩
def mF:DI TL (List Act):=⟨fun l=>.fz (.eU l),D1,fun _ _ h=>aDC h⟩
def NZ:aE.fG TL (List Device):=⟨TL.fZ,fun | .fZ l=>some l | _=>none,fun l t h=>by cases l<;>simp_all⟩
def vK:DC TL bl:=⟨lc,qm,fun _ _ h=>zT h⟩
def xP:DC TL Range:=⟨ly,ra,fun _ _ h=>zh h⟩
def eQ:DC TL aI:=⟨nc,sC,fun _ _ h=>zj h⟩
def dU:DC TL aG:=⟨Pv,DL,fun _ _ h=>aAo h⟩
def fu:DC TL aL:=⟨jN,rT,fun _ _ h=>AK h⟩
def lJ:DC TL ah:=⟨Pt,DN,fun _ _ h=>aAf h⟩
def fC:DC TL Op:=⟨kU,sm,fun _ _ h=>By h⟩
def lG:DC TL aO:=⟨Od,CG,fun _ _ h=>ZY h⟩
def wY:DC TL Device:=⟨nS,rI,fun _ _ h=>ze h⟩
def fv:DC TL bI:=DC.lY (DC.cons jK (DC.cons dF (DC.cons aE3 (DC.cons fX (DC.cons dP (DC.cons mA (DC.cons lk (DC.cons dP (DC.cons mE (DC.cons ll (DC.cons dP (DC.cons mA (DC.cons lk (DC.cons dP (DC.cons mE (DC.cons ll (DC.cons dP (DC.cons mA (DC.cons lk (DC.cons dP (DC.cons mE (DC.cons ll (DC.cons ER (DC.cons (DI.int .i64) (DC.cons (DI.int .i64) (DC.cons (DI.int .i64) (DC.cons (DI.int .i64) (DC.cons (DI.int .i64) (DC.cons (DI.int .i64) (DC.cons (DI.int .i64) (DC.cons (DI.int .i64) (DC.cons j1 (DC.cons dF (DC.cons fX (DC.cons (DI.int .i64) (DC.cons (DI.int .i64) (DC.cons (DI.int .i64) (DC.cons (DI.int .i64) (DC.cons (DI.int .i64) (DC.cons (DI.int .i64) (DC.cons (DI.int .i64) (DC.cons (DI.int .i64) (DC.cons j1 (DC.cons dF (DC.cons fX (DC.cons (DI.int .i64) (DC.cons (DI.int .i64) (DC.cons (DI.int .i64) (DC.cons (DI.int .i64) (DC.cons (DI.int .i64) (DC.cons (DI.int .i64) (DC.cons (DI.int .i64) (DC.cons (DI.int .i64) (DC.cons j1 (DC.cons dF (DC.cons fX (DC.cons (DI.int .i64) (DC.cons (DI.int .i64) (DC.cons (DI.int .i64) (DC.cons (DI.int .i64) (DC.cons (DI.int .i64) (DC.cons (DI.int .i64) (DC.cons (DI.int .i64) (DC.cons (DI.int .i64) (DC.cons j1 (DC.cons dF (DC.cons fX (DC.cons (DI.int .i64) (DC.cons (DI.int .i64) (DC.cons (DI.int .i64) (DC.cons (DI.int .i64) (DC.cons (DI.int .i64) (DC.cons (DI.int .i64) (DC.cons (DI.int .i64) (DC.cons (DI.int .i64) (DC.cons j1 (DC.cons dF (DC.cons fX (DC.cons (DI.int .i64) (DC.cons (DI.int .i64) (DC.cons (DI.int .i64) (DC.cons (DI.int .i64) (DC.cons (DI.int .i64) (DC.cons (DI.int .i64) (DC.cons (DI.int .i64) (DC.cons (DI.int .i64) (DC.cons j1 (DC.cons dF (DC.cons fX (DC.cons dP (DC.cons (DI.int .i64) (DC.nil)))))))))))))))))))))))))))))))))))))))))))))))))))))))))))))))))))))))))))))))))))))))))))) (fun p=>(bI.mk (aG.mk p.1 p.2.1 p.2.2.1 p.2.2.2.1) (fw.mk (ah.mk p.2.2.2.2.1 p.2.2.2.2.2.1 p.2.2.2.2.2.2.1 p.2.2.2.2.2.2.2.1 (t8 p).1 (t8 p).2.1) (ah.mk (t8 p).2.2.1 (t8 p).2.2.2.1 (t8 p).2.2.2.2.1 (t8 p).2.2.2.2.2.1 (t8 p).2.2.2.2.2.2.1 (t8 p).2.2.2.2.2.2.2.1) (ah.mk (t8 (t8 p)).1 (t8 (t8 p)).2.1 (t8 (t8 p)).2.2.1 (t8 (t8 p)).2.2.2.1 (t8 (t8 p)).2.2.2.2.1 (t8 (t8 p)).2.2.2.2.2.1)) (t8 (t8 p)).2.2.2.2.2.2.1 (dw.mk (Device.mk (t8 (t8 p)).2.2.2.2.2.2.2.1 (t8 (t8 (t8 p))).1 (aO.mk (t8 (t8 (t8 p))).2.1 (t8 (t8 (t8 p))).2.2.1 (aI.mk (t8 (t8 (t8 p))).2.2.2.1 (t8 (t8 (t8 p))).2.2.2.2.1 (t8 (t8 (t8 p))).2.2.2.2.2.1 (t8 (t8 (t8 p))).2.2.2.2.2.2.1 (t8 (t8 (t8 p))).2.2.2.2.2.2.2.1 (t32 p).1 (t32 p).2.1))) (Device.mk (t32 p).2.2.1 (t32 p).2.2.2.1 (aO.mk (t32 p).2.2.2.2.1 (t32 p).2.2.2.2.2.1 (aI.mk (t32 p).2.2.2.2.2.2.1 (t32 p).2.2.2.2.2.2.2.1 (t8 (t32 p)).1 (t8 (t32 p)).2.1 (t8 (t32 p)).2.2.1 (t8 (t32 p)).2.2.2.1 (t8 (t32 p)).2.2.2.2.1))) (Device.mk (t8 (t32 p)).2.2.2.2.2.1 (t8 (t32 p)).2.2.2.2.2.2.1 (aO.mk (t8 (t32 p)).2.2.2.2.2.2.2.1 (t8 (t8 (t32 p))).1 (aI.mk (t8 (t8 (t32 p))).2.1 (t8 (t8 (t32 p))).2.2.1 (t8 (t8 (t32 p))).2.2.2.1 (t8 (t8 (t32 p))).2.2.2.2.1 (t8 (t8 (t32 p))).2.2.2.2.2.1 (t8 (t8 (t32 p))).2.2.2.2.2.2.1 (t8 (t8 (t32 p))).2.2.2.2.2.2.2.1))) (Device.mk (t8 (t8 (t8 (t32 p)))).1 (t8 (t8 (t8 (t32 p)))).2.1 (aO.mk (t8 (t8 (t8 (t32 p)))).2.2.1 (t8 (t8 (t8 (t32 p)))).2.2.2.1 (aI.mk (t8 (t8 (t8 (t32 p)))).2.2.2.2.1 (t8 (t8 (t8 (t32 p)))).2.2.2.2.2.1 (t8 (t8 (t8 (t32 p)))).2.2.2.2.2.2.1 (t8 (t8 (t8 (t32 p)))).2.2.2.2.2.2.2.1 (t32 (t32 p)).1 (t32 (t32 p)).2.1 (t32 (t32 p)).2.2.1))) (Device.mk (t32 (t32 p)).2.2.2.1 (t32 (t32 p)).2.2.2.2.1 (aO.mk (t32 (t32 p)).2.2.2.2.2.1 (t32 (t32 p)).2.2.2.2.2.2.1 (aI.mk (t32 (t32 p)).2.2.2.2.2.2.2.1 (t8 (t32 (t32 p))).1 (t8 (t32 (t32 p))).2.1 (t8 (t32 (t32 p))).2.2.1 (t8 (t32 (t32 p))).2.2.2.1 (t8 (t32 (t32 p))).2.2.2.2.1 (t8 (t32 (t32 p))).2.2.2.2.2.1))) (Device.mk (t8 (t32 (t32 p))).2.2.2.2.2.2.1 (t8 (t32 (t32 p))).2.2.2.2.2.2.2.1 (aO.mk (t8 (t8 (t32 (t32 p)))).1 (t8 (t8 (t32 (t32 p)))).2.1 (aI.mk (t8 (t8 (t32 (t32 p)))).2.2.1 (t8 (t8 (t32 (t32 p)))).2.2.2.1 (t8 (t8 (t32 (t32 p)))).2.2.2.2.1 (t8 (t8 (t32 (t32 p)))).2.2.2.2.2.1 (t8 (t8 (t32 (t32 p)))).2.2.2.2.2.2.1 (t8 (t8 (t32 (t32 p)))).2.2.2.2.2.2.2.1 (t8 (t8 (t8 (t32 (t32 p))))).1)))) (t8 (t8 (t8 (t32 (t32 p))))).2.1 (t8 (t8 (t8 (t32 (t32 p))))).2.2.1)) (fun (x:bI)=>(x.book.ak,(x.book.free,(x.book.aP,(x.book.bF,(x.aM.a0.v,(x.aM.a0.be,(x.aM.a0.bY,(x.aM.a0.gone,(x.aM.a0.bc,(x.aM.a0.binds,(x.aM.a1.v,(x.aM.a1.be,(x.aM.a1.bY,(x.aM.a1.gone,(x.aM.a1.bc,(x.aM.a1.binds,(x.aM.a2.v,(x.aM.a2.be,(x.aM.a2.bY,(x.aM.a2.gone,(x.aM.a2.bc,(x.aM.a2.binds,(x.log,(x.dev.a0.aB,(x.dev.a0.aK,(x.dev.a0.aA.err,(x.dev.a0.aA.n,(x.dev.a0.aA.aD.device,(x.dev.a0.aA.aD.aB,(x.dev.a0.aA.aD.bC,(x.dev.a0.aA.aD.last,(x.dev.a0.aA.aD.aX,(x.dev.a0.aA.aD.ids,(x.dev.a0.aA.aD.used,(x.dev.a1.aB,(x.dev.a1.aK,(x.dev.a1.aA.err,(x.dev.a1.aA.n,(x.dev.a1.aA.aD.device,(x.dev.a1.aA.aD.aB,(x.dev.a1.aA.aD.bC,(x.dev.a1.aA.aD.last,(x.dev.a1.aA.aD.aX,(x.dev.a1.aA.aD.ids,(x.dev.a1.aA.aD.used,(x.dev.a2.aB,(x.dev.a2.aK,(x.dev.a2.aA.err,(x.dev.a2.aA.n,(x.dev.a2.aA.aD.device,(x.dev.a2.aA.aD.aB,(x.dev.a2.aA.aD.bC,(x.dev.a2.aA.aD.last,(x.dev.a2.aA.aD.aX,(x.dev.a2.aA.aD.ids,(x.dev.a2.aA.aD.used,(x.dev.a3.aB,(x.dev.a3.aK,(x.dev.a3.aA.err,(x.dev.a3.aA.n,(x.dev.a3.aA.aD.device,(x.dev.a3.aA.aD.aB,(x.dev.a3.aA.aD.bC,(x.dev.a3.aA.aD.last,(x.dev.a3.aA.aD.aX,(x.dev.a3.aA.aD.ids,(x.dev.a3.aA.aD.used,(x.dev.a4.aB,(x.dev.a4.aK,(x.dev.a4.aA.err,(x.dev.a4.aA.n,(x.dev.a4.aA.aD.device,(x.dev.a4.aA.aD.aB,(x.dev.a4.aA.aD.bC,(x.dev.a4.aA.aD.last,(x.dev.a4.aA.aD.aX,(x.dev.a4.aA.aD.ids,(x.dev.a4.aA.aD.used,(x.dev.a5.aB,(x.dev.a5.aK,(x.dev.a5.aA.err,(x.dev.a5.aA.n,(x.dev.a5.aA.aD.device,(x.dev.a5.aA.aD.aB,(x.dev.a5.aA.aD.bC,(x.dev.a5.aA.aD.last,(x.dev.a5.aA.aD.aX,(x.dev.a5.aA.aD.ids,(x.dev.a5.aA.aD.used,(x.lost,(x.now,())))))))))))))))))))))))))))))))))))))))))))))))))))))))))))))))))))))))))))))))))))))))))))) (fun _=>rfl)
def yQ:DC TL bg:=⟨nu,s9,fun _ _ h=>Ax h⟩
def RU:DC TL Act:=⟨mO,sW,fun _ _ h=>BP h⟩
def lM:DC TL fE:=⟨QO,Cb,fun _ _ h=>aBC h⟩
theorem base:WK TL Tryz.prog tab:=⟨fD,aMC,by kernel_rfl⟩
end Go.Proofs.YtcjpeijiaojeiaaGreat
