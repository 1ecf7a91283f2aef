/- By program (gen.py): the typed lists of this program, and their laws. -/
import Derived.Test.YtcjpeijiaojeiaaGreatTab
import Derived.Test.YtcjpeijiaojeiaaGreatEd
namespace Go.Proofs.YtcjpeijiaojeiaaGreat
open Go Go.Ev
structure aMv where
 x:Int
 y:Int
 signed:Bool
 code:Int
structure aMu where
 msg:ByteArray
 addr:Int
structure bP where
 key:ByteArray
 bc:Int
 lo:Int
 hi:Int
 start:Int
 bj:Int
 cE:Int
structure Range where
 from_:Int
 bU:Int
structure Slice where
 key:ByteArray
 bj:Int
 cE:Int
 dy:Int
 eO:Int
structure aH where
 device:Int
 aA:Int
 bN:Int
 last:Int
 aW:List Slice
 ids:List Range
 used:List Int
structure aG where
 af:List bP
 free:List Range
 aK:List aH
 bB:List Int
structure aL where
 device:Int
 aA:Int
 seq:Int
structure db where
 key:ByteArray
 text:ByteArray
 cW:Int
 time:Int
 aP:aL
structure cR where
 key:ByteArray
 text:ByteArray
 cW:Int
 aP:aL
structure Sum where
 key:ByteArray
 n:Int
structure Bind where
 se:Int
 text:ByteArray
 cW:Int
 aP:aL
structure ag where
 v:List aL
 cB:List db
 bp:List cR
 gone:List aL
 bJ:List Sum
 binds:List Bind
structure gQ where
 a0:ag
 a1:ag
 a2:ag
structure Op where
 aP:aL
 bc:Int
 cW:Int
 kind:Int
 key:ByteArray
 text:ByteArray
 n:Int
 time:Int
 cz:List aL
structure aU where
 err:Int
 n:Int
 aE:aH
structure Device where
 aA:Int
 aO:Int
 aB:aU
structure eP where
 a0:Device
 a1:Device
 a2:Device
 a3:Device
 a4:Device
 a5:Device
structure aw where
 book:aG
 aI:gQ
 log:List Op
 dev:eP
 lost:List aL
 now:Int
structure Want where
 key:ByteArray
 bj:Int
 cE:Int
 ids:Int
structure cH where
 kind:Int
 device:Int
 aA:Int
 aO:Int
 n:Int
 cj:List Want
 ops:List Op
structure aMz where
 a0:Bool
 a1:Bool
 a2:Bool
 a3:Bool
 a4:Bool
structure Act where
 kind:Int
 device:Int
 n:Int
 cj:List Want
 ops:List Op
structure eY where
 a0:Int
 a1:Int
 a2:Int
 a3:Int
 a4:Int
 a5:Int
structure bY where
 d:aw
 c:cH
structure fg where
 device:Int
 aA:Int
inductive TL where
 | fN (l:List bP)
 | eX (l:List Range)
 | fC (l:List Slice)
 | eh (l:List Int)
 | fO (l:List aH)
 | eK (l:List aL)
 | fS (l:List db)
 | fQ (l:List cR)
 | fT (l:List Sum)
 | fR (l:List Bind)
 | eV (l:List Op)
 | fD (l:List Want)
 | fJ (l:List Act)
 | gq (l:List Bool)
 | gx (l:List cH)
 | gN (l:List Device)
 | gP (l:List (List Range))
 | gv (l:List ByteArray)
def cJ (k:IntKind)(x:I TL):Option Int:=match x with | .lit k1 n=>cond (er k1 k) (some n) none | .int k1 n=>cond (er k1 k) (some n) none | _=>none
def Ua (x:I TL):Option Bool:=match x with | .tt=>some true | .ff=>some false | .bool b=>some b | _=>none
def ir (x:I TL):Option ByteArray:=match x with | .str s=>some s | _=>none
def tu (x:I TL):Option (List bP):=match x with | .fz (.fN l)=>some l | .val (.slice none 0 0)=>some [] | _=>none
def lf (x:I TL):Option (List Range):=match x with | .fz (.eX l)=>some l | .val (.slice none 0 0)=>some [] | _=>none
def ni (x:I TL):Option (List Slice):=match x with | .fz (.fC l)=>some l | .val (.slice none 0 0)=>some [] | _=>none
def mi (x:I TL):Option (List Int):=match x with | .fz (.eh l)=>some l | .val (.slice none 0 0)=>some [] | _=>none
def uq (x:I TL):Option (List aH):=match x with | .fz (.fO l)=>some l | .val (.slice none 0 0)=>some [] | _=>none
def l9 (x:I TL):Option (List aL):=match x with | .fz (.eK l)=>some l | .val (.slice none 0 0)=>some [] | _=>none
def vz (x:I TL):Option (List db):=match x with | .fz (.fS l)=>some l | .val (.slice none 0 0)=>some [] | _=>none
def vY (x:I TL):Option (List cR):=match x with | .fz (.fQ l)=>some l | .val (.slice none 0 0)=>some [] | _=>none
def wE (x:I TL):Option (List Sum):=match x with | .fz (.fT l)=>some l | .val (.slice none 0 0)=>some [] | _=>none
def vc (x:I TL):Option (List Bind):=match x with | .fz (.fR l)=>some l | .val (.slice none 0 0)=>some [] | _=>none
def mw (x:I TL):Option (List Op):=match x with | .fz (.eV l)=>some l | .val (.slice none 0 0)=>some [] | _=>none
def pj (x:I TL):Option (List Want):=match x with | .fz (.fD l)=>some l | .val (.slice none 0 0)=>some [] | _=>none
def CG (x:I TL):Option (List Act):=match x with | .fz (.fJ l)=>some l | .val (.slice none 0 0)=>some [] | _=>none
def n4 (x:bP):List (I TL):=[.str x.key,.int .i64 x.bc,.int .i64 x.lo,.int .i64 x.hi,.int .i64 x.start,.int .i64 x.bj,.int .i64 x.cE]
def pJ (l:List (I TL)):Option bP:=match l with | [x0,x1,x2,x3,x4,x5,x6]=>ob (ir x0) fun y0=>ob (cJ .i64 x1) fun y1=>ob (cJ .i64 x2) fun y2=>ob (cJ .i64 x3) fun y3=>ob (cJ .i64 x4) fun y4=>ob (cJ .i64 x5) fun y5=>ob (cJ .i64 x6) fun y6=>some (bP.mk y0 y1 y2 y3 y4 y5 y6) | _=>none
def nj (x:Range):List (I TL):=[.int .i64 x.from_,.int .i64 x.bU]
def pY (l:List (I TL)):Option Range:=match l with | [x0,x1]=>ob (cJ .i64 x0) fun y0=>ob (cJ .i64 x1) fun y1=>some (Range.mk y0 y1) | _=>none
def pt (x:Slice):List (I TL):=[.str x.key,.int .i64 x.bj,.int .i64 x.cE,.int .i64 x.dy,.int .i64 x.eO]
def ur (l:List (I TL)):Option Slice:=match l with | [x0,x1,x2,x3,x4]=>ob (ir x0) fun y0=>ob (cJ .i64 x1) fun y1=>ob (cJ .i64 x2) fun y2=>ob (cJ .i64 x3) fun y3=>ob (cJ .i64 x4) fun y4=>some (Slice.mk y0 y1 y2 y3 y4) | _=>none
def pz (x:aH):List (I TL):=[.int .i64 x.device,.int .i64 x.aA,.int .i64 x.bN,.int .i64 x.last,.fz (.fC x.aW),.fz (.eX x.ids),.fz (.eh x.used)]
def p6 (l:List (I TL)):Option aH:=match l with | [x0,x1,x2,x3,x4,x5,x6]=>ob (cJ .i64 x0) fun y0=>ob (cJ .i64 x1) fun y1=>ob (cJ .i64 x2) fun y2=>ob (cJ .i64 x3) fun y3=>ob (ni x4) fun y4=>ob (lf x5) fun y5=>ob (mi x6) fun y6=>some (aH.mk y0 y1 y2 y3 y4 y5 y6) | _=>none
def N6 (x:aG):List (I TL):=[.fz (.fN x.af),.fz (.eX x.free),.fz (.fO x.aK),.fz (.eh x.bB)]
def Bu (l:List (I TL)):Option aG:=match l with | [x0,x1,x2,x3]=>ob (tu x0) fun y0=>ob (lf x1) fun y1=>ob (uq x2) fun y2=>ob (mi x3) fun y3=>some (aG.mk y0 y1 y2 y3) | _=>none
def jq (x:aL):List (I TL):=[.int .i64 x.device,.int .i64 x.aA,.int .i64 x.seq]
def ph (l:List (I TL)):Option aL:=match l with | [x0,x1,x2]=>ob (cJ .i64 x0) fun y0=>ob (cJ .i64 x1) fun y1=>ob (cJ .i64 x2) fun y2=>some (aL.mk y0 y1 y2) | _=>none
def qh (x:db):List (I TL):=[.str x.key,.str x.text,.int .i64 x.cW,.int .i64 x.time,.int .i64 x.aP.device,.int .i64 x.aP.aA,.int .i64 x.aP.seq]
def wF (l:List (I TL)):Option db:=match l with | [x0,x1,x2,x3,x4,x5,x6]=>ob (ir x0) fun y0=>ob (ir x1) fun y1=>ob (cJ .i64 x2) fun y2=>ob (cJ .i64 x3) fun y3=>ob (cJ .i64 x4) fun y4=>ob (cJ .i64 x5) fun y5=>ob (cJ .i64 x6) fun y6=>some (db.mk y0 y1 y2 y3 (aL.mk y4 y5 y6)) | _=>none
def qN (x:cR):List (I TL):=[.str x.key,.str x.text,.int .i64 x.cW,.int .i64 x.aP.device,.int .i64 x.aP.aA,.int .i64 x.aP.seq]
def v8 (l:List (I TL)):Option cR:=match l with | [x0,x1,x2,x3,x4,x5]=>ob (ir x0) fun y0=>ob (ir x1) fun y1=>ob (cJ .i64 x2) fun y2=>ob (cJ .i64 x3) fun y3=>ob (cJ .i64 x4) fun y4=>ob (cJ .i64 x5) fun y5=>some (cR.mk y0 y1 y2 (aL.mk y3 y4 y5)) | _=>none
def qU (x:Sum):List (I TL):=[.str x.key,.int .i64 x.n]
def vr (l:List (I TL)):Option Sum:=match l with | [x0,x1]=>ob (ir x0) fun y0=>ob (cJ .i64 x1) fun y1=>some (Sum.mk y0 y1) | _=>none
def qH (x:Bind):List (I TL):=[.int .i64 x.se,.str x.text,.int .i64 x.cW,.int .i64 x.aP.device,.int .i64 x.aP.aA,.int .i64 x.aP.seq]
def vV (l:List (I TL)):Option Bind:=match l with | [x0,x1,x2,x3,x4,x5]=>ob (cJ .i64 x0) fun y0=>ob (ir x1) fun y1=>ob (cJ .i64 x2) fun y2=>ob (cJ .i64 x3) fun y3=>ob (cJ .i64 x4) fun y4=>ob (cJ .i64 x5) fun y5=>some (Bind.mk y0 y1 y2 (aL.mk y3 y4 y5)) | _=>none
def OV (x:ag):List (I TL):=[.fz (.eK x.v),.fz (.fS x.cB),.fz (.fQ x.bp),.fz (.eK x.gone),.fz (.fT x.bJ),.fz (.fR x.binds)]
def Bf (l:List (I TL)):Option ag:=match l with | [x0,x1,x2,x3,x4,x5]=>ob (l9 x0) fun y0=>ob (vz x1) fun y1=>ob (vY x2) fun y2=>ob (l9 x3) fun y3=>ob (wE x4) fun y4=>ob (vc x5) fun y5=>some (ag.mk y0 y1 y2 y3 y4 y5) | _=>none
def mG (x:Op):List (I TL):=[.int .i64 x.aP.device,.int .i64 x.aP.aA,.int .i64 x.aP.seq,.int .i64 x.bc,.int .i64 x.cW,.int .i64 x.kind,.str x.key,.str x.text,.int .i64 x.n,.int .i64 x.time,.fz (.eK x.cz)]
def qZ (l:List (I TL)):Option Op:=match l with | [x0,x1,x2,x3,x4,x5,x6,x7,x8,x9,x10]=>ob (cJ .i64 x0) fun y0=>ob (cJ .i64 x1) fun y1=>ob (cJ .i64 x2) fun y2=>ob (cJ .i64 x3) fun y3=>ob (cJ .i64 x4) fun y4=>ob (cJ .i64 x5) fun y5=>ob (ir x6) fun y6=>ob (ir x7) fun y7=>ob (cJ .i64 x8) fun y8=>ob (cJ .i64 x9) fun y9=>ob (l9 x10) fun y10=>some (Op.mk (aL.mk y0 y1 y2) y3 y4 y5 y6 y7 y8 y9 y10) | _=>none
def L9 (x:aU):List (I TL):=[.int .i64 x.err,.int .i64 x.n,.int .i64 x.aE.device,.int .i64 x.aE.aA,.int .i64 x.aE.bN,.int .i64 x.aE.last,.fz (.fC x.aE.aW),.fz (.eX x.aE.ids),.fz (.eh x.aE.used)]
def BM (l:List (I TL)):Option aU:=match l with | [x0,x1,x2,x3,x4,x5,x6,x7,x8]=>ob (cJ .i64 x0) fun y0=>ob (cJ .i64 x1) fun y1=>ob (cJ .i64 x2) fun y2=>ob (cJ .i64 x3) fun y3=>ob (cJ .i64 x4) fun y4=>ob (cJ .i64 x5) fun y5=>ob (ni x6) fun y6=>ob (lf x7) fun y7=>ob (mi x8) fun y8=>some (aU.mk y0 y1 (aH.mk y2 y3 y4 y5 y6 y7 y8)) | _=>none
def pd (x:Device):List (I TL):=[.int .i64 x.aA,.int .i64 x.aO,.int .i64 x.aB.err,.int .i64 x.aB.n,.int .i64 x.aB.aE.device,.int .i64 x.aB.aE.aA,.int .i64 x.aB.aE.bN,.int .i64 x.aB.aE.last,.fz (.fC x.aB.aE.aW),.fz (.eX x.aB.aE.ids),.fz (.eh x.aB.aE.used)]
def pO (l:List (I TL)):Option Device:=match l with | [x0,x1,x2,x3,x4,x5,x6,x7,x8,x9,x10]=>ob (cJ .i64 x0) fun y0=>ob (cJ .i64 x1) fun y1=>ob (cJ .i64 x2) fun y2=>ob (cJ .i64 x3) fun y3=>ob (cJ .i64 x4) fun y4=>ob (cJ .i64 x5) fun y5=>ob (cJ .i64 x6) fun y6=>ob (cJ .i64 x7) fun y7=>ob (ni x8) fun y8=>ob (lf x9) fun y9=>ob (mi x10) fun y10=>some (Device.mk y0 y1 (aU.mk y2 y3 (aH.mk y4 y5 y6 y7 y8 y9 y10))) | _=>none
def nz (x:Want):List (I TL):=[.str x.key,.int .i64 x.bj,.int .i64 x.cE,.int .i64 x.ids]
def vi (l:List (I TL)):Option Want:=match l with | [x0,x1,x2,x3]=>ob (ir x0) fun y0=>ob (cJ .i64 x1) fun y1=>ob (cJ .i64 x2) fun y2=>ob (cJ .i64 x3) fun y3=>some (Want.mk y0 y1 y2 y3) | _=>none
def q9 (x:cH):List (I TL):=[.int .i64 x.kind,.int .i64 x.device,.int .i64 x.aA,.int .i64 x.aO,.int .i64 x.n,.fz (.fD x.cj),.fz (.eV x.ops)]
def qK (l:List (I TL)):Option cH:=match l with | [x0,x1,x2,x3,x4,x5,x6]=>ob (cJ .i64 x0) fun y0=>ob (cJ .i64 x1) fun y1=>ob (cJ .i64 x2) fun y2=>ob (cJ .i64 x3) fun y3=>ob (cJ .i64 x4) fun y4=>ob (pj x5) fun y5=>ob (mw x6) fun y6=>some (cH.mk y0 y1 y2 y3 y4 y5 y6) | _=>none
def oI (x:Act):List (I TL):=[.int .i64 x.kind,.int .i64 x.device,.int .i64 x.n,.fz (.fD x.cj),.fz (.eV x.ops)]
def qP (l:List (I TL)):Option Act:=match l with | [x0,x1,x2,x3,x4]=>ob (cJ .i64 x0) fun y0=>ob (cJ .i64 x1) fun y1=>ob (cJ .i64 x2) fun y2=>ob (pj x3) fun y3=>ob (mw x4) fun y4=>some (Act.mk y0 y1 y2 y3 y4) | _=>none
def NB (x:eY):List (I TL):=[.int .i64 x.a0,.int .i64 x.a1,.int .i64 x.a2,.int .i64 x.a3,.int .i64 x.a4,.int .i64 x.a5]
def BV (l:List (I TL)):Option eY:=match l with | [x0,x1,x2,x3,x4,x5]=>ob (cJ .i64 x0) fun y0=>ob (cJ .i64 x1) fun y1=>ob (cJ .i64 x2) fun y2=>ob (cJ .i64 x3) fun y3=>ob (cJ .i64 x4) fun y4=>ob (cJ .i64 x5) fun y5=>some (eY.mk y0 y1 y2 y3 y4 y5) | _=>none
def Nv (x:fg):List (I TL):=[.int .i64 x.device,.int .i64 x.aA]
def Be (l:List (I TL)):Option fg:=match l with | [x0,x1]=>ob (cJ .i64 x0) fun y0=>ob (cJ .i64 x1) fun y1=>some (fg.mk y0 y1) | _=>none
def qX (x:Int):List (I TL):=[.int .i64 x]
def vv (l:List (I TL)):Option Int:=match l with | [x0]=>ob (cJ .i64 x0) fun y0=>some y0 | _=>none
def qQ (x:Bool):List (I TL):=[.bool x]
def vf (l:List (I TL)):Option Bool:=match l with | [x0]=>ob (Ua x0) fun y0=>some y0 | _=>none
def uo (x:List Range):List (I TL):=[.fz (.eX x)]
def uY (l:List (I TL)):Option (List Range):=match l with | [x0]=>ob (lf x0) fun y0=>some y0 | _=>none
def qS (x:ByteArray):List (I TL):=[.str x]
def vj (l:List (I TL)):Option ByteArray:=match l with | [x0]=>ob (ir x0) fun y0=>some y0 | _=>none
def fh {T:Type}(f:List (I TL)→Option T):List (List (I TL))→Option (List T)
 | []=>some []
 | c::r=>match f c,fh f r with | some x,some xs=>some (x::xs) | _,_=>none
instance:LI TL where
 kn:=false
 sQ:=fun t=>Nat.beq t 38 || Nat.beq t 48 || Nat.beq t 63 || Nat.beq t 88 || Nat.beq t 303
 aJ:=fun
  | .fN l=>l.map n4
  | .eX l=>l.map nj
  | .fC l=>l.map pt
  | .eh l=>l.map qX
  | .fO l=>l.map pz
  | .eK l=>l.map jq
  | .fS l=>l.map qh
  | .fQ l=>l.map qN
  | .fT l=>l.map qU
  | .fR l=>l.map qH
  | .eV l=>l.map mG
  | .fD l=>l.map nz
  | .fJ l=>l.map oI
  | .gq l=>l.map qQ
  | .gx l=>l.map q9
  | .gN l=>l.map pd
  | .gP l=>l.map uo
  | .gv l=>l.map qS
 sz:=fun
  | .fN _=>7
  | .eX _=>2
  | .fC _=>5
  | .eh _=>1
  | .fO _=>7
  | .eK _=>3
  | .fS _=>7
  | .fQ _=>6
  | .fT _=>2
  | .fR _=>6
  | .eV _=>11
  | .fD _=>4
  | .fJ _=>5
  | .gq _=>1
  | .gx _=>7
  | .gN _=>11
  | .gP _=>1
  | .gv _=>1
 len:=fun
  | .fN l=>l.length
  | .eX l=>l.length
  | .fC l=>l.length
  | .eh l=>l.length
  | .fO l=>l.length
  | .eK l=>l.length
  | .fS l=>l.length
  | .fQ l=>l.length
  | .fT l=>l.length
  | .fR l=>l.length
  | .eV l=>l.length
  | .fD l=>l.length
  | .fJ l=>l.length
  | .gq l=>l.length
  | .gx l=>l.length
  | .gN l=>l.length
  | .gP l=>l.length
  | .gv l=>l.length
 idx:=fun x i k=>match x with
  | .fN l=>ob l[i]? fun x=>k (n4 x)
  | .eX l=>ob l[i]? fun x=>k (nj x)
  | .fC l=>ob l[i]? fun x=>k (pt x)
  | .eh l=>ob l[i]? fun x=>k (qX x)
  | .fO l=>ob l[i]? fun x=>k (pz x)
  | .eK l=>ob l[i]? fun x=>k (jq x)
  | .fS l=>ob l[i]? fun x=>k (qh x)
  | .fQ l=>ob l[i]? fun x=>k (qN x)
  | .fT l=>ob l[i]? fun x=>k (qU x)
  | .fR l=>ob l[i]? fun x=>k (qH x)
  | .eV l=>ob l[i]? fun x=>k (mG x)
  | .fD l=>ob l[i]? fun x=>k (nz x)
  | .fJ l=>ob l[i]? fun x=>k (oI x)
  | .gq l=>ob l[i]? fun x=>k (qQ x)
  | .gx l=>ob l[i]? fun x=>k (q9 x)
  | .gN l=>ob l[i]? fun x=>k (pd x)
  | .gP l=>ob l[i]? fun x=>k (uo x)
  | .gv l=>ob l[i]? fun x=>k (qS x)
 eI:=fun t cs=>match t with
  | 65=>match fh pJ cs with | some l=>some (.fN l) | none=>none
  | 153=>match fh pY cs with | some l=>some (.eX l) | none=>none
  | 133=>match fh ur cs with | some l=>some (.fC l) | none=>none
  | 3=>match fh vv cs with | some l=>some (.eh l) | none=>none
  | 43=>match fh p6 cs with | some l=>some (.fO l) | none=>none
  | 59 | 66=>match fh ph cs with | some l=>some (.eK l) | none=>none
  | 142=>match fh wF cs with | some l=>some (.fS l) | none=>none
  | 145=>match fh v8 cs with | some l=>some (.fQ l) | none=>none
  | 129=>match fh vr cs with | some l=>some (.fT l) | none=>none
  | 149=>match fh vV cs with | some l=>some (.fR l) | none=>none
  | 61=>match fh qZ cs with | some l=>some (.eV l) | none=>none
  | 105=>match fh vi cs with | some l=>some (.fD l) | none=>none
  | 80=>match fh qP cs with | some l=>some (.fJ l) | none=>none
  | 4=>match fh vf cs with | some l=>some (.gq l) | none=>none
  | 56=>match fh qK cs with | some l=>some (.gx l) | none=>none
  | 47=>match fh pO cs with | some l=>some (.gN l) | none=>none
  | 25=>match fh uY cs with | some l=>some (.gP l) | none=>none
  | 9=>match fh vj cs with | some l=>some (.gv l) | none=>none
  | _=>none
 bytes:=fun
  | _=>none
 ofStr:=fun _ _=>none
 dO:=fun x y=>match x,y with
  | .fN a,.fN b=>some (.fN (a++b))
  | .eX a,.eX b=>some (.eX (a++b))
  | .fC a,.fC b=>some (.fC (a++b))
  | .eh a,.eh b=>some (.eh (a++b))
  | .fO a,.fO b=>some (.fO (a++b))
  | .eK a,.eK b=>some (.eK (a++b))
  | .fS a,.fS b=>some (.fS (a++b))
  | .fQ a,.fQ b=>some (.fQ (a++b))
  | .fT a,.fT b=>some (.fT (a++b))
  | .fR a,.fR b=>some (.fR (a++b))
  | .eV a,.eV b=>some (.eV (a++b))
  | .fD a,.fD b=>some (.fD (a++b))
  | .fJ a,.fJ b=>some (.fJ (a++b))
  | .gq a,.gq b=>some (.gq (a++b))
  | .gx a,.gx b=>some (.gx (a++b))
  | .gN a,.gN b=>some (.gN (a++b))
  | .gP a,.gP b=>some (.gP (a++b))
  | .gv a,.gv b=>some (.gv (a++b))
  | _,_=>none
 sub:=fun x lo hi=>match x with
  | .fN l=>.fN ((l.take hi).drop lo)
  | .eX l=>.eX ((l.take hi).drop lo)
  | .fC l=>.fC ((l.take hi).drop lo)
  | .eh l=>.eh ((l.take hi).drop lo)
  | .fO l=>.fO ((l.take hi).drop lo)
  | .eK l=>.eK ((l.take hi).drop lo)
  | .fS l=>.fS ((l.take hi).drop lo)
  | .fQ l=>.fQ ((l.take hi).drop lo)
  | .fT l=>.fT ((l.take hi).drop lo)
  | .fR l=>.fR ((l.take hi).drop lo)
  | .eV l=>.eV ((l.take hi).drop lo)
  | .fD l=>.fD ((l.take hi).drop lo)
  | .fJ l=>.fJ ((l.take hi).drop lo)
  | .gq l=>.gq ((l.take hi).drop lo)
  | .gx l=>.gx ((l.take hi).drop lo)
  | .gN l=>.gN ((l.take hi).drop lo)
  | .gP l=>.gP ((l.take hi).drop lo)
  | .gv l=>.gv ((l.take hi).drop lo)
 set:=fun x i cs=>match x with
  | .fN l=>match pJ cs with | some y=>some (.fN (l.set i y)) | none=>none
  | .eX l=>match pY cs with | some y=>some (.eX (l.set i y)) | none=>none
  | .fC l=>match ur cs with | some y=>some (.fC (l.set i y)) | none=>none
  | .eh l=>match vv cs with | some y=>some (.eh (l.set i y)) | none=>none
  | .fO l=>match p6 cs with | some y=>some (.fO (l.set i y)) | none=>none
  | .eK l=>match ph cs with | some y=>some (.eK (l.set i y)) | none=>none
  | .fS l=>match wF cs with | some y=>some (.fS (l.set i y)) | none=>none
  | .fQ l=>match v8 cs with | some y=>some (.fQ (l.set i y)) | none=>none
  | .fT l=>match vr cs with | some y=>some (.fT (l.set i y)) | none=>none
  | .fR l=>match vV cs with | some y=>some (.fR (l.set i y)) | none=>none
  | .eV l=>match qZ cs with | some y=>some (.eV (l.set i y)) | none=>none
  | .fD l=>match vi cs with | some y=>some (.fD (l.set i y)) | none=>none
  | .fJ l=>match qP cs with | some y=>some (.fJ (l.set i y)) | none=>none
  | .gq l=>match vf cs with | some y=>some (.gq (l.set i y)) | none=>none
  | .gx l=>match qK cs with | some y=>some (.gx (l.set i y)) | none=>none
  | .gN l=>match pO cs with | some y=>some (.gN (l.set i y)) | none=>none
  | .gP l=>match uY cs with | some y=>some (.gP (l.set i y)) | none=>none
  | .gv l=>match vj cs with | some y=>some (.gv (l.set i y)) | none=>none
 cP:=fun t n=>match t with
  | 65=>some (.fN (List.replicate n (bP.mk ⟨#[]⟩ 0 0 0 0 0 0)))
  | 153=>some (.eX (List.replicate n (Range.mk 0 0)))
  | 133=>some (.fC (List.replicate n (Slice.mk ⟨#[]⟩ 0 0 0 0)))
  | 3=>some (.eh (List.replicate n 0))
  | 43=>some (.fO (List.replicate n (aH.mk 0 0 0 0 [] [] [])))
  | 59 | 66=>some (.eK (List.replicate n (aL.mk 0 0 0)))
  | 142=>some (.fS (List.replicate n (db.mk ⟨#[]⟩ ⟨#[]⟩ 0 0 (aL.mk 0 0 0))))
  | 145=>some (.fQ (List.replicate n (cR.mk ⟨#[]⟩ ⟨#[]⟩ 0 (aL.mk 0 0 0))))
  | 129=>some (.fT (List.replicate n (Sum.mk ⟨#[]⟩ 0)))
  | 149=>some (.fR (List.replicate n (Bind.mk 0 ⟨#[]⟩ 0 (aL.mk 0 0 0))))
  | 61=>some (.eV (List.replicate n (Op.mk (aL.mk 0 0 0) 0 0 0 ⟨#[]⟩ ⟨#[]⟩ 0 0 [])))
  | 105=>some (.fD (List.replicate n (Want.mk ⟨#[]⟩ 0 0 0)))
  | 80=>some (.fJ (List.replicate n (Act.mk 0 0 0 [] [])))
  | 4=>some (.gq (List.replicate n false))
  | 56=>some (.gx (List.replicate n (cH.mk 0 0 0 0 0 [] [])))
  | 47=>some (.gN (List.replicate n (Device.mk 0 0 (aU.mk 0 0 (aH.mk 0 0 0 0 [] [] [])))))
  | 25=>some (.gP (List.replicate n []))
  | 9=>some (.gv (List.replicate n ⟨#[]⟩))
  | _=>none
 ia:=fun c x y=>match x,y with
  | .fN a,.fN b=>some (.fN (cond c a b))
  | .eX a,.eX b=>some (.eX (cond c a b))
  | .fC a,.fC b=>some (.fC (cond c a b))
  | .eh a,.eh b=>some (.eh (cond c a b))
  | .fO a,.fO b=>some (.fO (cond c a b))
  | .eK a,.eK b=>some (.eK (cond c a b))
  | .fS a,.fS b=>some (.fS (cond c a b))
  | .fQ a,.fQ b=>some (.fQ (cond c a b))
  | .fT a,.fT b=>some (.fT (cond c a b))
  | .fR a,.fR b=>some (.fR (cond c a b))
  | .eV a,.eV b=>some (.eV (cond c a b))
  | .fD a,.fD b=>some (.fD (cond c a b))
  | .fJ a,.fJ b=>some (.fJ (cond c a b))
  | .gq a,.gq b=>some (.gq (cond c a b))
  | .gx a,.gx b=>some (.gx (cond c a b))
  | .gN a,.gN b=>some (.gN (cond c a b))
  | .gP a,.gP b=>some (.gP (cond c a b))
  | .gv a,.gv b=>some (.gv (cond c a b))
  | _,_=>none
 flat:=fun
  | .fN _=>true
  | .eX _=>true
  | .fC _=>true
  | .eh _=>true
  | .fO _=>false
  | .eK _=>true
  | .fS _=>true
  | .fQ _=>true
  | .fT _=>true
  | .fR _=>true
  | .eV _=>false
  | .fD _=>true
  | .fJ _=>false
  | .gq _=>true
  | .gx _=>false
  | .gN _=>false
  | .gP _=>false
  | .gv _=>true
theorem cK {k:IntKind}{x:I TL}{n:Int}(h:cJ k x=some n):Le x (.int k n):=(DI.int (L:=TL) k).ok _ _ (by cases x<;>exact h)
theorem aFl {x:I TL}{b:Bool}(h:Ua x=some b):Le x (.bool b):=(DI.bool (L:=TL)).ok _ _ (by cases x<;>exact h)
theorem jS {x:I TL}{s:ByteArray}(h:ir x=some s):Le x (.str s):=by
 unfold ir at h
 split at h
 ·cases h;exact fun _ _ hv=>hv
 ·cases h
theorem fF {G:Fz}{l:TL}(h:LI.aJ l=[]):bL G (.fz l) (.slice none 0 0):=.fz (k:=0) (o:=0) (vals:=fun _ _=>undef) (by rw [h];rfl) (Nat.le_refl _) (fun h=>absurd h (Nat.lt_irrefl _)) (fun i j cs x e=>by rw [h] at e;simp at e) (fun i j cs x e=>by rw [h] at e;simp at e)
theorem FF {x:I TL}{l:List bP}(h:tu x=some l):Le x (.fz (.fN l)):=by
 unfold tu at h
 split at h
 ·cases h;exact fun _ _ hv=>hv
 ·cases h
  intro G v hv
  cases hv
  exact fF rfl
 ·cases h
theorem nQ {x:I TL}{l:List Range}(h:lf x=some l):Le x (.fz (.eX l)):=by
 unfold lf at h
 split at h
 ·cases h;exact fun _ _ hv=>hv
 ·cases h
  intro G v hv
  cases hv
  exact fF rfl
 ·cases h
theorem tT {x:I TL}{l:List Slice}(h:ni x=some l):Le x (.fz (.fC l)):=by
 unfold ni at h
 split at h
 ·cases h;exact fun _ _ hv=>hv
 ·cases h
  intro G v hv
  cases hv
  exact fF rfl
 ·cases h
theorem pT {x:I TL}{l:List Int}(h:mi x=some l):Le x (.fz (.eh l)):=by
 unfold mi at h
 split at h
 ·cases h;exact fun _ _ hv=>hv
 ·cases h
  intro G v hv
  cases hv
  exact fF rfl
 ·cases h
theorem Fw {x:I TL}{l:List aH}(h:uq x=some l):Le x (.fz (.fO l)):=by
 unfold uq at h
 split at h
 ·cases h;exact fun _ _ hv=>hv
 ·cases h
  intro G v hv
  cases hv
  exact fF rfl
 ·cases h
theorem tU {x:I TL}{l:List aL}(h:l9 x=some l):Le x (.fz (.eK l)):=by
 unfold l9 at h
 split at h
 ·cases h;exact fun _ _ hv=>hv
 ·cases h
  intro G v hv
  cases hv
  exact fF rfl
 ·cases h
theorem Hv {x:I TL}{l:List db}(h:vz x=some l):Le x (.fz (.fS l)):=by
 unfold vz at h
 split at h
 ·cases h;exact fun _ _ hv=>hv
 ·cases h
  intro G v hv
  cases hv
  exact fF rfl
 ·cases h
theorem HA {x:I TL}{l:List cR}(h:vY x=some l):Le x (.fz (.fQ l)):=by
 unfold vY at h
 split at h
 ·cases h;exact fun _ _ hv=>hv
 ·cases h
  intro G v hv
  cases hv
  exact fF rfl
 ·cases h
theorem Iy {x:I TL}{l:List Sum}(h:wE x=some l):Le x (.fz (.fT l)):=by
 unfold wE at h
 split at h
 ·cases h;exact fun _ _ hv=>hv
 ·cases h
  intro G v hv
  cases hv
  exact fF rfl
 ·cases h
theorem Gq {x:I TL}{l:List Bind}(h:vc x=some l):Le x (.fz (.fR l)):=by
 unfold vc at h
 split at h
 ·cases h;exact fun _ _ hv=>hv
 ·cases h
  intro G v hv
  cases hv
  exact fF rfl
 ·cases h
theorem B2 {x:I TL}{l:List Op}(h:mw x=some l):Le x (.fz (.eV l)):=by
 unfold mw at h
 split at h
 ·cases h;exact fun _ _ hv=>hv
 ·cases h
  intro G v hv
  cases hv
  exact fF rfl
 ·cases h
theorem zd {x:I TL}{l:List Want}(h:pj x=some l):Le x (.fz (.fD l)):=by
 unfold pj at h
 split at h
 ·cases h;exact fun _ _ hv=>hv
 ·cases h
  intro G v hv
  cases hv
  exact fF rfl
 ·cases h
theorem Zd {x:I TL}{l:List Act}(h:CG x=some l):Le x (.fz (.fJ l)):=by
 unfold CG at h
 split at h
 ·cases h;exact fun _ _ hv=>hv
 ·cases h
  intro G v hv
  cases hv
  exact fF rfl
 ·cases h
theorem yj {l:List (I TL)}{x:bP}(h:pJ l=some x):aZ Le l (n4 x):=by
 unfold pJ at h
 split at h
 ·simp only [cm] at h
  obtain ⟨_,h0,_,h1,_,h2,_,h3,_,h4,_,h5,_,h6,h⟩:=h
  cases h
  exact .cons (jS h0) (.cons (cK h1) (.cons (cK h2) (.cons (cK h3) (.cons (cK h4) (.cons (cK h5) (.cons (cK h6) (.nil)))))))
 ·cases h
theorem zI {l:List (I TL)}{x:Range}(h:pY l=some x):aZ Le l (nj x):=by
 unfold pY at h
 split at h
 ·simp only [cm] at h
  obtain ⟨_,h0,_,h1,h⟩:=h
  cases h
  exact .cons (cK h0) (.cons (cK h1) (.nil))
 ·cases h
theorem Fe {l:List (I TL)}{x:Slice}(h:ur l=some x):aZ Le l (pt x):=by
 unfold ur at h
 split at h
 ·simp only [cm] at h
  obtain ⟨_,h0,_,h1,_,h2,_,h3,_,h4,h⟩:=h
  cases h
  exact .cons (jS h0) (.cons (cK h1) (.cons (cK h2) (.cons (cK h3) (.cons (cK h4) (.nil)))))
 ·cases h
theorem zB {l:List (I TL)}{x:aH}(h:p6 l=some x):aZ Le l (pz x):=by
 unfold p6 at h
 split at h
 ·simp only [cm] at h
  obtain ⟨_,h0,_,h1,_,h2,_,h3,_,h4,_,h5,_,h6,h⟩:=h
  cases h
  exact .cons (cK h0) (.cons (cK h1) (.cons (cK h2) (.cons (cK h3) (.cons (tT h4) (.cons (nQ h5) (.cons (pT h6) (.nil)))))))
 ·cases h
theorem YD {l:List (I TL)}{x:aG}(h:Bu l=some x):aZ Le l (N6 x):=by
 unfold Bu at h
 split at h
 ·simp only [cm] at h
  obtain ⟨_,h0,_,h1,_,h2,_,h3,h⟩:=h
  cases h
  exact .cons (FF h0) (.cons (nQ h1) (.cons (Fw h2) (.cons (pT h3) (.nil))))
 ·cases h
theorem yu {l:List (I TL)}{x:aL}(h:ph l=some x):aZ Le l (jq x):=by
 unfold ph at h
 split at h
 ·simp only [cm] at h
  obtain ⟨_,h0,_,h1,_,h2,h⟩:=h
  cases h
  exact .cons (cK h0) (.cons (cK h1) (.cons (cK h2) (.nil)))
 ·cases h
theorem Io {l:List (I TL)}{x:db}(h:wF l=some x):aZ Le l (qh x):=by
 unfold wF at h
 split at h
 ·simp only [cm] at h
  obtain ⟨_,h0,_,h1,_,h2,_,h3,_,h4,_,h5,_,h6,h⟩:=h
  cases h
  exact .cons (jS h0) (.cons (jS h1) (.cons (cK h2) (.cons (cK h3) (.cons (cK h4) (.cons (cK h5) (.cons (cK h6) (.nil)))))))
 ·cases h
theorem HJ {l:List (I TL)}{x:cR}(h:v8 l=some x):aZ Le l (qN x):=by
 unfold v8 at h
 split at h
 ·simp only [cm] at h
  obtain ⟨_,h0,_,h1,_,h2,_,h3,_,h4,_,h5,h⟩:=h
  cases h
  exact .cons (jS h0) (.cons (jS h1) (.cons (cK h2) (.cons (cK h3) (.cons (cK h4) (.cons (cK h5) (.nil))))))
 ·cases h
theorem Ix {l:List (I TL)}{x:Sum}(h:vr l=some x):aZ Le l (qU x):=by
 unfold vr at h
 split at h
 ·simp only [cm] at h
  obtain ⟨_,h0,_,h1,h⟩:=h
  cases h
  exact .cons (jS h0) (.cons (cK h1) (.nil))
 ·cases h
theorem HE {l:List (I TL)}{x:Bind}(h:vV l=some x):aZ Le l (qH x):=by
 unfold vV at h
 split at h
 ·simp only [cm] at h
  obtain ⟨_,h0,_,h1,_,h2,_,h3,_,h4,_,h5,h⟩:=h
  cases h
  exact .cons (cK h0) (.cons (jS h1) (.cons (cK h2) (.cons (cK h3) (.cons (cK h4) (.cons (cK h5) (.nil))))))
 ·cases h
theorem Xp {l:List (I TL)}{x:ag}(h:Bf l=some x):aZ Le l (OV x):=by
 unfold Bf at h
 split at h
 ·simp only [cm] at h
  obtain ⟨_,h0,_,h1,_,h2,_,h3,_,h4,_,h5,h⟩:=h
  cases h
  exact .cons (tU h0) (.cons (Hv h1) (.cons (HA h2) (.cons (tU h3) (.cons (Iy h4) (.cons (Gq h5) (.nil))))))
 ·cases h
theorem Ay {l:List (I TL)}{x:Op}(h:qZ l=some x):aZ Le l (mG x):=by
 unfold qZ at h
 split at h
 ·simp only [cm] at h
  obtain ⟨_,h0,_,h1,_,h2,_,h3,_,h4,_,h5,_,h6,_,h7,_,h8,_,h9,_,h10,h⟩:=h
  cases h
  exact .cons (cK h0) (.cons (cK h1) (.cons (cK h2) (.cons (cK h3) (.cons (cK h4) (.cons (cK h5) (.cons (jS h6) (.cons (jS h7) (.cons (cK h8) (.cons (cK h9) (.cons (tU h10) (.nil)))))))))))
 ·cases h
theorem Wc {l:List (I TL)}{x:aU}(h:BM l=some x):aZ Le l (L9 x):=by
 unfold BM at h
 split at h
 ·simp only [cm] at h
  obtain ⟨_,h0,_,h1,_,h2,_,h3,_,h4,_,h5,_,h6,_,h7,_,h8,h⟩:=h
  cases h
  exact .cons (cK h0) (.cons (cK h1) (.cons (cK h2) (.cons (cK h3) (.cons (cK h4) (.cons (cK h5) (.cons (tT h6) (.cons (nQ h7) (.cons (pT h8) (.nil)))))))))
 ·cases h
theorem yt {l:List (I TL)}{x:Device}(h:pO l=some x):aZ Le l (pd x):=by
 unfold pO at h
 split at h
 ·simp only [cm] at h
  obtain ⟨_,h0,_,h1,_,h2,_,h3,_,h4,_,h5,_,h6,_,h7,_,h8,_,h9,_,h10,h⟩:=h
  cases h
  exact .cons (cK h0) (.cons (cK h1) (.cons (cK h2) (.cons (cK h3) (.cons (cK h4) (.cons (cK h5) (.cons (cK h6) (.cons (cK h7) (.cons (tT h8) (.cons (nQ h9) (.cons (pT h10) (.nil)))))))))))
 ·cases h
theorem Hc {l:List (I TL)}{x:Want}(h:vi l=some x):aZ Le l (nz x):=by
 unfold vi at h
 split at h
 ·simp only [cm] at h
  obtain ⟨_,h0,_,h1,_,h2,_,h3,h⟩:=h
  cases h
  exact .cons (jS h0) (.cons (cK h1) (.cons (cK h2) (.cons (cK h3) (.nil))))
 ·cases h
theorem zu {l:List (I TL)}{x:cH}(h:qK l=some x):aZ Le l (q9 x):=by
 unfold qK at h
 split at h
 ·simp only [cm] at h
  obtain ⟨_,h0,_,h1,_,h2,_,h3,_,h4,_,h5,_,h6,h⟩:=h
  cases h
  exact .cons (cK h0) (.cons (cK h1) (.cons (cK h2) (.cons (cK h3) (.cons (cK h4) (.cons (zd h5) (.cons (B2 h6) (.nil)))))))
 ·cases h
theorem AT {l:List (I TL)}{x:Act}(h:qP l=some x):aZ Le l (oI x):=by
 unfold qP at h
 split at h
 ·simp only [cm] at h
  obtain ⟨_,h0,_,h1,_,h2,_,h3,_,h4,h⟩:=h
  cases h
  exact .cons (cK h0) (.cons (cK h1) (.cons (cK h2) (.cons (zd h3) (.cons (B2 h4) (.nil)))))
 ·cases h
theorem We {l:List (I TL)}{x:eY}(h:BV l=some x):aZ Le l (NB x):=by
 unfold BV at h
 split at h
 ·simp only [cm] at h
  obtain ⟨_,h0,_,h1,_,h2,_,h3,_,h4,_,h5,h⟩:=h
  cases h
  exact .cons (cK h0) (.cons (cK h1) (.cons (cK h2) (.cons (cK h3) (.cons (cK h4) (.cons (cK h5) (.nil))))))
 ·cases h
theorem Y9 {l:List (I TL)}{x:fg}(h:Be l=some x):aZ Le l (Nv x):=by
 unfold Be at h
 split at h
 ·simp only [cm] at h
  obtain ⟨_,h0,_,h1,h⟩:=h
  cases h
  exact .cons (cK h0) (.cons (cK h1) (.nil))
 ·cases h
theorem IX {l:List (I TL)}{x:Int}(h:vv l=some x):aZ Le l (qX x):=by
 unfold vv at h
 split at h
 ·simp only [cm] at h
  obtain ⟨_,h0,h⟩:=h
  cases h
  exact .cons (cK h0) (.nil)
 ·cases h
theorem Hg {l:List (I TL)}{x:Bool}(h:vf l=some x):aZ Le l (qQ x):=by
 unfold vf at h
 split at h
 ·simp only [cm] at h
  obtain ⟨_,h0,h⟩:=h
  cases h
  exact .cons (aFl h0) (.nil)
 ·cases h
theorem FU {l:List (I TL)}{x:List Range}(h:uY l=some x):aZ Le l (uo x):=by
 unfold uY at h
 split at h
 ·simp only [cm] at h
  obtain ⟨_,h0,h⟩:=h
  cases h
  exact .cons (nQ h0) (.nil)
 ·cases h
theorem JH {l:List (I TL)}{x:ByteArray}(h:vj l=some x):aZ Le l (qS x):=by
 unfold vj at h
 split at h
 ·simp only [cm] at h
  obtain ⟨_,h0,h⟩:=h
  cases h
  exact .cons (jS h0) (.nil)
 ·cases h
theorem gM {T:Type}{f:List (I TL)→Option T}{g:T→List (I TL)}(hf:∀ {c x},f c=some x→aZ Le c (g x)):∀ {css:List (List (I TL))} {l:List T},fh f css=some l→aZ (aZ Le) css (l.map g)
 | [],l,h=>by simp [fh] at h;subst h;exact .nil
 | c::r,l,h=>by
  simp only [fh] at h
  split at h
  ·rename_i x xs hx cO
   cases h
   exact .cons (hf hx) (gM hf cO)
  ·cases h
instance:aS TL where
 len:=fun l=>by cases l<;>simp [LI.len,LI.aJ]
 idx:=fun l i k=>by cases l<;>simp only [LI.idx,LI.aJ,List.getElem?_map,ob]<;>rename_i l<;>cases l[i]?<;>rfl
 size:=fun l cs h=>by
  cases l<;>simp only [LI.aJ,List.mem_map] at h<;>obtain ⟨x,_,rfl⟩:=h<;>rfl
 eI:=fun t css l h=>by
  simp only [LI.eI] at h
  split at h
  all_goals first | (cases h;done) | (split at h<;>first | (cases h;done) | skip)
  all_goals
   rename_i l hl;cases h
   first | exact gM yj hl | exact gM zI hl | exact gM Fe hl | exact gM IX hl | exact gM zB hl | exact gM yu hl | exact gM Io hl | exact gM HJ hl | exact gM Ix hl | exact gM HE hl | exact gM Ay hl | exact gM Hc hl | exact gM AT hl | exact gM Hg hl | exact gM zu hl | exact gM yt hl | exact gM FU hl | exact gM JH hl
 dO:=fun a b l h=>by
  simp only [LI.dO] at h
  split at h<;>cases h<;>simp [LI.aJ,LI.sz]
 sub:=fun l lo hi=>by cases l<;>simp [LI.sub,LI.aJ,LI.sz,List.map_drop,List.map_take]
 set:=fun l i cs l' h=>by
  simp only [LI.set] at h
  split at h
  ·split at h
   ·rename_i y hy;cases h;exact ⟨_,yj hy,by simp [LI.aJ,List.map_set],rfl⟩
   ·cases h
  ·split at h
   ·rename_i y hy;cases h;exact ⟨_,zI hy,by simp [LI.aJ,List.map_set],rfl⟩
   ·cases h
  ·split at h
   ·rename_i y hy;cases h;exact ⟨_,Fe hy,by simp [LI.aJ,List.map_set],rfl⟩
   ·cases h
  ·split at h
   ·rename_i y hy;cases h;exact ⟨_,IX hy,by simp [LI.aJ,List.map_set],rfl⟩
   ·cases h
  ·split at h
   ·rename_i y hy;cases h;exact ⟨_,zB hy,by simp [LI.aJ,List.map_set],rfl⟩
   ·cases h
  ·split at h
   ·rename_i y hy;cases h;exact ⟨_,yu hy,by simp [LI.aJ,List.map_set],rfl⟩
   ·cases h
  ·split at h
   ·rename_i y hy;cases h;exact ⟨_,Io hy,by simp [LI.aJ,List.map_set],rfl⟩
   ·cases h
  ·split at h
   ·rename_i y hy;cases h;exact ⟨_,HJ hy,by simp [LI.aJ,List.map_set],rfl⟩
   ·cases h
  ·split at h
   ·rename_i y hy;cases h;exact ⟨_,Ix hy,by simp [LI.aJ,List.map_set],rfl⟩
   ·cases h
  ·split at h
   ·rename_i y hy;cases h;exact ⟨_,HE hy,by simp [LI.aJ,List.map_set],rfl⟩
   ·cases h
  ·split at h
   ·rename_i y hy;cases h;exact ⟨_,Ay hy,by simp [LI.aJ,List.map_set],rfl⟩
   ·cases h
  ·split at h
   ·rename_i y hy;cases h;exact ⟨_,Hc hy,by simp [LI.aJ,List.map_set],rfl⟩
   ·cases h
  ·split at h
   ·rename_i y hy;cases h;exact ⟨_,AT hy,by simp [LI.aJ,List.map_set],rfl⟩
   ·cases h
  ·split at h
   ·rename_i y hy;cases h;exact ⟨_,Hg hy,by simp [LI.aJ,List.map_set],rfl⟩
   ·cases h
  ·split at h
   ·rename_i y hy;cases h;exact ⟨_,zu hy,by simp [LI.aJ,List.map_set],rfl⟩
   ·cases h
  ·split at h
   ·rename_i y hy;cases h;exact ⟨_,yt hy,by simp [LI.aJ,List.map_set],rfl⟩
   ·cases h
  ·split at h
   ·rename_i y hy;cases h;exact ⟨_,FU hy,by simp [LI.aJ,List.map_set],rfl⟩
   ·cases h
  ·split at h
   ·rename_i y hy;cases h;exact ⟨_,JH hy,by simp [LI.aJ,List.map_set],rfl⟩
   ·cases h
 ia:=fun c a b l h=>by
  simp only [LI.ia] at h
  split at h<;>cases h<;>cases c<;>simp [LI.aJ,LI.sz]
 flat:=fun l h cs hcs x hx G G' v hv=>by
  cases l<;>simp only [LI.flat] at h<;>first | (cases h;done) | skip
  all_goals
   simp only [LI.aJ,List.mem_map] at hcs
   obtain ⟨y,_,rfl⟩:=hcs
   first
    | (simp only [n4,List.mem_cons,List.not_mem_nil,or_false] at hx;rcases hx with rfl | rfl | rfl | rfl | rfl | rfl | rfl<;>cases hv<;>constructor)
    | (simp only [nj,List.mem_cons,List.not_mem_nil,or_false] at hx;rcases hx with rfl | rfl<;>cases hv<;>constructor)
    | (simp only [pt,List.mem_cons,List.not_mem_nil,or_false] at hx;rcases hx with rfl | rfl | rfl | rfl | rfl<;>cases hv<;>constructor)
    | (simp only [qX,List.mem_cons,List.not_mem_nil,or_false] at hx;rcases hx with rfl<;>cases hv<;>constructor)
    | (simp only [jq,List.mem_cons,List.not_mem_nil,or_false] at hx;rcases hx with rfl | rfl | rfl<;>cases hv<;>constructor)
    | (simp only [qh,List.mem_cons,List.not_mem_nil,or_false] at hx;rcases hx with rfl | rfl | rfl | rfl | rfl | rfl | rfl<;>cases hv<;>constructor)
    | (simp only [qN,List.mem_cons,List.not_mem_nil,or_false] at hx;rcases hx with rfl | rfl | rfl | rfl | rfl | rfl<;>cases hv<;>constructor)
    | (simp only [qU,List.mem_cons,List.not_mem_nil,or_false] at hx;rcases hx with rfl | rfl<;>cases hv<;>constructor)
    | (simp only [qH,List.mem_cons,List.not_mem_nil,or_false] at hx;rcases hx with rfl | rfl | rfl | rfl | rfl | rfl<;>cases hv<;>constructor)
    | (simp only [nz,List.mem_cons,List.not_mem_nil,or_false] at hx;rcases hx with rfl | rfl | rfl | rfl<;>cases hv<;>constructor)
    | (simp only [qQ,List.mem_cons,List.not_mem_nil,or_false] at hx;rcases hx with rfl<;>cases hv<;>constructor)
    | (simp only [qS,List.mem_cons,List.not_mem_nil,or_false] at hx;rcases hx with rfl<;>cases hv<;>constructor)
 bytes:=fun l s h=>by simp [LI.bytes] at h
 ofStr:=fun t s l h=>by simp [LI.ofStr] at h
theorem aJt:mD TL tab where
 eI:=fun t css l i h hi=>by
  simp only [LI.eI] at h
  split at h
  all_goals first | (cases h;done) | (split at h<;>first | (cases h;done) | skip)
  all_goals
   cases h
   first | (cases (Lj.symm.trans hi);rfl) | (cases (LC.symm.trans hi);rfl) | (cases (J3.symm.trans hi);rfl) | (cases (Nl.symm.trans hi);rfl) | (cases (NT.symm.trans hi);rfl) | (cases (Mo.symm.trans hi);rfl) | (cases (NA.symm.trans hi);rfl) | (cases (JV.symm.trans hi);rfl) | (cases (KV.symm.trans hi);rfl) | (cases (Jj.symm.trans hi);rfl) | (cases (JY.symm.trans hi);rfl) | (cases (MZ.symm.trans hi);rfl) | (cases (KQ.symm.trans hi);rfl) | (cases (LW.symm.trans hi);rfl) | (cases (Nh.symm.trans hi);rfl) | (cases (MK.symm.trans hi);rfl) | (cases (M6.symm.trans hi);rfl) | (cases (LZ.symm.trans hi);rfl) | (cases (N9.symm.trans hi);rfl)
 cP:=fun t n l h=>by
  simp only [LI.cP] at h
  split at h
  ·cases h;exact ⟨_,_,n4 (bP.mk ⟨#[]⟩ 0 0 0 0 0 0),Lj,rfl,by simp [LI.aJ],rfl,.cons (fun _=>.str) (.cons (fun _=>.int) (.cons (fun _=>.int) (.cons (fun _=>.int) (.cons (fun _=>.int) (.cons (fun _=>.int) (.cons (fun _=>.int) (.nil)))))))⟩
  ·cases h;exact ⟨_,_,nj (Range.mk 0 0),LC,rfl,by simp [LI.aJ],rfl,.cons (fun _=>.int) (.cons (fun _=>.int) (.nil))⟩
  ·cases h;exact ⟨_,_,pt (Slice.mk ⟨#[]⟩ 0 0 0 0),J3,rfl,by simp [LI.aJ],rfl,.cons (fun _=>.str) (.cons (fun _=>.int) (.cons (fun _=>.int) (.cons (fun _=>.int) (.cons (fun _=>.int) (.nil)))))⟩
  ·cases h;exact ⟨_,_,qX 0,Nl,rfl,by simp [LI.aJ],rfl,.cons (fun _=>.int) (.nil)⟩
  ·cases h;exact ⟨_,_,pz (aH.mk 0 0 0 0 [] [] []),NT,rfl,by simp [LI.aJ],rfl,.cons (fun _=>.int) (.cons (fun _=>.int) (.cons (fun _=>.int) (.cons (fun _=>.int) (.cons (fun _=>fF rfl) (.cons (fun _=>fF rfl) (.cons (fun _=>fF rfl) (.nil)))))))⟩
  ·cases h;exact ⟨_,_,jq (aL.mk 0 0 0),Mo,rfl,by simp [LI.aJ],rfl,.cons (fun _=>.int) (.cons (fun _=>.int) (.cons (fun _=>.int) (.nil)))⟩
  ·cases h;exact ⟨_,_,jq (aL.mk 0 0 0),NA,rfl,by simp [LI.aJ],rfl,.cons (fun _=>.int) (.cons (fun _=>.int) (.cons (fun _=>.int) (.nil)))⟩
  ·cases h;exact ⟨_,_,qh (db.mk ⟨#[]⟩ ⟨#[]⟩ 0 0 (aL.mk 0 0 0)),JV,rfl,by simp [LI.aJ],rfl,.cons (fun _=>.str) (.cons (fun _=>.str) (.cons (fun _=>.int) (.cons (fun _=>.int) (.cons (fun _=>.int) (.cons (fun _=>.int) (.cons (fun _=>.int) (.nil)))))))⟩
  ·cases h;exact ⟨_,_,qN (cR.mk ⟨#[]⟩ ⟨#[]⟩ 0 (aL.mk 0 0 0)),KV,rfl,by simp [LI.aJ],rfl,.cons (fun _=>.str) (.cons (fun _=>.str) (.cons (fun _=>.int) (.cons (fun _=>.int) (.cons (fun _=>.int) (.cons (fun _=>.int) (.nil))))))⟩
  ·cases h;exact ⟨_,_,qU (Sum.mk ⟨#[]⟩ 0),Jj,rfl,by simp [LI.aJ],rfl,.cons (fun _=>.str) (.cons (fun _=>.int) (.nil))⟩
  ·cases h;exact ⟨_,_,qH (Bind.mk 0 ⟨#[]⟩ 0 (aL.mk 0 0 0)),JY,rfl,by simp [LI.aJ],rfl,.cons (fun _=>.int) (.cons (fun _=>.str) (.cons (fun _=>.int) (.cons (fun _=>.int) (.cons (fun _=>.int) (.cons (fun _=>.int) (.nil))))))⟩
  ·cases h;exact ⟨_,_,mG (Op.mk (aL.mk 0 0 0) 0 0 0 ⟨#[]⟩ ⟨#[]⟩ 0 0 []),MZ,rfl,by simp [LI.aJ],rfl,.cons (fun _=>.int) (.cons (fun _=>.int) (.cons (fun _=>.int) (.cons (fun _=>.int) (.cons (fun _=>.int) (.cons (fun _=>.int) (.cons (fun _=>.str) (.cons (fun _=>.str) (.cons (fun _=>.int) (.cons (fun _=>.int) (.cons (fun _=>fF rfl) (.nil)))))))))))⟩
  ·cases h;exact ⟨_,_,nz (Want.mk ⟨#[]⟩ 0 0 0),KQ,rfl,by simp [LI.aJ],rfl,.cons (fun _=>.str) (.cons (fun _=>.int) (.cons (fun _=>.int) (.cons (fun _=>.int) (.nil))))⟩
  ·cases h;exact ⟨_,_,oI (Act.mk 0 0 0 [] []),LW,rfl,by simp [LI.aJ],rfl,.cons (fun _=>.int) (.cons (fun _=>.int) (.cons (fun _=>.int) (.cons (fun _=>fF rfl) (.cons (fun _=>fF rfl) (.nil)))))⟩
  ·cases h;exact ⟨_,_,qQ false,Nh,rfl,by simp [LI.aJ],rfl,.cons (fun _=>.bool) (.nil)⟩
  ·cases h;exact ⟨_,_,q9 (cH.mk 0 0 0 0 0 [] []),MK,rfl,by simp [LI.aJ],rfl,.cons (fun _=>.int) (.cons (fun _=>.int) (.cons (fun _=>.int) (.cons (fun _=>.int) (.cons (fun _=>.int) (.cons (fun _=>fF rfl) (.cons (fun _=>fF rfl) (.nil)))))))⟩
  ·cases h;exact ⟨_,_,pd (Device.mk 0 0 (aU.mk 0 0 (aH.mk 0 0 0 0 [] [] []))),M6,rfl,by simp [LI.aJ],rfl,.cons (fun _=>.int) (.cons (fun _=>.int) (.cons (fun _=>.int) (.cons (fun _=>.int) (.cons (fun _=>.int) (.cons (fun _=>.int) (.cons (fun _=>.int) (.cons (fun _=>.int) (.cons (fun _=>fF rfl) (.cons (fun _=>fF rfl) (.cons (fun _=>fF rfl) (.nil)))))))))))⟩
  ·cases h;exact ⟨_,_,uo [],LZ,rfl,by simp [LI.aJ],rfl,.cons (fun _=>fF rfl) (.nil)⟩
  ·cases h;exact ⟨_,_,qS ⟨#[]⟩,N9,rfl,by simp [LI.aJ],rfl,.cons (fun _=>.str) (.nil)⟩
  ·cases h
def cY:aD.fV TL (List bP):=⟨TL.fN,fun | .fN l=>some l | _=>none,fun l t h=>by cases l<;>simp_all⟩
def nV:DI TL (List bP):=⟨fun l=>.fz (.fN l),tu,fun _ _ h=>FF h⟩
def aj:aD.fV TL (List Range):=⟨TL.eX,fun | .eX l=>some l | _=>none,fun l t h=>by cases l<;>simp_all⟩
def ev:DI TL (List Range):=⟨fun l=>.fz (.eX l),lf,fun _ _ h=>nQ h⟩
def cD:aD.fV TL (List Slice):=⟨TL.fC,fun | .fC l=>some l | _=>none,fun l t h=>by cases l<;>simp_all⟩
def ld:DI TL (List Slice):=⟨fun l=>.fz (.fC l),ni,fun _ _ h=>tT h⟩
def bA:aD.fV TL (List Int):=⟨TL.eh,fun | .eh l=>some l | _=>none,fun l t h=>by cases l<;>simp_all⟩
def jR:DI TL (List Int):=⟨fun l=>.fz (.eh l),mi,fun _ _ h=>pT h⟩
def ch:aD.fV TL (List aH):=⟨TL.fO,fun | .fO l=>some l | _=>none,fun l t h=>by cases l<;>simp_all⟩
def aA6:DI TL (List aH):=⟨fun l=>.fz (.fO l),uq,fun _ _ h=>Fw h⟩
def bQ:aD.fV TL (List aL):=⟨TL.eK,fun | .eK l=>some l | _=>none,fun l t h=>by cases l<;>simp_all⟩
def eu:DI TL (List aL):=⟨fun l=>.fz (.eK l),l9,fun _ _ h=>tU h⟩
def dU:aD.fV TL (List db):=⟨TL.fS,fun | .fS l=>some l | _=>none,fun l t h=>by cases l<;>simp_all⟩
def qD:DI TL (List db):=⟨fun l=>.fz (.fS l),vz,fun _ _ h=>Hv h⟩
def dE:aD.fV TL (List cR):=⟨TL.fQ,fun | .fQ l=>some l | _=>none,fun l t h=>by cases l<;>simp_all⟩
def pr:DI TL (List cR):=⟨fun l=>.fz (.fQ l),vY,fun _ _ h=>HA h⟩
def dS:aD.fV TL (List Sum):=⟨TL.fT,fun | .fT l=>some l | _=>none,fun l t h=>by cases l<;>simp_all⟩
def qR:DI TL (List Sum):=⟨fun l=>.fz (.fT l),wE,fun _ _ h=>Iy h⟩
def dQ:aD.fV TL (List Bind):=⟨TL.fR,fun | .fR l=>some l | _=>none,fun l t h=>by cases l<;>simp_all⟩
def pn:DI TL (List Bind):=⟨fun l=>.fz (.fR l),vc,fun _ _ h=>Gq h⟩
def eH:aD.fV TL (List Op):=⟨TL.eV,fun | .eV l=>some l | _=>none,fun l t h=>by cases l<;>simp_all⟩
def Cp:DI TL (List Op):=⟨fun l=>.fz (.eV l),mw,fun _ _ h=>B2 h⟩
def gL:aD.fV TL (List Want):=⟨TL.fD,fun | .fD l=>some l | _=>none,fun l t h=>by cases l<;>simp_all⟩
def Bw:DI TL (List Want):=⟨fun l=>.fz (.fD l),pj,fun _ _ h=>zd h⟩
def oN:aD.fV TL (List Act):=⟨TL.fJ,fun | .fJ l=>some l | _=>none,fun l t h=>by cases l<;>simp_all⟩
def qC:DI TL (List Act):=⟨fun l=>.fz (.fJ l),CG,fun _ _ h=>Zd h⟩
def KA:aD.fV TL (List Device):=⟨TL.gN,fun | .gN l=>some l | _=>none,fun l t h=>by cases l<;>simp_all⟩
def p8:aD.fV TL (List (List Range)):=⟨TL.gP,fun | .gP l=>some l | _=>none,fun l t h=>by cases l<;>simp_all⟩
def IL:DC TL bP:=⟨n4,pJ,fun _ _ h=>yj h⟩
def Mq:DC TL Range:=⟨nj,pY,fun _ _ h=>zI h⟩
def jc:DC TL aH:=⟨pz,p6,fun _ _ h=>zB h⟩
def fq:DC TL aG:=⟨N6,Bu,fun _ _ h=>YD h⟩
def kv:DC TL aL:=⟨jq,ph,fun _ _ h=>yu h⟩
def qJ:DC TL ag:=⟨OV,Bf,fun _ _ h=>Xp h⟩
def jW:DC TL Op:=⟨mG,qZ,fun _ _ h=>Ay h⟩
def LS:DC TL aU:=⟨L9,BM,fun _ _ h=>Wc h⟩
def Kz:DC TL Device:=⟨pd,pO,fun _ _ h=>yt h⟩
def kz:DC TL aw:=DC.mU (DC.cons nV (DC.cons ev (DC.cons aA6 (DC.cons jR (DC.cons eu (DC.cons qD (DC.cons pr (DC.cons eu (DC.cons qR (DC.cons pn (DC.cons eu (DC.cons qD (DC.cons pr (DC.cons eu (DC.cons qR (DC.cons pn (DC.cons eu (DC.cons qD (DC.cons pr (DC.cons eu (DC.cons qR (DC.cons pn (DC.cons Cp (DC.cons (DI.int .i64) (DC.cons (DI.int .i64) (DC.cons (DI.int .i64) (DC.cons (DI.int .i64) (DC.cons (DI.int .i64) (DC.cons (DI.int .i64) (DC.cons (DI.int .i64) (DC.cons (DI.int .i64) (DC.cons ld (DC.cons ev (DC.cons jR (DC.cons (DI.int .i64) (DC.cons (DI.int .i64) (DC.cons (DI.int .i64) (DC.cons (DI.int .i64) (DC.cons (DI.int .i64) (DC.cons (DI.int .i64) (DC.cons (DI.int .i64) (DC.cons (DI.int .i64) (DC.cons ld (DC.cons ev (DC.cons jR (DC.cons (DI.int .i64) (DC.cons (DI.int .i64) (DC.cons (DI.int .i64) (DC.cons (DI.int .i64) (DC.cons (DI.int .i64) (DC.cons (DI.int .i64) (DC.cons (DI.int .i64) (DC.cons (DI.int .i64) (DC.cons ld (DC.cons ev (DC.cons jR (DC.cons (DI.int .i64) (DC.cons (DI.int .i64) (DC.cons (DI.int .i64) (DC.cons (DI.int .i64) (DC.cons (DI.int .i64) (DC.cons (DI.int .i64) (DC.cons (DI.int .i64) (DC.cons (DI.int .i64) (DC.cons ld (DC.cons ev (DC.cons jR (DC.cons (DI.int .i64) (DC.cons (DI.int .i64) (DC.cons (DI.int .i64) (DC.cons (DI.int .i64) (DC.cons (DI.int .i64) (DC.cons (DI.int .i64) (DC.cons (DI.int .i64) (DC.cons (DI.int .i64) (DC.cons ld (DC.cons ev (DC.cons jR (DC.cons (DI.int .i64) (DC.cons (DI.int .i64) (DC.cons (DI.int .i64) (DC.cons (DI.int .i64) (DC.cons (DI.int .i64) (DC.cons (DI.int .i64) (DC.cons (DI.int .i64) (DC.cons (DI.int .i64) (DC.cons ld (DC.cons ev (DC.cons jR (DC.cons eu (DC.cons (DI.int .i64) (DC.nil)))))))))))))))))))))))))))))))))))))))))))))))))))))))))))))))))))))))))))))))))))))))))))) (fun p=>(aw.mk (aG.mk p.1 p.2.1 p.2.2.1 p.2.2.2.1) (gQ.mk (ag.mk p.2.2.2.2.1 p.2.2.2.2.2.1 p.2.2.2.2.2.2.1 p.2.2.2.2.2.2.2.1 (t8 p).1 (t8 p).2.1) (ag.mk (t8 p).2.2.1 (t8 p).2.2.2.1 (t8 p).2.2.2.2.1 (t8 p).2.2.2.2.2.1 (t8 p).2.2.2.2.2.2.1 (t8 p).2.2.2.2.2.2.2.1) (ag.mk (t8 (t8 p)).1 (t8 (t8 p)).2.1 (t8 (t8 p)).2.2.1 (t8 (t8 p)).2.2.2.1 (t8 (t8 p)).2.2.2.2.1 (t8 (t8 p)).2.2.2.2.2.1)) (t8 (t8 p)).2.2.2.2.2.2.1 (eP.mk (Device.mk (t8 (t8 p)).2.2.2.2.2.2.2.1 (t8 (t8 (t8 p))).1 (aU.mk (t8 (t8 (t8 p))).2.1 (t8 (t8 (t8 p))).2.2.1 (aH.mk (t8 (t8 (t8 p))).2.2.2.1 (t8 (t8 (t8 p))).2.2.2.2.1 (t8 (t8 (t8 p))).2.2.2.2.2.1 (t8 (t8 (t8 p))).2.2.2.2.2.2.1 (t8 (t8 (t8 p))).2.2.2.2.2.2.2.1 (t32 p).1 (t32 p).2.1))) (Device.mk (t32 p).2.2.1 (t32 p).2.2.2.1 (aU.mk (t32 p).2.2.2.2.1 (t32 p).2.2.2.2.2.1 (aH.mk (t32 p).2.2.2.2.2.2.1 (t32 p).2.2.2.2.2.2.2.1 (t8 (t32 p)).1 (t8 (t32 p)).2.1 (t8 (t32 p)).2.2.1 (t8 (t32 p)).2.2.2.1 (t8 (t32 p)).2.2.2.2.1))) (Device.mk (t8 (t32 p)).2.2.2.2.2.1 (t8 (t32 p)).2.2.2.2.2.2.1 (aU.mk (t8 (t32 p)).2.2.2.2.2.2.2.1 (t8 (t8 (t32 p))).1 (aH.mk (t8 (t8 (t32 p))).2.1 (t8 (t8 (t32 p))).2.2.1 (t8 (t8 (t32 p))).2.2.2.1 (t8 (t8 (t32 p))).2.2.2.2.1 (t8 (t8 (t32 p))).2.2.2.2.2.1 (t8 (t8 (t32 p))).2.2.2.2.2.2.1 (t8 (t8 (t32 p))).2.2.2.2.2.2.2.1))) (Device.mk (t8 (t8 (t8 (t32 p)))).1 (t8 (t8 (t8 (t32 p)))).2.1 (aU.mk (t8 (t8 (t8 (t32 p)))).2.2.1 (t8 (t8 (t8 (t32 p)))).2.2.2.1 (aH.mk (t8 (t8 (t8 (t32 p)))).2.2.2.2.1 (t8 (t8 (t8 (t32 p)))).2.2.2.2.2.1 (t8 (t8 (t8 (t32 p)))).2.2.2.2.2.2.1 (t8 (t8 (t8 (t32 p)))).2.2.2.2.2.2.2.1 (t32 (t32 p)).1 (t32 (t32 p)).2.1 (t32 (t32 p)).2.2.1))) (Device.mk (t32 (t32 p)).2.2.2.1 (t32 (t32 p)).2.2.2.2.1 (aU.mk (t32 (t32 p)).2.2.2.2.2.1 (t32 (t32 p)).2.2.2.2.2.2.1 (aH.mk (t32 (t32 p)).2.2.2.2.2.2.2.1 (t8 (t32 (t32 p))).1 (t8 (t32 (t32 p))).2.1 (t8 (t32 (t32 p))).2.2.1 (t8 (t32 (t32 p))).2.2.2.1 (t8 (t32 (t32 p))).2.2.2.2.1 (t8 (t32 (t32 p))).2.2.2.2.2.1))) (Device.mk (t8 (t32 (t32 p))).2.2.2.2.2.2.1 (t8 (t32 (t32 p))).2.2.2.2.2.2.2.1 (aU.mk (t8 (t8 (t32 (t32 p)))).1 (t8 (t8 (t32 (t32 p)))).2.1 (aH.mk (t8 (t8 (t32 (t32 p)))).2.2.1 (t8 (t8 (t32 (t32 p)))).2.2.2.1 (t8 (t8 (t32 (t32 p)))).2.2.2.2.1 (t8 (t8 (t32 (t32 p)))).2.2.2.2.2.1 (t8 (t8 (t32 (t32 p)))).2.2.2.2.2.2.1 (t8 (t8 (t32 (t32 p)))).2.2.2.2.2.2.2.1 (t8 (t8 (t8 (t32 (t32 p))))).1)))) (t8 (t8 (t8 (t32 (t32 p))))).2.1 (t8 (t8 (t8 (t32 (t32 p))))).2.2.1)) (fun (x:aw)=>(x.book.af,(x.book.free,(x.book.aK,(x.book.bB,(x.aI.a0.v,(x.aI.a0.cB,(x.aI.a0.bp,(x.aI.a0.gone,(x.aI.a0.bJ,(x.aI.a0.binds,(x.aI.a1.v,(x.aI.a1.cB,(x.aI.a1.bp,(x.aI.a1.gone,(x.aI.a1.bJ,(x.aI.a1.binds,(x.aI.a2.v,(x.aI.a2.cB,(x.aI.a2.bp,(x.aI.a2.gone,(x.aI.a2.bJ,(x.aI.a2.binds,(x.log,(x.dev.a0.aA,(x.dev.a0.aO,(x.dev.a0.aB.err,(x.dev.a0.aB.n,(x.dev.a0.aB.aE.device,(x.dev.a0.aB.aE.aA,(x.dev.a0.aB.aE.bN,(x.dev.a0.aB.aE.last,(x.dev.a0.aB.aE.aW,(x.dev.a0.aB.aE.ids,(x.dev.a0.aB.aE.used,(x.dev.a1.aA,(x.dev.a1.aO,(x.dev.a1.aB.err,(x.dev.a1.aB.n,(x.dev.a1.aB.aE.device,(x.dev.a1.aB.aE.aA,(x.dev.a1.aB.aE.bN,(x.dev.a1.aB.aE.last,(x.dev.a1.aB.aE.aW,(x.dev.a1.aB.aE.ids,(x.dev.a1.aB.aE.used,(x.dev.a2.aA,(x.dev.a2.aO,(x.dev.a2.aB.err,(x.dev.a2.aB.n,(x.dev.a2.aB.aE.device,(x.dev.a2.aB.aE.aA,(x.dev.a2.aB.aE.bN,(x.dev.a2.aB.aE.last,(x.dev.a2.aB.aE.aW,(x.dev.a2.aB.aE.ids,(x.dev.a2.aB.aE.used,(x.dev.a3.aA,(x.dev.a3.aO,(x.dev.a3.aB.err,(x.dev.a3.aB.n,(x.dev.a3.aB.aE.device,(x.dev.a3.aB.aE.aA,(x.dev.a3.aB.aE.bN,(x.dev.a3.aB.aE.last,(x.dev.a3.aB.aE.aW,(x.dev.a3.aB.aE.ids,(x.dev.a3.aB.aE.used,(x.dev.a4.aA,(x.dev.a4.aO,(x.dev.a4.aB.err,(x.dev.a4.aB.n,(x.dev.a4.aB.aE.device,(x.dev.a4.aB.aE.aA,(x.dev.a4.aB.aE.bN,(x.dev.a4.aB.aE.last,(x.dev.a4.aB.aE.aW,(x.dev.a4.aB.aE.ids,(x.dev.a4.aB.aE.used,(x.dev.a5.aA,(x.dev.a5.aO,(x.dev.a5.aB.err,(x.dev.a5.aB.n,(x.dev.a5.aB.aE.device,(x.dev.a5.aB.aE.aA,(x.dev.a5.aB.aE.bN,(x.dev.a5.aB.aE.last,(x.dev.a5.aB.aE.aW,(x.dev.a5.aB.aE.ids,(x.dev.a5.aB.aE.used,(x.lost,(x.now,())))))))))))))))))))))))))))))))))))))))))))))))))))))))))))))))))))))))))))))))))))))))))))) (fun _=>rfl)
def P7:DC TL cH:=⟨q9,qK,fun _ _ h=>zu h⟩
def aFk:DC TL Act:=⟨oI,qP,fun _ _ h=>AT h⟩
def aDD:DC TL eY:=⟨NB,BV,fun _ _ h=>We h⟩
def vu:DC TL fg:=⟨Nv,Be,fun _ _ h=>Y9 h⟩
theorem base:UP TL Tryz.prog tab:=⟨fZ,aJt,by kernel_rfl⟩
end Go.Proofs.YtcjpeijiaojeiaaGreat
