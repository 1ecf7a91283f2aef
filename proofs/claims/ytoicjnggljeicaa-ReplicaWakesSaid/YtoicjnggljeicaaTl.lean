/- By program (gen.py): the typed lists of this program, and their laws. -/
import Derived.Test.YtoicjnggljeicaaTab
import Derived.Test.YtoicjnggljeicaaEd
namespace Go.Proofs.Ytoicjnggljeicaa
open Go Go.Ev
structure BoundsError where
 x:Int
 y:Int
 signed:Bool
 code:Int
structure ErrorAddressString where
 msg:ByteArray
 addr:Int
structure Entry where
 term_:Int
 cmd:ByteArray
structure A3Bool where
 a0:Bool
 a1:Bool
 a2:Bool
structure A3Int where
 a0:Int
 a1:Int
 a2:Int
structure Node where
 id_:Int
 term_:Int
 vote:Int
 base:Int
 baseTerm:Int
 snap:ByteArray
 log:List Entry
 role:Int
 commit:Int
 wait:Int
 votes:A3Bool
 next:A3Int
 match_:A3Int
structure Msg where
 kind:Int
 from_:Int
 to_:Int
 term_:Int
 index:Int
 logTerm:Int
 commit:Int
 yes:Bool
 entries:List Entry
 snap:ByteArray
structure Act where
 kind:Int
 i:Int
 n:Int
 cmd:ByteArray
structure A3Node where
 a0:Node
 a1:Node
 a2:Node
structure Three where
 n:A3Node
 m:List Msg
structure Worker where
 node:Node
 out:List Msg
inductive TL where
 | lInt (l:List Int)
 | lEntry (l:List Entry)
 | lMsg (l:List Msg)
 | lAct (l:List Act)
 | lU8 (l:List Int)
def iOf (k:IntKind)(x:I TL):Option Int:=match x with | .lit k1 n=>cond (keq k1 k) (some n) none | .int k1 n=>cond (keq k1 k) (some n) none | _=>none
def bOf (x:I TL):Option Bool:=match x with | .tt=>some true | .ff=>some false | .bool b=>some b | _=>none
def sOf (x:I TL):Option ByteArray:=match x with | .str s=>some s | _=>none
def of_lInt (x:I TL):Option (List Int):=match x with | .fz (.lInt l)=>some l | .val (.slice none 0 0)=>some [] | _=>none
def of_lEntry (x:I TL):Option (List Entry):=match x with | .fz (.lEntry l)=>some l | .val (.slice none 0 0)=>some [] | _=>none
def of_lMsg (x:I TL):Option (List Msg):=match x with | .fz (.lMsg l)=>some l | .val (.slice none 0 0)=>some [] | _=>none
def of_lAct (x:I TL):Option (List Act):=match x with | .fz (.lAct l)=>some l | .val (.slice none 0 0)=>some [] | _=>none
def of_lU8 (x:I TL):Option (List Int):=match x with | .fz (.lU8 l)=>some l | .val (.slice none 0 0)=>some [] | _=>none
def v_BoundsErrorC (x:BoundsError):List (I TL):=[.int .i64 x.x,.int .i64 x.y,.bool x.signed,.int .u8 x.code]
def v_BoundsErrorMk (l:List (I TL)):Option BoundsError:=match l with | x0::x1::x2::x3::[]=>(match iOf .i64 x0 with | some y0=>(match iOf .i64 x1 with | some y1=>(match bOf x2 with | some y2=>(match iOf .u8 x3 with | some y3=>(some (BoundsError.mk y0 y1 y2 y3)) | none=>none) | none=>none) | none=>none) | none=>none) | _=>none
def v_ErrorAddressStringC (x:ErrorAddressString):List (I TL):=[.str x.msg,.int .u64 x.addr]
def v_ErrorAddressStringMk (l:List (I TL)):Option ErrorAddressString:=match l with | x0::x1::[]=>(match sOf x0 with | some y0=>(match iOf .u64 x1 with | some y1=>(some (ErrorAddressString.mk y0 y1)) | none=>none) | none=>none) | _=>none
def v_EntryC (x:Entry):List (I TL):=[.int .i64 x.term_,.str x.cmd]
def v_EntryMk (l:List (I TL)):Option Entry:=match l with | x0::x1::[]=>(match iOf .i64 x0 with | some y0=>(match sOf x1 with | some y1=>(some (Entry.mk y0 y1)) | none=>none) | none=>none) | _=>none
def v_A3BoolC (x:A3Bool):List (I TL):=[.bool x.a0,.bool x.a1,.bool x.a2]
def v_A3BoolMk (l:List (I TL)):Option A3Bool:=match l with | x0::x1::x2::[]=>(match bOf x0 with | some y0=>(match bOf x1 with | some y1=>(match bOf x2 with | some y2=>(some (A3Bool.mk y0 y1 y2)) | none=>none) | none=>none) | none=>none) | _=>none
def v_A3IntC (x:A3Int):List (I TL):=[.int .i64 x.a0,.int .i64 x.a1,.int .i64 x.a2]
def v_A3IntMk (l:List (I TL)):Option A3Int:=match l with | x0::x1::x2::[]=>(match iOf .i64 x0 with | some y0=>(match iOf .i64 x1 with | some y1=>(match iOf .i64 x2 with | some y2=>(some (A3Int.mk y0 y1 y2)) | none=>none) | none=>none) | none=>none) | _=>none
def v_NodeC (x:Node):List (I TL):=[.int .i64 x.id_,.int .i64 x.term_,.int .i64 x.vote,.int .i64 x.base,.int .i64 x.baseTerm,.str x.snap,.fz (.lEntry x.log),.int .i64 x.role,.int .i64 x.commit,.int .i64 x.wait,.bool x.votes.a0,.bool x.votes.a1,.bool x.votes.a2,.int .i64 x.next.a0,.int .i64 x.next.a1,.int .i64 x.next.a2,.int .i64 x.match_.a0,.int .i64 x.match_.a1,.int .i64 x.match_.a2]
def v_NodeMk (l:List (I TL)):Option Node:=match l with | x0::x1::x2::x3::x4::x5::x6::x7::x8::x9::x10::x11::x12::x13::x14::x15::x16::x17::x18::[]=>(match iOf .i64 x0 with | some y0=>(match iOf .i64 x1 with | some y1=>(match iOf .i64 x2 with | some y2=>(match iOf .i64 x3 with | some y3=>(match iOf .i64 x4 with | some y4=>(match sOf x5 with | some y5=>(match of_lEntry x6 with | some y6=>(match iOf .i64 x7 with | some y7=>(match iOf .i64 x8 with | some y8=>(match iOf .i64 x9 with | some y9=>(match bOf x10 with | some y10=>(match bOf x11 with | some y11=>(match bOf x12 with | some y12=>(match iOf .i64 x13 with | some y13=>(match iOf .i64 x14 with | some y14=>(match iOf .i64 x15 with | some y15=>(match iOf .i64 x16 with | some y16=>(match iOf .i64 x17 with | some y17=>(match iOf .i64 x18 with | some y18=>(some (Node.mk y0 y1 y2 y3 y4 y5 y6 y7 y8 y9 (A3Bool.mk y10 y11 y12) (A3Int.mk y13 y14 y15) (A3Int.mk y16 y17 y18))) | none=>none) | none=>none) | none=>none) | none=>none) | none=>none) | none=>none) | none=>none) | none=>none) | none=>none) | none=>none) | none=>none) | none=>none) | none=>none) | none=>none) | none=>none) | none=>none) | none=>none) | none=>none) | none=>none) | _=>none
def v_MsgC (x:Msg):List (I TL):=[.int .i64 x.kind,.int .i64 x.from_,.int .i64 x.to_,.int .i64 x.term_,.int .i64 x.index,.int .i64 x.logTerm,.int .i64 x.commit,.bool x.yes,.fz (.lEntry x.entries),.str x.snap]
def v_MsgMk (l:List (I TL)):Option Msg:=match l with | x0::x1::x2::x3::x4::x5::x6::x7::x8::x9::[]=>(match iOf .i64 x0 with | some y0=>(match iOf .i64 x1 with | some y1=>(match iOf .i64 x2 with | some y2=>(match iOf .i64 x3 with | some y3=>(match iOf .i64 x4 with | some y4=>(match iOf .i64 x5 with | some y5=>(match iOf .i64 x6 with | some y6=>(match bOf x7 with | some y7=>(match of_lEntry x8 with | some y8=>(match sOf x9 with | some y9=>(some (Msg.mk y0 y1 y2 y3 y4 y5 y6 y7 y8 y9)) | none=>none) | none=>none) | none=>none) | none=>none) | none=>none) | none=>none) | none=>none) | none=>none) | none=>none) | none=>none) | _=>none
def v_ActC (x:Act):List (I TL):=[.int .i64 x.kind,.int .i64 x.i,.int .i64 x.n,.str x.cmd]
def v_ActMk (l:List (I TL)):Option Act:=match l with | x0::x1::x2::x3::[]=>(match iOf .i64 x0 with | some y0=>(match iOf .i64 x1 with | some y1=>(match iOf .i64 x2 with | some y2=>(match sOf x3 with | some y3=>(some (Act.mk y0 y1 y2 y3)) | none=>none) | none=>none) | none=>none) | none=>none) | _=>none
def v_WorkerC (x:Worker):List (I TL):=[.int .i64 x.node.id_,.int .i64 x.node.term_,.int .i64 x.node.vote,.int .i64 x.node.base,.int .i64 x.node.baseTerm,.str x.node.snap,.fz (.lEntry x.node.log),.int .i64 x.node.role,.int .i64 x.node.commit,.int .i64 x.node.wait,.bool x.node.votes.a0,.bool x.node.votes.a1,.bool x.node.votes.a2,.int .i64 x.node.next.a0,.int .i64 x.node.next.a1,.int .i64 x.node.next.a2,.int .i64 x.node.match_.a0,.int .i64 x.node.match_.a1,.int .i64 x.node.match_.a2,.fz (.lMsg x.out)]
def v_WorkerMk (l:List (I TL)):Option Worker:=match l with | x0::x1::x2::x3::x4::x5::x6::x7::x8::x9::x10::x11::x12::x13::x14::x15::x16::x17::x18::x19::[]=>(match iOf .i64 x0 with | some y0=>(match iOf .i64 x1 with | some y1=>(match iOf .i64 x2 with | some y2=>(match iOf .i64 x3 with | some y3=>(match iOf .i64 x4 with | some y4=>(match sOf x5 with | some y5=>(match of_lEntry x6 with | some y6=>(match iOf .i64 x7 with | some y7=>(match iOf .i64 x8 with | some y8=>(match iOf .i64 x9 with | some y9=>(match bOf x10 with | some y10=>(match bOf x11 with | some y11=>(match bOf x12 with | some y12=>(match iOf .i64 x13 with | some y13=>(match iOf .i64 x14 with | some y14=>(match iOf .i64 x15 with | some y15=>(match iOf .i64 x16 with | some y16=>(match iOf .i64 x17 with | some y17=>(match iOf .i64 x18 with | some y18=>(match of_lMsg x19 with | some y19=>(some (Worker.mk (Node.mk y0 y1 y2 y3 y4 y5 y6 y7 y8 y9 (A3Bool.mk y10 y11 y12) (A3Int.mk y13 y14 y15) (A3Int.mk y16 y17 y18)) y19)) | none=>none) | none=>none) | none=>none) | none=>none) | none=>none) | none=>none) | none=>none) | none=>none) | none=>none) | none=>none) | none=>none) | none=>none) | none=>none) | none=>none) | none=>none) | none=>none) | none=>none) | none=>none) | none=>none) | none=>none) | _=>none
def v_IntC (x:Int):List (I TL):=[.int .i64 x]
def v_IntMk (l:List (I TL)):Option Int:=match l with | x0::[]=>(match iOf .i64 x0 with | some y0=>(some y0) | none=>none) | _=>none
def v_U8C (x:Int):List (I TL):=[.int .u8 x]
def v_U8Mk (l:List (I TL)):Option Int:=match l with | x0::[]=>(match iOf .u8 x0 with | some y0=>(some y0) | none=>none) | _=>none
def mks_lInt:List (List (I TL))→Option (List Int)
 | []=>some []
 | c::r=>match v_IntMk c,mks_lInt r with | some x,some xs=>some (x::xs) | _,_=>none
def mks_lEntry:List (List (I TL))→Option (List Entry)
 | []=>some []
 | c::r=>match v_EntryMk c,mks_lEntry r with | some x,some xs=>some (x::xs) | _,_=>none
def mks_lMsg:List (List (I TL))→Option (List Msg)
 | []=>some []
 | c::r=>match v_MsgMk c,mks_lMsg r with | some x,some xs=>some (x::xs) | _,_=>none
def mks_lAct:List (List (I TL))→Option (List Act)
 | []=>some []
 | c::r=>match v_ActMk c,mks_lAct r with | some x,some xs=>some (x::xs) | _,_=>none
def mks_lU8:List (List (I TL))→Option (List Int)
 | []=>some []
 | c::r=>match v_U8Mk c,mks_lU8 r with | some x,some xs=>some (x::xs) | _,_=>none
instance:LI TL where
 kn:=false
 selT:=fun t=>Nat.beq t 25 || Nat.beq t 26 || Nat.beq t 59 || Nat.beq t 109
 els:=fun
  | .lInt l=>l.map v_IntC
  | .lEntry l=>l.map v_EntryC
  | .lMsg l=>l.map v_MsgC
  | .lAct l=>l.map v_ActC
  | .lU8 l=>l.map v_U8C
 sz:=fun
  | .lInt _=>1
  | .lEntry _=>2
  | .lMsg _=>10
  | .lAct _=>4
  | .lU8 _=>1
 len:=fun
  | .lInt l=>l.length
  | .lEntry l=>l.length
  | .lMsg l=>l.length
  | .lAct l=>l.length
  | .lU8 l=>l.length
 idx:=fun x i k=>match x with
  | .lInt l=>ob l[i]? fun x=>k (v_IntC x)
  | .lEntry l=>ob l[i]? fun x=>k (v_EntryC x)
  | .lMsg l=>ob l[i]? fun x=>k (v_MsgC x)
  | .lAct l=>ob l[i]? fun x=>k (v_ActC x)
  | .lU8 l=>ob l[i]? fun x=>k (v_U8C x)
 mkL:=fun t cs=>match t with
  | 3=>match mks_lInt cs with | some l=>some (.lInt l) | none=>none
  | 32 | 98=>match mks_lEntry cs with | some l=>some (.lEntry l) | none=>none
  | 39 | 86=>match mks_lMsg cs with | some l=>some (.lMsg l) | none=>none
  | 58=>match mks_lAct cs with | some l=>some (.lAct l) | none=>none
  | 5=>match mks_lU8 cs with | some l=>some (.lU8 l) | none=>none
  | _=>none
 bytes:=fun
  | .lU8 l=>some (strOfInts l)
  | _=>none
 ofStr:=fun t s=>match t with
  | 5=>some (.lU8 (intsOfStr s))
  | _=>none
 app:=fun x y=>match x,y with
  | .lInt a,.lInt b=>some (.lInt (a++b))
  | .lEntry a,.lEntry b=>some (.lEntry (a++b))
  | .lMsg a,.lMsg b=>some (.lMsg (a++b))
  | .lAct a,.lAct b=>some (.lAct (a++b))
  | .lU8 a,.lU8 b=>some (.lU8 (a++b))
  | _,_=>none
 sub:=fun x lo hi=>match x with
  | .lInt l=>.lInt ((l.take hi).drop lo)
  | .lEntry l=>.lEntry ((l.take hi).drop lo)
  | .lMsg l=>.lMsg ((l.take hi).drop lo)
  | .lAct l=>.lAct ((l.take hi).drop lo)
  | .lU8 l=>.lU8 ((l.take hi).drop lo)
 set:=fun x i cs=>match x with
  | .lInt l=>match v_IntMk cs with | some y=>some (.lInt (l.set i y)) | none=>none
  | .lEntry l=>match v_EntryMk cs with | some y=>some (.lEntry (l.set i y)) | none=>none
  | .lMsg l=>match v_MsgMk cs with | some y=>some (.lMsg (l.set i y)) | none=>none
  | .lAct l=>match v_ActMk cs with | some y=>some (.lAct (l.set i y)) | none=>none
  | .lU8 l=>match v_U8Mk cs with | some y=>some (.lU8 (l.set i y)) | none=>none
 rep:=fun t n=>match t with
  | 3=>some (.lInt (List.replicate n 0))
  | 32 | 98=>some (.lEntry (List.replicate n (Entry.mk 0 ⟨#[]⟩)))
  | 39 | 86=>some (.lMsg (List.replicate n (Msg.mk 0 0 0 0 0 0 0 false [] ⟨#[]⟩)))
  | 58=>some (.lAct (List.replicate n (Act.mk 0 0 0 ⟨#[]⟩)))
  | 5=>some (.lU8 (List.replicate n 0))
  | _=>none
 mrg:=fun c x y=>match x,y with
  | .lInt a,.lInt b=>some (.lInt (cond c a b))
  | .lEntry a,.lEntry b=>some (.lEntry (cond c a b))
  | .lMsg a,.lMsg b=>some (.lMsg (cond c a b))
  | .lAct a,.lAct b=>some (.lAct (cond c a b))
  | .lU8 a,.lU8 b=>some (.lU8 (cond c a b))
  | _,_=>none
 flat:=fun
  | .lInt _=>true
  | .lEntry _=>true
  | .lMsg _=>false
  | .lAct _=>true
  | .lU8 _=>true
theorem iOf_le {k:IntKind}{x:I TL}{n:Int}(h:iOf k x=some n):Le x (.int k n):=(DI.int (L:=TL) k).ok _ _ (by cases x<;>exact h)
theorem bOf_le {x:I TL}{b:Bool}(h:bOf x=some b):Le x (.bool b):=(DI.bool (L:=TL)).ok _ _ (by cases x<;>exact h)
theorem sOf_le {x:I TL}{s:ByteArray}(h:sOf x=some s):Le x (.str s):=by
 unfold sOf at h
 split at h
 ·cases h;exact fun _ _ hv=>hv
 ·cases h
theorem of_lInt_le {x:I TL}{l:List Int}(h:of_lInt x=some l):Le x (.fz (.lInt l)):=by
 unfold of_lInt at h
 split at h
 ·cases h;exact fun _ _ hv=>hv
 ·cases h
  intro G v hv
  cases hv
  exact .fz (k:=0) (o:=0) (vals:=fun _ _=>undef) rfl (Nat.le_refl _) (fun h=>absurd h (Nat.lt_irrefl _)) (fun i j cs x h=>by simp [LI.els] at h) (fun i j cs x h=>by simp [LI.els] at h)
 ·cases h
theorem of_lEntry_le {x:I TL}{l:List Entry}(h:of_lEntry x=some l):Le x (.fz (.lEntry l)):=by
 unfold of_lEntry at h
 split at h
 ·cases h;exact fun _ _ hv=>hv
 ·cases h
  intro G v hv
  cases hv
  exact .fz (k:=0) (o:=0) (vals:=fun _ _=>undef) rfl (Nat.le_refl _) (fun h=>absurd h (Nat.lt_irrefl _)) (fun i j cs x h=>by simp [LI.els] at h) (fun i j cs x h=>by simp [LI.els] at h)
 ·cases h
theorem of_lMsg_le {x:I TL}{l:List Msg}(h:of_lMsg x=some l):Le x (.fz (.lMsg l)):=by
 unfold of_lMsg at h
 split at h
 ·cases h;exact fun _ _ hv=>hv
 ·cases h
  intro G v hv
  cases hv
  exact .fz (k:=0) (o:=0) (vals:=fun _ _=>undef) rfl (Nat.le_refl _) (fun h=>absurd h (Nat.lt_irrefl _)) (fun i j cs x h=>by simp [LI.els] at h) (fun i j cs x h=>by simp [LI.els] at h)
 ·cases h
theorem of_lAct_le {x:I TL}{l:List Act}(h:of_lAct x=some l):Le x (.fz (.lAct l)):=by
 unfold of_lAct at h
 split at h
 ·cases h;exact fun _ _ hv=>hv
 ·cases h
  intro G v hv
  cases hv
  exact .fz (k:=0) (o:=0) (vals:=fun _ _=>undef) rfl (Nat.le_refl _) (fun h=>absurd h (Nat.lt_irrefl _)) (fun i j cs x h=>by simp [LI.els] at h) (fun i j cs x h=>by simp [LI.els] at h)
 ·cases h
theorem of_lU8_le {x:I TL}{l:List Int}(h:of_lU8 x=some l):Le x (.fz (.lU8 l)):=by
 unfold of_lU8 at h
 split at h
 ·cases h;exact fun _ _ hv=>hv
 ·cases h
  intro G v hv
  cases hv
  exact .fz (k:=0) (o:=0) (vals:=fun _ _=>undef) rfl (Nat.le_refl _) (fun h=>absurd h (Nat.lt_irrefl _)) (fun i j cs x h=>by simp [LI.els] at h) (fun i j cs x h=>by simp [LI.els] at h)
 ·cases h
theorem v_BoundsErrorMk_le {l:List (I TL)}{x:BoundsError}(h:v_BoundsErrorMk l=some x):All2 Le l (v_BoundsErrorC x):=by
 unfold v_BoundsErrorMk at h
 split at h
 ·split at h
  ·rename_i y0 h0
   split at h
   ·rename_i y1 h1
    split at h
    ·rename_i y2 h2
     split at h
     ·rename_i y3 h3
      cases h
      exact .cons (iOf_le h0) (.cons (iOf_le h1) (.cons (bOf_le h2) (.cons (iOf_le h3) (.nil))))
     ·cases h
    ·cases h
   ·cases h
  ·cases h
 ·cases h
theorem v_ErrorAddressStringMk_le {l:List (I TL)}{x:ErrorAddressString}(h:v_ErrorAddressStringMk l=some x):All2 Le l (v_ErrorAddressStringC x):=by
 unfold v_ErrorAddressStringMk at h
 split at h
 ·split at h
  ·rename_i y0 h0
   split at h
   ·rename_i y1 h1
    cases h
    exact .cons (sOf_le h0) (.cons (iOf_le h1) (.nil))
   ·cases h
  ·cases h
 ·cases h
theorem v_EntryMk_le {l:List (I TL)}{x:Entry}(h:v_EntryMk l=some x):All2 Le l (v_EntryC x):=by
 unfold v_EntryMk at h
 split at h
 ·split at h
  ·rename_i y0 h0
   split at h
   ·rename_i y1 h1
    cases h
    exact .cons (iOf_le h0) (.cons (sOf_le h1) (.nil))
   ·cases h
  ·cases h
 ·cases h
theorem v_A3BoolMk_le {l:List (I TL)}{x:A3Bool}(h:v_A3BoolMk l=some x):All2 Le l (v_A3BoolC x):=by
 unfold v_A3BoolMk at h
 split at h
 ·split at h
  ·rename_i y0 h0
   split at h
   ·rename_i y1 h1
    split at h
    ·rename_i y2 h2
     cases h
     exact .cons (bOf_le h0) (.cons (bOf_le h1) (.cons (bOf_le h2) (.nil)))
    ·cases h
   ·cases h
  ·cases h
 ·cases h
theorem v_A3IntMk_le {l:List (I TL)}{x:A3Int}(h:v_A3IntMk l=some x):All2 Le l (v_A3IntC x):=by
 unfold v_A3IntMk at h
 split at h
 ·split at h
  ·rename_i y0 h0
   split at h
   ·rename_i y1 h1
    split at h
    ·rename_i y2 h2
     cases h
     exact .cons (iOf_le h0) (.cons (iOf_le h1) (.cons (iOf_le h2) (.nil)))
    ·cases h
   ·cases h
  ·cases h
 ·cases h
theorem v_NodeMk_le {l:List (I TL)}{x:Node}(h:v_NodeMk l=some x):All2 Le l (v_NodeC x):=by
 unfold v_NodeMk at h
 split at h
 ·split at h
  ·rename_i y0 h0
   split at h
   ·rename_i y1 h1
    split at h
    ·rename_i y2 h2
     split at h
     ·rename_i y3 h3
      split at h
      ·rename_i y4 h4
       split at h
       ·rename_i y5 h5
        split at h
        ·rename_i y6 h6
         split at h
         ·rename_i y7 h7
          split at h
          ·rename_i y8 h8
           split at h
           ·rename_i y9 h9
            split at h
            ·rename_i y10 h10
             split at h
             ·rename_i y11 h11
              split at h
              ·rename_i y12 h12
               split at h
               ·rename_i y13 h13
                split at h
                ·rename_i y14 h14
                 split at h
                 ·rename_i y15 h15
                  split at h
                  ·rename_i y16 h16
                   split at h
                   ·rename_i y17 h17
                    split at h
                    ·rename_i y18 h18
                     cases h
                     exact .cons (iOf_le h0) (.cons (iOf_le h1) (.cons (iOf_le h2) (.cons (iOf_le h3) (.cons (iOf_le h4) (.cons (sOf_le h5) (.cons (of_lEntry_le h6) (.cons (iOf_le h7) (.cons (iOf_le h8) (.cons (iOf_le h9) (.cons (bOf_le h10) (.cons (bOf_le h11) (.cons (bOf_le h12) (.cons (iOf_le h13) (.cons (iOf_le h14) (.cons (iOf_le h15) (.cons (iOf_le h16) (.cons (iOf_le h17) (.cons (iOf_le h18) (.nil)))))))))))))))))))
                    ·cases h
                   ·cases h
                  ·cases h
                 ·cases h
                ·cases h
               ·cases h
              ·cases h
             ·cases h
            ·cases h
           ·cases h
          ·cases h
         ·cases h
        ·cases h
       ·cases h
      ·cases h
     ·cases h
    ·cases h
   ·cases h
  ·cases h
 ·cases h
theorem v_MsgMk_le {l:List (I TL)}{x:Msg}(h:v_MsgMk l=some x):All2 Le l (v_MsgC x):=by
 unfold v_MsgMk at h
 split at h
 ·split at h
  ·rename_i y0 h0
   split at h
   ·rename_i y1 h1
    split at h
    ·rename_i y2 h2
     split at h
     ·rename_i y3 h3
      split at h
      ·rename_i y4 h4
       split at h
       ·rename_i y5 h5
        split at h
        ·rename_i y6 h6
         split at h
         ·rename_i y7 h7
          split at h
          ·rename_i y8 h8
           split at h
           ·rename_i y9 h9
            cases h
            exact .cons (iOf_le h0) (.cons (iOf_le h1) (.cons (iOf_le h2) (.cons (iOf_le h3) (.cons (iOf_le h4) (.cons (iOf_le h5) (.cons (iOf_le h6) (.cons (bOf_le h7) (.cons (of_lEntry_le h8) (.cons (sOf_le h9) (.nil))))))))))
           ·cases h
          ·cases h
         ·cases h
        ·cases h
       ·cases h
      ·cases h
     ·cases h
    ·cases h
   ·cases h
  ·cases h
 ·cases h
theorem v_ActMk_le {l:List (I TL)}{x:Act}(h:v_ActMk l=some x):All2 Le l (v_ActC x):=by
 unfold v_ActMk at h
 split at h
 ·split at h
  ·rename_i y0 h0
   split at h
   ·rename_i y1 h1
    split at h
    ·rename_i y2 h2
     split at h
     ·rename_i y3 h3
      cases h
      exact .cons (iOf_le h0) (.cons (iOf_le h1) (.cons (iOf_le h2) (.cons (sOf_le h3) (.nil))))
     ·cases h
    ·cases h
   ·cases h
  ·cases h
 ·cases h
theorem v_WorkerMk_le {l:List (I TL)}{x:Worker}(h:v_WorkerMk l=some x):All2 Le l (v_WorkerC x):=by
 unfold v_WorkerMk at h
 split at h
 ·split at h
  ·rename_i y0 h0
   split at h
   ·rename_i y1 h1
    split at h
    ·rename_i y2 h2
     split at h
     ·rename_i y3 h3
      split at h
      ·rename_i y4 h4
       split at h
       ·rename_i y5 h5
        split at h
        ·rename_i y6 h6
         split at h
         ·rename_i y7 h7
          split at h
          ·rename_i y8 h8
           split at h
           ·rename_i y9 h9
            split at h
            ·rename_i y10 h10
             split at h
             ·rename_i y11 h11
              split at h
              ·rename_i y12 h12
               split at h
               ·rename_i y13 h13
                split at h
                ·rename_i y14 h14
                 split at h
                 ·rename_i y15 h15
                  split at h
                  ·rename_i y16 h16
                   split at h
                   ·rename_i y17 h17
                    split at h
                    ·rename_i y18 h18
                     split at h
                     ·rename_i y19 h19
                      cases h
                      exact .cons (iOf_le h0) (.cons (iOf_le h1) (.cons (iOf_le h2) (.cons (iOf_le h3) (.cons (iOf_le h4) (.cons (sOf_le h5) (.cons (of_lEntry_le h6) (.cons (iOf_le h7) (.cons (iOf_le h8) (.cons (iOf_le h9) (.cons (bOf_le h10) (.cons (bOf_le h11) (.cons (bOf_le h12) (.cons (iOf_le h13) (.cons (iOf_le h14) (.cons (iOf_le h15) (.cons (iOf_le h16) (.cons (iOf_le h17) (.cons (iOf_le h18) (.cons (of_lMsg_le h19) (.nil))))))))))))))))))))
                     ·cases h
                    ·cases h
                   ·cases h
                  ·cases h
                 ·cases h
                ·cases h
               ·cases h
              ·cases h
             ·cases h
            ·cases h
           ·cases h
          ·cases h
         ·cases h
        ·cases h
       ·cases h
      ·cases h
     ·cases h
    ·cases h
   ·cases h
  ·cases h
 ·cases h
theorem v_IntMk_le {l:List (I TL)}{x:Int}(h:v_IntMk l=some x):All2 Le l (v_IntC x):=by
 unfold v_IntMk at h
 split at h
 ·split at h
  ·rename_i y0 h0
   cases h
   exact .cons (iOf_le h0) (.nil)
  ·cases h
 ·cases h
theorem v_U8Mk_le {l:List (I TL)}{x:Int}(h:v_U8Mk l=some x):All2 Le l (v_U8C x):=by
 unfold v_U8Mk at h
 split at h
 ·split at h
  ·rename_i y0 h0
   cases h
   exact .cons (iOf_le h0) (.nil)
  ·cases h
 ·cases h
theorem mks_lInt_le:∀ {css:List (List (I TL))} {l:List Int},mks_lInt css=some l→All2 (All2 Le) css (l.map v_IntC)
 | [],l,h=>by simp [mks_lInt] at h;subst h;exact .nil
 | c::r,l,h=>by
  simp only [mks_lInt] at h
  split at h
  ·rename_i x xs hx hxs
   cases h
   exact .cons (v_IntMk_le hx) (mks_lInt_le hxs)
  ·cases h
theorem mks_lEntry_le:∀ {css:List (List (I TL))} {l:List Entry},mks_lEntry css=some l→All2 (All2 Le) css (l.map v_EntryC)
 | [],l,h=>by simp [mks_lEntry] at h;subst h;exact .nil
 | c::r,l,h=>by
  simp only [mks_lEntry] at h
  split at h
  ·rename_i x xs hx hxs
   cases h
   exact .cons (v_EntryMk_le hx) (mks_lEntry_le hxs)
  ·cases h
theorem mks_lMsg_le:∀ {css:List (List (I TL))} {l:List Msg},mks_lMsg css=some l→All2 (All2 Le) css (l.map v_MsgC)
 | [],l,h=>by simp [mks_lMsg] at h;subst h;exact .nil
 | c::r,l,h=>by
  simp only [mks_lMsg] at h
  split at h
  ·rename_i x xs hx hxs
   cases h
   exact .cons (v_MsgMk_le hx) (mks_lMsg_le hxs)
  ·cases h
theorem mks_lAct_le:∀ {css:List (List (I TL))} {l:List Act},mks_lAct css=some l→All2 (All2 Le) css (l.map v_ActC)
 | [],l,h=>by simp [mks_lAct] at h;subst h;exact .nil
 | c::r,l,h=>by
  simp only [mks_lAct] at h
  split at h
  ·rename_i x xs hx hxs
   cases h
   exact .cons (v_ActMk_le hx) (mks_lAct_le hxs)
  ·cases h
theorem mks_lU8_le:∀ {css:List (List (I TL))} {l:List Int},mks_lU8 css=some l→All2 (All2 Le) css (l.map v_U8C)
 | [],l,h=>by simp [mks_lU8] at h;subst h;exact .nil
 | c::r,l,h=>by
  simp only [mks_lU8] at h
  split at h
  ·rename_i x xs hx hxs
   cases h
   exact .cons (v_U8Mk_le hx) (mks_lU8_le hxs)
  ·cases h
instance:LLaws TL where
 len:=fun l=>by cases l<;>simp [LI.len,LI.els]
 idx:=fun l i k=>by cases l<;>simp only [LI.idx,LI.els,List.getElem?_map,ob]<;>rename_i l<;>cases l[i]?<;>rfl
 size:=fun l cs h=>by
  cases l<;>simp only [LI.els,List.mem_map] at h<;>obtain ⟨x,_,rfl⟩:=h<;>rfl
 mkL:=fun t css l h=>by
  simp only [LI.mkL] at h
  split at h
  ·split at h
   ·rename_i l hl;cases h;exact mks_lInt_le hl
   ·cases h
  ·split at h
   ·rename_i l hl;cases h;exact mks_lEntry_le hl
   ·cases h
  ·split at h
   ·rename_i l hl;cases h;exact mks_lEntry_le hl
   ·cases h
  ·split at h
   ·rename_i l hl;cases h;exact mks_lMsg_le hl
   ·cases h
  ·split at h
   ·rename_i l hl;cases h;exact mks_lMsg_le hl
   ·cases h
  ·split at h
   ·rename_i l hl;cases h;exact mks_lAct_le hl
   ·cases h
  ·split at h
   ·rename_i l hl;cases h;exact mks_lU8_le hl
   ·cases h
  ·cases h
 app:=fun a b l h=>by
  simp only [LI.app] at h
  split at h<;>cases h<;>simp [LI.els,LI.sz]
 sub:=fun l lo hi=>by cases l<;>simp [LI.sub,LI.els,LI.sz,List.map_drop,List.map_take]
 set:=fun l i cs l' h=>by
  simp only [LI.set] at h
  split at h
  ·split at h
   ·rename_i y hy;cases h;exact ⟨_,v_IntMk_le hy,by simp [LI.els,List.map_set],rfl⟩
   ·cases h
  ·split at h
   ·rename_i y hy;cases h;exact ⟨_,v_EntryMk_le hy,by simp [LI.els,List.map_set],rfl⟩
   ·cases h
  ·split at h
   ·rename_i y hy;cases h;exact ⟨_,v_MsgMk_le hy,by simp [LI.els,List.map_set],rfl⟩
   ·cases h
  ·split at h
   ·rename_i y hy;cases h;exact ⟨_,v_ActMk_le hy,by simp [LI.els,List.map_set],rfl⟩
   ·cases h
  ·split at h
   ·rename_i y hy;cases h;exact ⟨_,v_U8Mk_le hy,by simp [LI.els,List.map_set],rfl⟩
   ·cases h
 mrg:=fun c a b l h=>by
  simp only [LI.mrg] at h
  split at h<;>cases h<;>cases c<;>simp [LI.els,LI.sz]
 flat:=fun l h cs hcs x hx G G' v hv=>by
  cases l<;>simp only [LI.flat] at h<;>first | (cases h;done) | skip
  all_goals
   simp only [LI.els,List.mem_map] at hcs
   obtain ⟨y,_,rfl⟩:=hcs
   first
    | (simp only [v_IntC,List.mem_cons,List.not_mem_nil,or_false] at hx;rcases hx with rfl<;>cases hv<;>constructor)
    | (simp only [v_EntryC,List.mem_cons,List.not_mem_nil,or_false] at hx;rcases hx with rfl | rfl<;>cases hv<;>constructor)
    | (simp only [v_ActC,List.mem_cons,List.not_mem_nil,or_false] at hx;rcases hx with rfl | rfl | rfl | rfl<;>cases hv<;>constructor)
    | (simp only [v_U8C,List.mem_cons,List.not_mem_nil,or_false] at hx;rcases hx with rfl<;>cases hv<;>constructor)
 bytes:=fun l s h=>by
  simp only [LI.bytes] at h
  split at h
  ·cases h;exact ⟨_,rfl,rfl⟩
  ·cases h
 ofStr:=fun t s l h=>by
  simp only [LI.ofStr] at h
  split at h
  ·cases h
   refine ⟨by simp [LI.els,intsOfStr],rfl,fun G=>?_⟩
   simp only [LI.els,intsOfStr]
   exact bytes_rep G s
  ·cases h
theorem tlaws:TLaws TL tab where
 mkL:=fun t css l i h hi=>by
  simp only [LI.mkL] at h
  split at h
  ·split at h
   ·cases h;cases (tab3_is.symm.trans hi);rfl
   ·cases h
  ·split at h
   ·cases h;cases (tab32_is.symm.trans hi);rfl
   ·cases h
  ·split at h
   ·cases h;cases (tab98_is.symm.trans hi);rfl
   ·cases h
  ·split at h
   ·cases h;cases (tab39_is.symm.trans hi);rfl
   ·cases h
  ·split at h
   ·cases h;cases (tab86_is.symm.trans hi);rfl
   ·cases h
  ·split at h
   ·cases h;cases (tab58_is.symm.trans hi);rfl
   ·cases h
  ·split at h
   ·cases h;cases (tab5_is.symm.trans hi);rfl
   ·cases h
  ·cases h
 rep:=fun t n l h=>by
  simp only [LI.rep] at h
  split at h
  ·cases h;exact ⟨_,_,v_IntC 0,tab3_is,rfl,by simp [LI.els],rfl,.cons (fun _=>.int) (.nil)⟩
  ·cases h;exact ⟨_,_,v_EntryC (Entry.mk 0 ⟨#[]⟩),tab32_is,rfl,by simp [LI.els],rfl,.cons (fun _=>.int) (.cons (fun _=>.str) (.nil))⟩
  ·cases h;exact ⟨_,_,v_EntryC (Entry.mk 0 ⟨#[]⟩),tab98_is,rfl,by simp [LI.els],rfl,.cons (fun _=>.int) (.cons (fun _=>.str) (.nil))⟩
  ·cases h;exact ⟨_,_,v_MsgC (Msg.mk 0 0 0 0 0 0 0 false [] ⟨#[]⟩),tab39_is,rfl,by simp [LI.els],rfl,.cons (fun _=>.int) (.cons (fun _=>.int) (.cons (fun _=>.int) (.cons (fun _=>.int) (.cons (fun _=>.int) (.cons (fun _=>.int) (.cons (fun _=>.int) (.cons (fun _=>.bool) (.cons (fun _=>.fz (k:=0) (o:=0) (vals:=fun _ _=>undef) rfl (Nat.le_refl _) (fun h=>absurd h (Nat.lt_irrefl _)) (fun i j cs x h=>by simp [LI.els] at h) (fun i j cs x h=>by simp [LI.els] at h)) (.cons (fun _=>.str) (.nil))))))))))⟩
  ·cases h;exact ⟨_,_,v_MsgC (Msg.mk 0 0 0 0 0 0 0 false [] ⟨#[]⟩),tab86_is,rfl,by simp [LI.els],rfl,.cons (fun _=>.int) (.cons (fun _=>.int) (.cons (fun _=>.int) (.cons (fun _=>.int) (.cons (fun _=>.int) (.cons (fun _=>.int) (.cons (fun _=>.int) (.cons (fun _=>.bool) (.cons (fun _=>.fz (k:=0) (o:=0) (vals:=fun _ _=>undef) rfl (Nat.le_refl _) (fun h=>absurd h (Nat.lt_irrefl _)) (fun i j cs x h=>by simp [LI.els] at h) (fun i j cs x h=>by simp [LI.els] at h)) (.cons (fun _=>.str) (.nil))))))))))⟩
  ·cases h;exact ⟨_,_,v_ActC (Act.mk 0 0 0 ⟨#[]⟩),tab58_is,rfl,by simp [LI.els],rfl,.cons (fun _=>.int) (.cons (fun _=>.int) (.cons (fun _=>.int) (.cons (fun _=>.str) (.nil))))⟩
  ·cases h;exact ⟨_,_,v_U8C 0,tab5_is,rfl,by simp [LI.els],rfl,.cons (fun _=>.int) (.nil)⟩
  ·cases h
def j_lInt:Cod.Inj TL (List Int):=⟨TL.lInt,fun | .lInt l=>some l | _=>none,fun l t h=>by cases l<;>simp_all⟩
def di_lInt:DI TL (List Int):=⟨fun l=>.fz (.lInt l),of_lInt,fun _ _ h=>of_lInt_le h⟩
def j_lEntry:Cod.Inj TL (List Entry):=⟨TL.lEntry,fun | .lEntry l=>some l | _=>none,fun l t h=>by cases l<;>simp_all⟩
def di_lEntry:DI TL (List Entry):=⟨fun l=>.fz (.lEntry l),of_lEntry,fun _ _ h=>of_lEntry_le h⟩
def j_lMsg:Cod.Inj TL (List Msg):=⟨TL.lMsg,fun | .lMsg l=>some l | _=>none,fun l t h=>by cases l<;>simp_all⟩
def di_lMsg:DI TL (List Msg):=⟨fun l=>.fz (.lMsg l),of_lMsg,fun _ _ h=>of_lMsg_le h⟩
def j_lAct:Cod.Inj TL (List Act):=⟨TL.lAct,fun | .lAct l=>some l | _=>none,fun l t h=>by cases l<;>simp_all⟩
def di_lAct:DI TL (List Act):=⟨fun l=>.fz (.lAct l),of_lAct,fun _ _ h=>of_lAct_le h⟩
def j_lU8:Cod.Inj TL (List Int):=⟨TL.lU8,fun | .lU8 l=>some l | _=>none,fun l t h=>by cases l<;>simp_all⟩
def di_lU8:DI TL (List Int):=⟨fun l=>.fz (.lU8 l),of_lU8,fun _ _ h=>of_lU8_le h⟩
def dc_BoundsError:DC TL BoundsError:=⟨v_BoundsErrorC,v_BoundsErrorMk,fun _ _ h=>v_BoundsErrorMk_le h⟩
def dc_ErrorAddressString:DC TL ErrorAddressString:=⟨v_ErrorAddressStringC,v_ErrorAddressStringMk,fun _ _ h=>v_ErrorAddressStringMk_le h⟩
def dc_Entry:DC TL Entry:=⟨v_EntryC,v_EntryMk,fun _ _ h=>v_EntryMk_le h⟩
def dc_A3Bool:DC TL A3Bool:=⟨v_A3BoolC,v_A3BoolMk,fun _ _ h=>v_A3BoolMk_le h⟩
def dc_A3Int:DC TL A3Int:=⟨v_A3IntC,v_A3IntMk,fun _ _ h=>v_A3IntMk_le h⟩
def dc_Node:DC TL Node:=⟨v_NodeC,v_NodeMk,fun _ _ h=>v_NodeMk_le h⟩
def dc_Msg:DC TL Msg:=⟨v_MsgC,v_MsgMk,fun _ _ h=>v_MsgMk_le h⟩
def dc_Act:DC TL Act:=⟨v_ActC,v_ActMk,fun _ _ h=>v_ActMk_le h⟩
def dc_A3Node:DC TL A3Node:=DC.iso (DC.cons (DI.int .i64) (DC.cons (DI.int .i64) (DC.cons (DI.int .i64) (DC.cons (DI.int .i64) (DC.cons (DI.int .i64) (DC.cons DI.str (DC.cons di_lEntry (DC.cons (DI.int .i64) (DC.cons (DI.int .i64) (DC.cons (DI.int .i64) (DC.cons DI.bool (DC.cons DI.bool (DC.cons DI.bool (DC.cons (DI.int .i64) (DC.cons (DI.int .i64) (DC.cons (DI.int .i64) (DC.cons (DI.int .i64) (DC.cons (DI.int .i64) (DC.cons (DI.int .i64) (DC.cons (DI.int .i64) (DC.cons (DI.int .i64) (DC.cons (DI.int .i64) (DC.cons (DI.int .i64) (DC.cons (DI.int .i64) (DC.cons DI.str (DC.cons di_lEntry (DC.cons (DI.int .i64) (DC.cons (DI.int .i64) (DC.cons (DI.int .i64) (DC.cons DI.bool (DC.cons DI.bool (DC.cons DI.bool (DC.cons (DI.int .i64) (DC.cons (DI.int .i64) (DC.cons (DI.int .i64) (DC.cons (DI.int .i64) (DC.cons (DI.int .i64) (DC.cons (DI.int .i64) (DC.cons (DI.int .i64) (DC.cons (DI.int .i64) (DC.cons (DI.int .i64) (DC.cons (DI.int .i64) (DC.cons (DI.int .i64) (DC.cons DI.str (DC.cons di_lEntry (DC.cons (DI.int .i64) (DC.cons (DI.int .i64) (DC.cons (DI.int .i64) (DC.cons DI.bool (DC.cons DI.bool (DC.cons DI.bool (DC.cons (DI.int .i64) (DC.cons (DI.int .i64) (DC.cons (DI.int .i64) (DC.cons (DI.int .i64) (DC.cons (DI.int .i64) (DC.cons (DI.int .i64) (DC.nil)))))))))))))))))))))))))))))))))))))))))))))))))))))))))) (fun p=>(A3Node.mk (Node.mk p.1 p.2.1 p.2.2.1 p.2.2.2.1 p.2.2.2.2.1 p.2.2.2.2.2.1 p.2.2.2.2.2.2.1 p.2.2.2.2.2.2.2.1 (t8 p).1 (t8 p).2.1 (A3Bool.mk (t8 p).2.2.1 (t8 p).2.2.2.1 (t8 p).2.2.2.2.1) (A3Int.mk (t8 p).2.2.2.2.2.1 (t8 p).2.2.2.2.2.2.1 (t8 p).2.2.2.2.2.2.2.1) (A3Int.mk (t8 (t8 p)).1 (t8 (t8 p)).2.1 (t8 (t8 p)).2.2.1)) (Node.mk (t8 (t8 p)).2.2.2.1 (t8 (t8 p)).2.2.2.2.1 (t8 (t8 p)).2.2.2.2.2.1 (t8 (t8 p)).2.2.2.2.2.2.1 (t8 (t8 p)).2.2.2.2.2.2.2.1 (t8 (t8 (t8 p))).1 (t8 (t8 (t8 p))).2.1 (t8 (t8 (t8 p))).2.2.1 (t8 (t8 (t8 p))).2.2.2.1 (t8 (t8 (t8 p))).2.2.2.2.1 (A3Bool.mk (t8 (t8 (t8 p))).2.2.2.2.2.1 (t8 (t8 (t8 p))).2.2.2.2.2.2.1 (t8 (t8 (t8 p))).2.2.2.2.2.2.2.1) (A3Int.mk (t32 p).1 (t32 p).2.1 (t32 p).2.2.1) (A3Int.mk (t32 p).2.2.2.1 (t32 p).2.2.2.2.1 (t32 p).2.2.2.2.2.1)) (Node.mk (t32 p).2.2.2.2.2.2.1 (t32 p).2.2.2.2.2.2.2.1 (t8 (t32 p)).1 (t8 (t32 p)).2.1 (t8 (t32 p)).2.2.1 (t8 (t32 p)).2.2.2.1 (t8 (t32 p)).2.2.2.2.1 (t8 (t32 p)).2.2.2.2.2.1 (t8 (t32 p)).2.2.2.2.2.2.1 (t8 (t32 p)).2.2.2.2.2.2.2.1 (A3Bool.mk (t8 (t8 (t32 p))).1 (t8 (t8 (t32 p))).2.1 (t8 (t8 (t32 p))).2.2.1) (A3Int.mk (t8 (t8 (t32 p))).2.2.2.1 (t8 (t8 (t32 p))).2.2.2.2.1 (t8 (t8 (t32 p))).2.2.2.2.2.1) (A3Int.mk (t8 (t8 (t32 p))).2.2.2.2.2.2.1 (t8 (t8 (t32 p))).2.2.2.2.2.2.2.1 (t8 (t8 (t8 (t32 p)))).1)))) (fun (x:A3Node)=>(x.a0.id_,(x.a0.term_,(x.a0.vote,(x.a0.base,(x.a0.baseTerm,(x.a0.snap,(x.a0.log,(x.a0.role,(x.a0.commit,(x.a0.wait,(x.a0.votes.a0,(x.a0.votes.a1,(x.a0.votes.a2,(x.a0.next.a0,(x.a0.next.a1,(x.a0.next.a2,(x.a0.match_.a0,(x.a0.match_.a1,(x.a0.match_.a2,(x.a1.id_,(x.a1.term_,(x.a1.vote,(x.a1.base,(x.a1.baseTerm,(x.a1.snap,(x.a1.log,(x.a1.role,(x.a1.commit,(x.a1.wait,(x.a1.votes.a0,(x.a1.votes.a1,(x.a1.votes.a2,(x.a1.next.a0,(x.a1.next.a1,(x.a1.next.a2,(x.a1.match_.a0,(x.a1.match_.a1,(x.a1.match_.a2,(x.a2.id_,(x.a2.term_,(x.a2.vote,(x.a2.base,(x.a2.baseTerm,(x.a2.snap,(x.a2.log,(x.a2.role,(x.a2.commit,(x.a2.wait,(x.a2.votes.a0,(x.a2.votes.a1,(x.a2.votes.a2,(x.a2.next.a0,(x.a2.next.a1,(x.a2.next.a2,(x.a2.match_.a0,(x.a2.match_.a1,(x.a2.match_.a2,())))))))))))))))))))))))))))))))))))))))))))))))))))))))))) (fun _=>rfl)
def v_A3NodeC (x:A3Node):List (I TL):=dc_A3Node.enc x
def dc_Three:DC TL Three:=DC.iso (DC.cons (DI.int .i64) (DC.cons (DI.int .i64) (DC.cons (DI.int .i64) (DC.cons (DI.int .i64) (DC.cons (DI.int .i64) (DC.cons DI.str (DC.cons di_lEntry (DC.cons (DI.int .i64) (DC.cons (DI.int .i64) (DC.cons (DI.int .i64) (DC.cons DI.bool (DC.cons DI.bool (DC.cons DI.bool (DC.cons (DI.int .i64) (DC.cons (DI.int .i64) (DC.cons (DI.int .i64) (DC.cons (DI.int .i64) (DC.cons (DI.int .i64) (DC.cons (DI.int .i64) (DC.cons (DI.int .i64) (DC.cons (DI.int .i64) (DC.cons (DI.int .i64) (DC.cons (DI.int .i64) (DC.cons (DI.int .i64) (DC.cons DI.str (DC.cons di_lEntry (DC.cons (DI.int .i64) (DC.cons (DI.int .i64) (DC.cons (DI.int .i64) (DC.cons DI.bool (DC.cons DI.bool (DC.cons DI.bool (DC.cons (DI.int .i64) (DC.cons (DI.int .i64) (DC.cons (DI.int .i64) (DC.cons (DI.int .i64) (DC.cons (DI.int .i64) (DC.cons (DI.int .i64) (DC.cons (DI.int .i64) (DC.cons (DI.int .i64) (DC.cons (DI.int .i64) (DC.cons (DI.int .i64) (DC.cons (DI.int .i64) (DC.cons DI.str (DC.cons di_lEntry (DC.cons (DI.int .i64) (DC.cons (DI.int .i64) (DC.cons (DI.int .i64) (DC.cons DI.bool (DC.cons DI.bool (DC.cons DI.bool (DC.cons (DI.int .i64) (DC.cons (DI.int .i64) (DC.cons (DI.int .i64) (DC.cons (DI.int .i64) (DC.cons (DI.int .i64) (DC.cons (DI.int .i64) (DC.cons di_lMsg (DC.nil))))))))))))))))))))))))))))))))))))))))))))))))))))))))))) (fun p=>(Three.mk (A3Node.mk (Node.mk p.1 p.2.1 p.2.2.1 p.2.2.2.1 p.2.2.2.2.1 p.2.2.2.2.2.1 p.2.2.2.2.2.2.1 p.2.2.2.2.2.2.2.1 (t8 p).1 (t8 p).2.1 (A3Bool.mk (t8 p).2.2.1 (t8 p).2.2.2.1 (t8 p).2.2.2.2.1) (A3Int.mk (t8 p).2.2.2.2.2.1 (t8 p).2.2.2.2.2.2.1 (t8 p).2.2.2.2.2.2.2.1) (A3Int.mk (t8 (t8 p)).1 (t8 (t8 p)).2.1 (t8 (t8 p)).2.2.1)) (Node.mk (t8 (t8 p)).2.2.2.1 (t8 (t8 p)).2.2.2.2.1 (t8 (t8 p)).2.2.2.2.2.1 (t8 (t8 p)).2.2.2.2.2.2.1 (t8 (t8 p)).2.2.2.2.2.2.2.1 (t8 (t8 (t8 p))).1 (t8 (t8 (t8 p))).2.1 (t8 (t8 (t8 p))).2.2.1 (t8 (t8 (t8 p))).2.2.2.1 (t8 (t8 (t8 p))).2.2.2.2.1 (A3Bool.mk (t8 (t8 (t8 p))).2.2.2.2.2.1 (t8 (t8 (t8 p))).2.2.2.2.2.2.1 (t8 (t8 (t8 p))).2.2.2.2.2.2.2.1) (A3Int.mk (t32 p).1 (t32 p).2.1 (t32 p).2.2.1) (A3Int.mk (t32 p).2.2.2.1 (t32 p).2.2.2.2.1 (t32 p).2.2.2.2.2.1)) (Node.mk (t32 p).2.2.2.2.2.2.1 (t32 p).2.2.2.2.2.2.2.1 (t8 (t32 p)).1 (t8 (t32 p)).2.1 (t8 (t32 p)).2.2.1 (t8 (t32 p)).2.2.2.1 (t8 (t32 p)).2.2.2.2.1 (t8 (t32 p)).2.2.2.2.2.1 (t8 (t32 p)).2.2.2.2.2.2.1 (t8 (t32 p)).2.2.2.2.2.2.2.1 (A3Bool.mk (t8 (t8 (t32 p))).1 (t8 (t8 (t32 p))).2.1 (t8 (t8 (t32 p))).2.2.1) (A3Int.mk (t8 (t8 (t32 p))).2.2.2.1 (t8 (t8 (t32 p))).2.2.2.2.1 (t8 (t8 (t32 p))).2.2.2.2.2.1) (A3Int.mk (t8 (t8 (t32 p))).2.2.2.2.2.2.1 (t8 (t8 (t32 p))).2.2.2.2.2.2.2.1 (t8 (t8 (t8 (t32 p)))).1))) (t8 (t8 (t8 (t32 p)))).2.1)) (fun (x:Three)=>(x.n.a0.id_,(x.n.a0.term_,(x.n.a0.vote,(x.n.a0.base,(x.n.a0.baseTerm,(x.n.a0.snap,(x.n.a0.log,(x.n.a0.role,(x.n.a0.commit,(x.n.a0.wait,(x.n.a0.votes.a0,(x.n.a0.votes.a1,(x.n.a0.votes.a2,(x.n.a0.next.a0,(x.n.a0.next.a1,(x.n.a0.next.a2,(x.n.a0.match_.a0,(x.n.a0.match_.a1,(x.n.a0.match_.a2,(x.n.a1.id_,(x.n.a1.term_,(x.n.a1.vote,(x.n.a1.base,(x.n.a1.baseTerm,(x.n.a1.snap,(x.n.a1.log,(x.n.a1.role,(x.n.a1.commit,(x.n.a1.wait,(x.n.a1.votes.a0,(x.n.a1.votes.a1,(x.n.a1.votes.a2,(x.n.a1.next.a0,(x.n.a1.next.a1,(x.n.a1.next.a2,(x.n.a1.match_.a0,(x.n.a1.match_.a1,(x.n.a1.match_.a2,(x.n.a2.id_,(x.n.a2.term_,(x.n.a2.vote,(x.n.a2.base,(x.n.a2.baseTerm,(x.n.a2.snap,(x.n.a2.log,(x.n.a2.role,(x.n.a2.commit,(x.n.a2.wait,(x.n.a2.votes.a0,(x.n.a2.votes.a1,(x.n.a2.votes.a2,(x.n.a2.next.a0,(x.n.a2.next.a1,(x.n.a2.next.a2,(x.n.a2.match_.a0,(x.n.a2.match_.a1,(x.n.a2.match_.a2,(x.m,()))))))))))))))))))))))))))))))))))))))))))))))))))))))))))) (fun _=>rfl)
def v_ThreeC (x:Three):List (I TL):=dc_Three.enc x
def dc_Worker:DC TL Worker:=⟨v_WorkerC,v_WorkerMk,fun _ _ h=>v_WorkerMk_le h⟩
theorem base:Base TL Try.prog tab:=⟨tabOK,tlaws,by kernel_rfl⟩
end Go.Proofs.Ytoicjnggljeicaa
