/- By program (gen.py): the typed lists of this program, and their laws. -/
import Derived.Test.YtogbdkfbjphkiaaGreatTab
import Derived.Test.YtogbdkfbjphkiaaGreatEd
namespace Go.Proofs.YtogbdkfbjphkiaaGreat
open Go Go.Ev
set_option maxRecDepth 100000
structure Want where
 key:ByteArray
 up_:Int
 down_:Int
 ids:Int
structure Dot where
 device:Int
 epoch:Int
 seq:Int
structure Op where
 dot:Dot
 coll:Int
 ver:Int
 kind:Int
 key:ByteArray
 text:ByteArray
 n:Int
 time:Int
 dots:List Dot
structure Cmd where
 kind:Int
 device:Int
 epoch:Int
 req:Int
 n:Int
 wants:List Want
 ops:List Op
structure Act where
 kind:Int
 device:Int
 n:Int
 wants:List Want
 ops:List Op
inductive TL where
 | lInt (l:List Int)
 | lWant (l:List Want)
 | lDot (l:List Dot)
 | lOp (l:List Op)
 | lU8 (l:List Int)
 | lAct (l:List Act)
 | lLU8 (l:List (List Int))
def iOf (k:IntKind)(x:I TL):Option Int:=match x with | .lit k1 n=>cond (keq k1 k) (some n) none | .int k1 n=>cond (keq k1 k) (some n) none | _=>none
def bOf (x:I TL):Option Bool:=match x with | .tt=>some true | .ff=>some false | .bool b=>some b | _=>none
def sOf (x:I TL):Option ByteArray:=match x with | .str s=>some s | _=>none
def of_lInt (x:I TL):Option (List Int):=match x with | .fz (.lInt l)=>some l | .val (.slice none 0 0)=>some [] | _=>none
def of_lWant (x:I TL):Option (List Want):=match x with | .fz (.lWant l)=>some l | .val (.slice none 0 0)=>some [] | _=>none
def of_lDot (x:I TL):Option (List Dot):=match x with | .fz (.lDot l)=>some l | .val (.slice none 0 0)=>some [] | _=>none
def of_lOp (x:I TL):Option (List Op):=match x with | .fz (.lOp l)=>some l | .val (.slice none 0 0)=>some [] | _=>none
def of_lU8 (x:I TL):Option (List Int):=match x with | .fz (.lU8 l)=>some l | .val (.slice none 0 0)=>some [] | _=>none
def of_lAct (x:I TL):Option (List Act):=match x with | .fz (.lAct l)=>some l | .val (.slice none 0 0)=>some [] | _=>none
def of_lLU8 (x:I TL):Option (List (List Int)):=match x with | .fz (.lLU8 l)=>some l | .val (.slice none 0 0)=>some [] | _=>none
def v_WantC (x:Want):List (I TL):=[.str x.key,.int .i64 x.up_,.int .i64 x.down_,.int .i64 x.ids]
def v_WantMk (l:List (I TL)):Option Want:=match l with | [x0,x1,x2,x3]=>ob (sOf x0) fun y0=>ob (iOf .i64 x1) fun y1=>ob (iOf .i64 x2) fun y2=>ob (iOf .i64 x3) fun y3=>some (Want.mk y0 y1 y2 y3) | _=>none
def v_DotC (x:Dot):List (I TL):=[.int .i64 x.device,.int .i64 x.epoch,.int .i64 x.seq]
def v_DotMk (l:List (I TL)):Option Dot:=match l with | [x0,x1,x2]=>ob (iOf .i64 x0) fun y0=>ob (iOf .i64 x1) fun y1=>ob (iOf .i64 x2) fun y2=>some (Dot.mk y0 y1 y2) | _=>none
def v_OpC (x:Op):List (I TL):=[.int .i64 x.dot.device,.int .i64 x.dot.epoch,.int .i64 x.dot.seq,.int .i64 x.coll,.int .i64 x.ver,.int .i64 x.kind,.str x.key,.str x.text,.int .i64 x.n,.int .i64 x.time,.fz (.lDot x.dots)]
def v_OpMk (l:List (I TL)):Option Op:=match l with | [x0,x1,x2,x3,x4,x5,x6,x7,x8,x9,x10]=>ob (iOf .i64 x0) fun y0=>ob (iOf .i64 x1) fun y1=>ob (iOf .i64 x2) fun y2=>ob (iOf .i64 x3) fun y3=>ob (iOf .i64 x4) fun y4=>ob (iOf .i64 x5) fun y5=>ob (sOf x6) fun y6=>ob (sOf x7) fun y7=>ob (iOf .i64 x8) fun y8=>ob (iOf .i64 x9) fun y9=>ob (of_lDot x10) fun y10=>some (Op.mk (Dot.mk y0 y1 y2) y3 y4 y5 y6 y7 y8 y9 y10) | _=>none
def v_CmdC (x:Cmd):List (I TL):=[.int .i64 x.kind,.int .i64 x.device,.int .i64 x.epoch,.int .i64 x.req,.int .i64 x.n,.fz (.lWant x.wants),.fz (.lOp x.ops)]
def v_CmdMk (l:List (I TL)):Option Cmd:=match l with | [x0,x1,x2,x3,x4,x5,x6]=>ob (iOf .i64 x0) fun y0=>ob (iOf .i64 x1) fun y1=>ob (iOf .i64 x2) fun y2=>ob (iOf .i64 x3) fun y3=>ob (iOf .i64 x4) fun y4=>ob (of_lWant x5) fun y5=>ob (of_lOp x6) fun y6=>some (Cmd.mk y0 y1 y2 y3 y4 y5 y6) | _=>none
def v_ActC (x:Act):List (I TL):=[.int .i64 x.kind,.int .i64 x.device,.int .i64 x.n,.fz (.lWant x.wants),.fz (.lOp x.ops)]
def v_ActMk (l:List (I TL)):Option Act:=match l with | [x0,x1,x2,x3,x4]=>ob (iOf .i64 x0) fun y0=>ob (iOf .i64 x1) fun y1=>ob (iOf .i64 x2) fun y2=>ob (of_lWant x3) fun y3=>ob (of_lOp x4) fun y4=>some (Act.mk y0 y1 y2 y3 y4) | _=>none
def v_IntC (x:Int):List (I TL):=[.int .i64 x]
def v_IntMk (l:List (I TL)):Option Int:=match l with | [x0]=>ob (iOf .i64 x0) fun y0=>some y0 | _=>none
def v_U8C (x:Int):List (I TL):=[.int .u8 x]
def v_U8Mk (l:List (I TL)):Option Int:=match l with | [x0]=>ob (iOf .u8 x0) fun y0=>some y0 | _=>none
def v_LU8C (x:List Int):List (I TL):=[.fz (.lU8 x)]
def v_LU8Mk (l:List (I TL)):Option (List Int):=match l with | [x0]=>ob (of_lU8 x0) fun y0=>some y0 | _=>none
def mksG {T:Type}(f:List (I TL)→Option T):List (List (I TL))→Option (List T)
 | []=>some []
 | c::r=>match f c,mksG f r with | some x,some xs=>some (x::xs) | _,_=>none
instance:LI TL where
 kn:=false
 selT:=fun _=>false
 els:=fun
  | .lInt l=>l.map v_IntC
  | .lWant l=>l.map v_WantC
  | .lDot l=>l.map v_DotC
  | .lOp l=>l.map v_OpC
  | .lU8 l=>l.map v_U8C
  | .lAct l=>l.map v_ActC
  | .lLU8 l=>l.map v_LU8C
 sz:=fun
  | .lInt _=>1
  | .lWant _=>4
  | .lDot _=>3
  | .lOp _=>11
  | .lU8 _=>1
  | .lAct _=>5
  | .lLU8 _=>1
 len:=fun
  | .lInt l=>l.length
  | .lWant l=>l.length
  | .lDot l=>l.length
  | .lOp l=>l.length
  | .lU8 l=>l.length
  | .lAct l=>l.length
  | .lLU8 l=>l.length
 idx:=fun x i k=>match x with
  | .lInt l=>ob l[i]? fun x=>k (v_IntC x)
  | .lWant l=>ob l[i]? fun x=>k (v_WantC x)
  | .lDot l=>ob l[i]? fun x=>k (v_DotC x)
  | .lOp l=>ob l[i]? fun x=>k (v_OpC x)
  | .lU8 l=>ob l[i]? fun x=>k (v_U8C x)
  | .lAct l=>ob l[i]? fun x=>k (v_ActC x)
  | .lLU8 l=>ob l[i]? fun x=>k (v_LU8C x)
 mkL:=fun t cs=>match t with
  | 3=>match mksG v_IntMk cs with | some l=>some (.lInt l) | none=>none
  | 179=>match mksG v_WantMk cs with | some l=>some (.lWant l) | none=>none
  | 111=>match mksG v_DotMk cs with | some l=>some (.lDot l) | none=>none
  | 113=>match mksG v_OpMk cs with | some l=>some (.lOp l) | none=>none
  | 5=>match mksG v_U8Mk cs with | some l=>some (.lU8 l) | none=>none
  | 120=>match mksG v_ActMk cs with | some l=>some (.lAct l) | none=>none
  | 92=>match mksG v_LU8Mk cs with | some l=>some (.lLU8 l) | none=>none
  | _=>none
 bytes:=fun
  | .lU8 l=>some (strOfInts l)
  | _=>none
 ofStr:=fun t s=>match t with
  | 5=>some (.lU8 (intsOfStr s))
  | _=>none
 app:=fun x y=>match x,y with
  | .lInt a,.lInt b=>some (.lInt (a++b))
  | .lWant a,.lWant b=>some (.lWant (a++b))
  | .lDot a,.lDot b=>some (.lDot (a++b))
  | .lOp a,.lOp b=>some (.lOp (a++b))
  | .lU8 a,.lU8 b=>some (.lU8 (a++b))
  | .lAct a,.lAct b=>some (.lAct (a++b))
  | .lLU8 a,.lLU8 b=>some (.lLU8 (a++b))
  | _,_=>none
 sub:=fun x lo hi=>match x with
  | .lInt l=>.lInt ((l.take hi).drop lo)
  | .lWant l=>.lWant ((l.take hi).drop lo)
  | .lDot l=>.lDot ((l.take hi).drop lo)
  | .lOp l=>.lOp ((l.take hi).drop lo)
  | .lU8 l=>.lU8 ((l.take hi).drop lo)
  | .lAct l=>.lAct ((l.take hi).drop lo)
  | .lLU8 l=>.lLU8 ((l.take hi).drop lo)
 set:=fun x i cs=>match x with
  | .lInt l=>match v_IntMk cs with | some y=>some (.lInt (l.set i y)) | none=>none
  | .lWant l=>match v_WantMk cs with | some y=>some (.lWant (l.set i y)) | none=>none
  | .lDot l=>match v_DotMk cs with | some y=>some (.lDot (l.set i y)) | none=>none
  | .lOp l=>match v_OpMk cs with | some y=>some (.lOp (l.set i y)) | none=>none
  | .lU8 l=>match v_U8Mk cs with | some y=>some (.lU8 (l.set i y)) | none=>none
  | .lAct l=>match v_ActMk cs with | some y=>some (.lAct (l.set i y)) | none=>none
  | .lLU8 l=>match v_LU8Mk cs with | some y=>some (.lLU8 (l.set i y)) | none=>none
 rep:=fun t n=>match t with
  | 3=>some (.lInt (List.replicate n 0))
  | 179=>some (.lWant (List.replicate n (Want.mk ⟨#[]⟩ 0 0 0)))
  | 111=>some (.lDot (List.replicate n (Dot.mk 0 0 0)))
  | 113=>some (.lOp (List.replicate n (Op.mk (Dot.mk 0 0 0) 0 0 0 ⟨#[]⟩ ⟨#[]⟩ 0 0 [])))
  | 5=>some (.lU8 (List.replicate n 0))
  | 120=>some (.lAct (List.replicate n (Act.mk 0 0 0 [] [])))
  | 92=>some (.lLU8 (List.replicate n []))
  | _=>none
 mrg:=fun c x y=>match x,y with
  | .lInt a,.lInt b=>some (.lInt (cond c a b))
  | .lWant a,.lWant b=>some (.lWant (cond c a b))
  | .lDot a,.lDot b=>some (.lDot (cond c a b))
  | .lOp a,.lOp b=>some (.lOp (cond c a b))
  | .lU8 a,.lU8 b=>some (.lU8 (cond c a b))
  | .lAct a,.lAct b=>some (.lAct (cond c a b))
  | .lLU8 a,.lLU8 b=>some (.lLU8 (cond c a b))
  | _,_=>none
 flat:=fun
  | .lInt _=>true
  | .lWant _=>true
  | .lDot _=>true
  | .lOp _=>false
  | .lU8 _=>true
  | .lAct _=>false
  | .lLU8 _=>false
theorem iOf_le {k:IntKind}{x:I TL}{n:Int}(h:iOf k x=some n):Le x (.int k n):=(DI.int (L:=TL) k).ok _ _ (by cases x<;>exact h)
theorem bOf_le {x:I TL}{b:Bool}(h:bOf x=some b):Le x (.bool b):=(DI.bool (L:=TL)).ok _ _ (by cases x<;>exact h)
theorem sOf_le {x:I TL}{s:ByteArray}(h:sOf x=some s):Le x (.str s):=by
 unfold sOf at h
 split at h
 ·cases h;exact fun _ _ hv=>hv
 ·cases h
theorem fzN {G:Fz}{l:TL}(h:LI.els l=[]):RepI G (.fz l) (.slice none 0 0):=.fz (k:=0) (o:=0) (vals:=fun _ _=>undef) (by rw [h];rfl) (Nat.le_refl _) (fun h=>absurd h (Nat.lt_irrefl _)) (fun i j cs x e=>by rw [h] at e;simp at e) (fun i j cs x e=>by rw [h] at e;simp at e)
theorem of_lInt_le {x:I TL}{l:List Int}(h:of_lInt x=some l):Le x (.fz (.lInt l)):=by
 unfold of_lInt at h
 split at h
 ·cases h;exact fun _ _ hv=>hv
 ·cases h
  intro G v hv
  cases hv
  exact fzN rfl
 ·cases h
theorem of_lWant_le {x:I TL}{l:List Want}(h:of_lWant x=some l):Le x (.fz (.lWant l)):=by
 unfold of_lWant at h
 split at h
 ·cases h;exact fun _ _ hv=>hv
 ·cases h
  intro G v hv
  cases hv
  exact fzN rfl
 ·cases h
theorem of_lDot_le {x:I TL}{l:List Dot}(h:of_lDot x=some l):Le x (.fz (.lDot l)):=by
 unfold of_lDot at h
 split at h
 ·cases h;exact fun _ _ hv=>hv
 ·cases h
  intro G v hv
  cases hv
  exact fzN rfl
 ·cases h
theorem of_lOp_le {x:I TL}{l:List Op}(h:of_lOp x=some l):Le x (.fz (.lOp l)):=by
 unfold of_lOp at h
 split at h
 ·cases h;exact fun _ _ hv=>hv
 ·cases h
  intro G v hv
  cases hv
  exact fzN rfl
 ·cases h
theorem of_lU8_le {x:I TL}{l:List Int}(h:of_lU8 x=some l):Le x (.fz (.lU8 l)):=by
 unfold of_lU8 at h
 split at h
 ·cases h;exact fun _ _ hv=>hv
 ·cases h
  intro G v hv
  cases hv
  exact fzN rfl
 ·cases h
theorem of_lAct_le {x:I TL}{l:List Act}(h:of_lAct x=some l):Le x (.fz (.lAct l)):=by
 unfold of_lAct at h
 split at h
 ·cases h;exact fun _ _ hv=>hv
 ·cases h
  intro G v hv
  cases hv
  exact fzN rfl
 ·cases h
theorem of_lLU8_le {x:I TL}{l:List (List Int)}(h:of_lLU8 x=some l):Le x (.fz (.lLU8 l)):=by
 unfold of_lLU8 at h
 split at h
 ·cases h;exact fun _ _ hv=>hv
 ·cases h
  intro G v hv
  cases hv
  exact fzN rfl
 ·cases h
theorem v_WantMk_le {l:List (I TL)}{x:Want}(h:v_WantMk l=some x):All2 Le l (v_WantC x):=by
 unfold v_WantMk at h
 split at h
 ·simp only [ob_eq] at h
  obtain ⟨_,h0,_,h1,_,h2,_,h3,h⟩:=h
  cases h
  exact .cons (sOf_le h0) (.cons (iOf_le h1) (.cons (iOf_le h2) (.cons (iOf_le h3) (.nil))))
 ·cases h
theorem v_DotMk_le {l:List (I TL)}{x:Dot}(h:v_DotMk l=some x):All2 Le l (v_DotC x):=by
 unfold v_DotMk at h
 split at h
 ·simp only [ob_eq] at h
  obtain ⟨_,h0,_,h1,_,h2,h⟩:=h
  cases h
  exact .cons (iOf_le h0) (.cons (iOf_le h1) (.cons (iOf_le h2) (.nil)))
 ·cases h
theorem v_OpMk_le {l:List (I TL)}{x:Op}(h:v_OpMk l=some x):All2 Le l (v_OpC x):=by
 unfold v_OpMk at h
 split at h
 ·simp only [ob_eq] at h
  obtain ⟨_,h0,_,h1,_,h2,_,h3,_,h4,_,h5,_,h6,_,h7,_,h8,_,h9,_,h10,h⟩:=h
  cases h
  exact .cons (iOf_le h0) (.cons (iOf_le h1) (.cons (iOf_le h2) (.cons (iOf_le h3) (.cons (iOf_le h4) (.cons (iOf_le h5) (.cons (sOf_le h6) (.cons (sOf_le h7) (.cons (iOf_le h8) (.cons (iOf_le h9) (.cons (of_lDot_le h10) (.nil)))))))))))
 ·cases h
theorem v_CmdMk_le {l:List (I TL)}{x:Cmd}(h:v_CmdMk l=some x):All2 Le l (v_CmdC x):=by
 unfold v_CmdMk at h
 split at h
 ·simp only [ob_eq] at h
  obtain ⟨_,h0,_,h1,_,h2,_,h3,_,h4,_,h5,_,h6,h⟩:=h
  cases h
  exact .cons (iOf_le h0) (.cons (iOf_le h1) (.cons (iOf_le h2) (.cons (iOf_le h3) (.cons (iOf_le h4) (.cons (of_lWant_le h5) (.cons (of_lOp_le h6) (.nil)))))))
 ·cases h
theorem v_ActMk_le {l:List (I TL)}{x:Act}(h:v_ActMk l=some x):All2 Le l (v_ActC x):=by
 unfold v_ActMk at h
 split at h
 ·simp only [ob_eq] at h
  obtain ⟨_,h0,_,h1,_,h2,_,h3,_,h4,h⟩:=h
  cases h
  exact .cons (iOf_le h0) (.cons (iOf_le h1) (.cons (iOf_le h2) (.cons (of_lWant_le h3) (.cons (of_lOp_le h4) (.nil)))))
 ·cases h
theorem v_IntMk_le {l:List (I TL)}{x:Int}(h:v_IntMk l=some x):All2 Le l (v_IntC x):=by
 unfold v_IntMk at h
 split at h
 ·simp only [ob_eq] at h
  obtain ⟨_,h0,h⟩:=h
  cases h
  exact .cons (iOf_le h0) (.nil)
 ·cases h
theorem v_U8Mk_le {l:List (I TL)}{x:Int}(h:v_U8Mk l=some x):All2 Le l (v_U8C x):=by
 unfold v_U8Mk at h
 split at h
 ·simp only [ob_eq] at h
  obtain ⟨_,h0,h⟩:=h
  cases h
  exact .cons (iOf_le h0) (.nil)
 ·cases h
theorem v_LU8Mk_le {l:List (I TL)}{x:List Int}(h:v_LU8Mk l=some x):All2 Le l (v_LU8C x):=by
 unfold v_LU8Mk at h
 split at h
 ·simp only [ob_eq] at h
  obtain ⟨_,h0,h⟩:=h
  cases h
  exact .cons (of_lU8_le h0) (.nil)
 ·cases h
theorem mksG_le {T:Type}{f:List (I TL)→Option T}{g:T→List (I TL)}(hf:∀ {c x},f c=some x→All2 Le c (g x)):∀ {css:List (List (I TL))} {l:List T},mksG f css=some l→All2 (All2 Le) css (l.map g)
 | [],l,h=>by simp [mksG] at h;subst h;exact .nil
 | c::r,l,h=>by
  simp only [mksG] at h
  split at h
  ·rename_i x xs hx hxs
   cases h
   exact .cons (hf hx) (mksG_le hf hxs)
  ·cases h
instance:LLaws TL where
 len:=fun l=>by cases l<;>simp [LI.len,LI.els]
 idx:=fun l i k=>by cases l<;>simp only [LI.idx,LI.els,List.getElem?_map,ob]<;>rename_i l<;>cases l[i]?<;>rfl
 size:=fun l cs h=>by
  cases l<;>simp only [LI.els,List.mem_map] at h<;>obtain ⟨x,_,rfl⟩:=h<;>rfl
 mkL:=fun t css l h=>by
  simp only [LI.mkL] at h
  split at h
  all_goals first | (cases h;done) | (split at h<;>first | (cases h;done) | skip)
  all_goals
   rename_i l hl;cases h
   first | exact mksG_le v_IntMk_le hl | exact mksG_le v_WantMk_le hl | exact mksG_le v_DotMk_le hl | exact mksG_le v_OpMk_le hl | exact mksG_le v_U8Mk_le hl | exact mksG_le v_ActMk_le hl | exact mksG_le v_LU8Mk_le hl
 app:=fun a b l h=>by
  simp only [LI.app] at h
  split at h<;>cases h<;>simp [LI.els,LI.sz]
 sub:=fun l lo hi=>by cases l<;>simp [LI.sub,LI.els,LI.sz,List.map_drop,List.map_take]
 set:=fun l i cs l' h=>by
  simp only [LI.set] at h
  split at h
  ·split at h
   ·rename_i y hy;cases h;exact ⟨_,v_IntMk_le hy,by simp [LI.els,List.map_set],rfl⟩
   ·cases h
  ·split at h
   ·rename_i y hy;cases h;exact ⟨_,v_WantMk_le hy,by simp [LI.els,List.map_set],rfl⟩
   ·cases h
  ·split at h
   ·rename_i y hy;cases h;exact ⟨_,v_DotMk_le hy,by simp [LI.els,List.map_set],rfl⟩
   ·cases h
  ·split at h
   ·rename_i y hy;cases h;exact ⟨_,v_OpMk_le hy,by simp [LI.els,List.map_set],rfl⟩
   ·cases h
  ·split at h
   ·rename_i y hy;cases h;exact ⟨_,v_U8Mk_le hy,by simp [LI.els,List.map_set],rfl⟩
   ·cases h
  ·split at h
   ·rename_i y hy;cases h;exact ⟨_,v_ActMk_le hy,by simp [LI.els,List.map_set],rfl⟩
   ·cases h
  ·split at h
   ·rename_i y hy;cases h;exact ⟨_,v_LU8Mk_le hy,by simp [LI.els,List.map_set],rfl⟩
   ·cases h
 mrg:=fun c a b l h=>by
  simp only [LI.mrg] at h
  split at h<;>cases h<;>cases c<;>simp [LI.els,LI.sz]
 flat:=fun l h cs hcs x hx G G' v hv=>by
  cases l<;>simp only [LI.flat] at h<;>first | (cases h;done) | skip
  all_goals
   simp only [LI.els,List.mem_map] at hcs
   obtain ⟨y,_,rfl⟩:=hcs
   first
    | (simp only [v_IntC,List.mem_cons,List.not_mem_nil,or_false] at hx;rcases hx with rfl<;>cases hv<;>constructor)
    | (simp only [v_WantC,List.mem_cons,List.not_mem_nil,or_false] at hx;rcases hx with rfl | rfl | rfl | rfl<;>cases hv<;>constructor)
    | (simp only [v_DotC,List.mem_cons,List.not_mem_nil,or_false] at hx;rcases hx with rfl | rfl | rfl<;>cases hv<;>constructor)
    | (simp only [v_U8C,List.mem_cons,List.not_mem_nil,or_false] at hx;rcases hx with rfl<;>cases hv<;>constructor)
 bytes:=fun l s h=>by
  simp only [LI.bytes] at h
  split at h
  ·cases h;exact ⟨_,rfl,rfl⟩
  ·cases h
 ofStr:=fun t s l h=>by
  simp only [LI.ofStr] at h
  split at h
  ·cases h
   refine ⟨by simp [LI.els,intsOfStr],rfl,fun G=>?_⟩
   simp only [LI.els,intsOfStr]
   exact bytes_rep G s
  ·cases h
theorem tlaws:TLaws TL tab where
 mkL:=fun t css l i h hi=>by
  simp only [LI.mkL] at h
  split at h
  all_goals first | (cases h;done) | (split at h<;>first | (cases h;done) | skip)
  all_goals
   cases h
   first | (cases (tab3_is.symm.trans hi);rfl) | (cases (tab179_is.symm.trans hi);rfl) | (cases (tab111_is.symm.trans hi);rfl) | (cases (tab113_is.symm.trans hi);rfl) | (cases (tab5_is.symm.trans hi);rfl) | (cases (tab120_is.symm.trans hi);rfl) | (cases (tab92_is.symm.trans hi);rfl)
 rep:=fun t n l h=>by
  simp only [LI.rep] at h
  split at h
  ·cases h;exact ⟨_,_,v_IntC 0,tab3_is,rfl,by simp [LI.els],rfl,.cons (fun _=>.int) (.nil)⟩
  ·cases h;exact ⟨_,_,v_WantC (Want.mk ⟨#[]⟩ 0 0 0),tab179_is,rfl,by simp [LI.els],rfl,.cons (fun _=>.str) (.cons (fun _=>.int) (.cons (fun _=>.int) (.cons (fun _=>.int) (.nil))))⟩
  ·cases h;exact ⟨_,_,v_DotC (Dot.mk 0 0 0),tab111_is,rfl,by simp [LI.els],rfl,.cons (fun _=>.int) (.cons (fun _=>.int) (.cons (fun _=>.int) (.nil)))⟩
  ·cases h;exact ⟨_,_,v_OpC (Op.mk (Dot.mk 0 0 0) 0 0 0 ⟨#[]⟩ ⟨#[]⟩ 0 0 []),tab113_is,rfl,by simp [LI.els],rfl,.cons (fun _=>.int) (.cons (fun _=>.int) (.cons (fun _=>.int) (.cons (fun _=>.int) (.cons (fun _=>.int) (.cons (fun _=>.int) (.cons (fun _=>.str) (.cons (fun _=>.str) (.cons (fun _=>.int) (.cons (fun _=>.int) (.cons (fun _=>fzN rfl) (.nil)))))))))))⟩
  ·cases h;exact ⟨_,_,v_U8C 0,tab5_is,rfl,by simp [LI.els],rfl,.cons (fun _=>.int) (.nil)⟩
  ·cases h;exact ⟨_,_,v_ActC (Act.mk 0 0 0 [] []),tab120_is,rfl,by simp [LI.els],rfl,.cons (fun _=>.int) (.cons (fun _=>.int) (.cons (fun _=>.int) (.cons (fun _=>fzN rfl) (.cons (fun _=>fzN rfl) (.nil)))))⟩
  ·cases h;exact ⟨_,_,v_LU8C [],tab92_is,rfl,by simp [LI.els],rfl,.cons (fun _=>fzN rfl) (.nil)⟩
  ·cases h
def j_lInt:Cod.Inj TL (List Int):=⟨TL.lInt,fun | .lInt l=>some l | _=>none,fun l t h=>by cases l<;>simp_all⟩
def di_lInt:DI TL (List Int):=⟨fun l=>.fz (.lInt l),of_lInt,fun _ _ h=>of_lInt_le h⟩
def j_lWant:Cod.Inj TL (List Want):=⟨TL.lWant,fun | .lWant l=>some l | _=>none,fun l t h=>by cases l<;>simp_all⟩
def di_lWant:DI TL (List Want):=⟨fun l=>.fz (.lWant l),of_lWant,fun _ _ h=>of_lWant_le h⟩
def j_lDot:Cod.Inj TL (List Dot):=⟨TL.lDot,fun | .lDot l=>some l | _=>none,fun l t h=>by cases l<;>simp_all⟩
def di_lDot:DI TL (List Dot):=⟨fun l=>.fz (.lDot l),of_lDot,fun _ _ h=>of_lDot_le h⟩
def j_lOp:Cod.Inj TL (List Op):=⟨TL.lOp,fun | .lOp l=>some l | _=>none,fun l t h=>by cases l<;>simp_all⟩
def di_lOp:DI TL (List Op):=⟨fun l=>.fz (.lOp l),of_lOp,fun _ _ h=>of_lOp_le h⟩
def j_lU8:Cod.Inj TL (List Int):=⟨TL.lU8,fun | .lU8 l=>some l | _=>none,fun l t h=>by cases l<;>simp_all⟩
def di_lU8:DI TL (List Int):=⟨fun l=>.fz (.lU8 l),of_lU8,fun _ _ h=>of_lU8_le h⟩
def j_lAct:Cod.Inj TL (List Act):=⟨TL.lAct,fun | .lAct l=>some l | _=>none,fun l t h=>by cases l<;>simp_all⟩
def di_lAct:DI TL (List Act):=⟨fun l=>.fz (.lAct l),of_lAct,fun _ _ h=>of_lAct_le h⟩
def j_lLU8:Cod.Inj TL (List (List Int)):=⟨TL.lLU8,fun | .lLU8 l=>some l | _=>none,fun l t h=>by cases l<;>simp_all⟩
def di_lLU8:DI TL (List (List Int)):=⟨fun l=>.fz (.lLU8 l),of_lLU8,fun _ _ h=>of_lLU8_le h⟩
def dc_Want:DC TL Want:=⟨v_WantC,v_WantMk,fun _ _ h=>v_WantMk_le h⟩
def dc_Dot:DC TL Dot:=⟨v_DotC,v_DotMk,fun _ _ h=>v_DotMk_le h⟩
def dc_Op:DC TL Op:=⟨v_OpC,v_OpMk,fun _ _ h=>v_OpMk_le h⟩
def dc_Cmd:DC TL Cmd:=⟨v_CmdC,v_CmdMk,fun _ _ h=>v_CmdMk_le h⟩
def dc_Act:DC TL Act:=⟨v_ActC,v_ActMk,fun _ _ h=>v_ActMk_le h⟩
theorem base:Base TL Tryz.prog tab:=⟨tabOK,tlaws,by kernel_rfl⟩
end Go.Proofs.YtogbdkfbjphkiaaGreat
