/- By program (gen.py): the typed lists of this program, and their laws. -/
import Derived.Test.YtciofnpmlgbdaaaGreatDoorTab
import Derived.Test.YtciofnpmlgbdaaaGreatDoorEd
namespace Go.Proofs.YtciofnpmlgbdaaaGreatDoor
open Go Go.Ev
set_option maxRecDepth 100000
inductive TL where
 | lU8 (l:List Int)
 | lStr (l:List ByteArray)
 | lLU8 (l:List (List Int))
 | lBool (l:List Bool)
 | lInt (l:List Int)
def iOf (k:IntKind)(x:I TL):Option Int:=match x with | .lit k1 n=>cond (keq k1 k) (some n) none | .int k1 n=>cond (keq k1 k) (some n) none | _=>none
def bOf (x:I TL):Option Bool:=match x with | .tt=>some true | .ff=>some false | .bool b=>some b | _=>none
def sOf (x:I TL):Option ByteArray:=match x with | .str s=>some s | _=>none
def of_lU8 (x:I TL):Option (List Int):=match x with | .fz (.lU8 l)=>some l | .val (.slice none 0 0)=>some [] | _=>none
def of_lStr (x:I TL):Option (List ByteArray):=match x with | .fz (.lStr l)=>some l | .val (.slice none 0 0)=>some [] | _=>none
def of_lLU8 (x:I TL):Option (List (List Int)):=match x with | .fz (.lLU8 l)=>some l | .val (.slice none 0 0)=>some [] | _=>none
def v_U8C (x:Int):List (I TL):=[.int .u8 x]
def v_U8Mk (l:List (I TL)):Option Int:=match l with | [x0]=>ob (iOf .u8 x0) fun y0=>some y0 | _=>none
def v_StrC (x:ByteArray):List (I TL):=[.str x]
def v_StrMk (l:List (I TL)):Option ByteArray:=match l with | [x0]=>ob (sOf x0) fun y0=>some y0 | _=>none
def v_LU8C (x:List Int):List (I TL):=[.fz (.lU8 x)]
def v_LU8Mk (l:List (I TL)):Option (List Int):=match l with | [x0]=>ob (of_lU8 x0) fun y0=>some y0 | _=>none
def v_BoolC (x:Bool):List (I TL):=[.bool x]
def v_BoolMk (l:List (I TL)):Option Bool:=match l with | [x0]=>ob (bOf x0) fun y0=>some y0 | _=>none
def v_IntC (x:Int):List (I TL):=[.int .i64 x]
def v_IntMk (l:List (I TL)):Option Int:=match l with | [x0]=>ob (iOf .i64 x0) fun y0=>some y0 | _=>none
def mksG {T:Type}(f:List (I TL)→Option T):List (List (I TL))→Option (List T)
 | []=>some []
 | c::r=>match f c,mksG f r with | some x,some xs=>some (x::xs) | _,_=>none
instance:LI TL where
 kn:=false
 selT:=fun _=>false
 els:=fun
  | .lU8 l=>l.map v_U8C
  | .lStr l=>l.map v_StrC
  | .lLU8 l=>l.map v_LU8C
  | .lBool l=>l.map v_BoolC
  | .lInt l=>l.map v_IntC
 sz:=fun
  | .lU8 _=>1
  | .lStr _=>1
  | .lLU8 _=>1
  | .lBool _=>1
  | .lInt _=>1
 len:=fun
  | .lU8 l=>l.length
  | .lStr l=>l.length
  | .lLU8 l=>l.length
  | .lBool l=>l.length
  | .lInt l=>l.length
 idx:=fun x i k=>match x with
  | .lU8 l=>ob l[i]? fun x=>k (v_U8C x)
  | .lStr l=>ob l[i]? fun x=>k (v_StrC x)
  | .lLU8 l=>ob l[i]? fun x=>k (v_LU8C x)
  | .lBool l=>ob l[i]? fun x=>k (v_BoolC x)
  | .lInt l=>ob l[i]? fun x=>k (v_IntC x)
 mkL:=fun t cs=>match t with
  | 5=>match mksG v_U8Mk cs with | some l=>some (.lU8 l) | none=>none
  | 9=>match mksG v_StrMk cs with | some l=>some (.lStr l) | none=>none
  | 22=>match mksG v_LU8Mk cs with | some l=>some (.lLU8 l) | none=>none
  | 4=>match mksG v_BoolMk cs with | some l=>some (.lBool l) | none=>none
  | 3=>match mksG v_IntMk cs with | some l=>some (.lInt l) | none=>none
  | _=>none
 bytes:=fun
  | .lU8 l=>some (strOfInts l)
  | _=>none
 ofStr:=fun t s=>match t with
  | 5=>some (.lU8 (intsOfStr s))
  | _=>none
 app:=fun x y=>match x,y with
  | .lU8 a,.lU8 b=>some (.lU8 (a++b))
  | .lStr a,.lStr b=>some (.lStr (a++b))
  | .lLU8 a,.lLU8 b=>some (.lLU8 (a++b))
  | .lBool a,.lBool b=>some (.lBool (a++b))
  | .lInt a,.lInt b=>some (.lInt (a++b))
  | _,_=>none
 sub:=fun x lo hi=>match x with
  | .lU8 l=>.lU8 ((l.take hi).drop lo)
  | .lStr l=>.lStr ((l.take hi).drop lo)
  | .lLU8 l=>.lLU8 ((l.take hi).drop lo)
  | .lBool l=>.lBool ((l.take hi).drop lo)
  | .lInt l=>.lInt ((l.take hi).drop lo)
 set:=fun x i cs=>match x with
  | .lU8 l=>match v_U8Mk cs with | some y=>some (.lU8 (l.set i y)) | none=>none
  | .lStr l=>match v_StrMk cs with | some y=>some (.lStr (l.set i y)) | none=>none
  | .lLU8 l=>match v_LU8Mk cs with | some y=>some (.lLU8 (l.set i y)) | none=>none
  | .lBool l=>match v_BoolMk cs with | some y=>some (.lBool (l.set i y)) | none=>none
  | .lInt l=>match v_IntMk cs with | some y=>some (.lInt (l.set i y)) | none=>none
 rep:=fun t n=>match t with
  | 5=>some (.lU8 (List.replicate n 0))
  | 9=>some (.lStr (List.replicate n ⟨#[]⟩))
  | 22=>some (.lLU8 (List.replicate n []))
  | 4=>some (.lBool (List.replicate n false))
  | 3=>some (.lInt (List.replicate n 0))
  | _=>none
 mrg:=fun c x y=>match x,y with
  | .lU8 a,.lU8 b=>some (.lU8 (cond c a b))
  | .lStr a,.lStr b=>some (.lStr (cond c a b))
  | .lLU8 a,.lLU8 b=>some (.lLU8 (cond c a b))
  | .lBool a,.lBool b=>some (.lBool (cond c a b))
  | .lInt a,.lInt b=>some (.lInt (cond c a b))
  | _,_=>none
 flat:=fun
  | .lU8 _=>true
  | .lStr _=>true
  | .lLU8 _=>false
  | .lBool _=>true
  | .lInt _=>true
theorem iOf_le {k:IntKind}{x:I TL}{n:Int}(h:iOf k x=some n):Le x (.int k n):=(DI.int (L:=TL) k).ok _ _ (by cases x<;>exact h)
theorem bOf_le {x:I TL}{b:Bool}(h:bOf x=some b):Le x (.bool b):=(DI.bool (L:=TL)).ok _ _ (by cases x<;>exact h)
theorem sOf_le {x:I TL}{s:ByteArray}(h:sOf x=some s):Le x (.str s):=by
 unfold sOf at h
 split at h
 ·cases h;exact fun _ _ hv=>hv
 ·cases h
theorem fzN {G:Fz}{l:TL}(h:LI.els l=[]):RepI G (.fz l) (.slice none 0 0):=.fz (k:=0) (o:=0) (vals:=fun _ _=>undef) (by rw [h];rfl) (Nat.le_refl _) (fun h=>absurd h (Nat.lt_irrefl _)) (fun i j cs x e=>by rw [h] at e;simp at e) (fun i j cs x e=>by rw [h] at e;simp at e)
theorem of_lU8_le {x:I TL}{l:List Int}(h:of_lU8 x=some l):Le x (.fz (.lU8 l)):=by
 unfold of_lU8 at h
 split at h
 ·cases h;exact fun _ _ hv=>hv
 ·cases h
  intro G v hv
  cases hv
  exact fzN rfl
 ·cases h
theorem of_lStr_le {x:I TL}{l:List ByteArray}(h:of_lStr x=some l):Le x (.fz (.lStr l)):=by
 unfold of_lStr at h
 split at h
 ·cases h;exact fun _ _ hv=>hv
 ·cases h
  intro G v hv
  cases hv
  exact fzN rfl
 ·cases h
theorem of_lLU8_le {x:I TL}{l:List (List Int)}(h:of_lLU8 x=some l):Le x (.fz (.lLU8 l)):=by
 unfold of_lLU8 at h
 split at h
 ·cases h;exact fun _ _ hv=>hv
 ·cases h
  intro G v hv
  cases hv
  exact fzN rfl
 ·cases h
theorem v_U8Mk_le {l:List (I TL)}{x:Int}(h:v_U8Mk l=some x):All2 Le l (v_U8C x):=by
 unfold v_U8Mk at h
 split at h
 ·simp only [ob_eq] at h
  obtain ⟨_,h0,h⟩:=h
  cases h
  exact .cons (iOf_le h0) (.nil)
 ·cases h
theorem v_StrMk_le {l:List (I TL)}{x:ByteArray}(h:v_StrMk l=some x):All2 Le l (v_StrC x):=by
 unfold v_StrMk at h
 split at h
 ·simp only [ob_eq] at h
  obtain ⟨_,h0,h⟩:=h
  cases h
  exact .cons (sOf_le h0) (.nil)
 ·cases h
theorem v_LU8Mk_le {l:List (I TL)}{x:List Int}(h:v_LU8Mk l=some x):All2 Le l (v_LU8C x):=by
 unfold v_LU8Mk at h
 split at h
 ·simp only [ob_eq] at h
  obtain ⟨_,h0,h⟩:=h
  cases h
  exact .cons (of_lU8_le h0) (.nil)
 ·cases h
theorem v_BoolMk_le {l:List (I TL)}{x:Bool}(h:v_BoolMk l=some x):All2 Le l (v_BoolC x):=by
 unfold v_BoolMk at h
 split at h
 ·simp only [ob_eq] at h
  obtain ⟨_,h0,h⟩:=h
  cases h
  exact .cons (bOf_le h0) (.nil)
 ·cases h
theorem v_IntMk_le {l:List (I TL)}{x:Int}(h:v_IntMk l=some x):All2 Le l (v_IntC x):=by
 unfold v_IntMk at h
 split at h
 ·simp only [ob_eq] at h
  obtain ⟨_,h0,h⟩:=h
  cases h
  exact .cons (iOf_le h0) (.nil)
 ·cases h
theorem mksG_le {T:Type}{f:List (I TL)→Option T}{g:T→List (I TL)}(hf:∀ {c x},f c=some x→All2 Le c (g x)):∀ {css:List (List (I TL))} {l:List T},mksG f css=some l→All2 (All2 Le) css (l.map g)
 | [],l,h=>by simp [mksG] at h;subst h;exact .nil
 | c::r,l,h=>by
  simp only [mksG] at h
  split at h
  ·rename_i x xs hx hxs
   cases h
   exact .cons (hf hx) (mksG_le hf hxs)
  ·cases h
instance:LLaws TL where
 len:=fun l=>by cases l<;>simp [LI.len,LI.els]
 idx:=fun l i k=>by cases l<;>simp only [LI.idx,LI.els,List.getElem?_map,ob]<;>rename_i l<;>cases l[i]?<;>rfl
 size:=fun l cs h=>by
  cases l<;>simp only [LI.els,List.mem_map] at h<;>obtain ⟨x,_,rfl⟩:=h<;>rfl
 mkL:=fun t css l h=>by
  simp only [LI.mkL] at h
  split at h
  all_goals first | (cases h;done) | (split at h<;>first | (cases h;done) | skip)
  all_goals
   rename_i l hl;cases h
   first | exact mksG_le v_U8Mk_le hl | exact mksG_le v_StrMk_le hl | exact mksG_le v_LU8Mk_le hl | exact mksG_le v_BoolMk_le hl | exact mksG_le v_IntMk_le hl
 app:=fun a b l h=>by
  simp only [LI.app] at h
  split at h<;>cases h<;>simp [LI.els,LI.sz]
 sub:=fun l lo hi=>by cases l<;>simp [LI.sub,LI.els,LI.sz,List.map_drop,List.map_take]
 set:=fun l i cs l' h=>by
  simp only [LI.set] at h
  split at h
  ·split at h
   ·rename_i y hy;cases h;exact ⟨_,v_U8Mk_le hy,by simp [LI.els,List.map_set],rfl⟩
   ·cases h
  ·split at h
   ·rename_i y hy;cases h;exact ⟨_,v_StrMk_le hy,by simp [LI.els,List.map_set],rfl⟩
   ·cases h
  ·split at h
   ·rename_i y hy;cases h;exact ⟨_,v_LU8Mk_le hy,by simp [LI.els,List.map_set],rfl⟩
   ·cases h
  ·split at h
   ·rename_i y hy;cases h;exact ⟨_,v_BoolMk_le hy,by simp [LI.els,List.map_set],rfl⟩
   ·cases h
  ·split at h
   ·rename_i y hy;cases h;exact ⟨_,v_IntMk_le hy,by simp [LI.els,List.map_set],rfl⟩
   ·cases h
 mrg:=fun c a b l h=>by
  simp only [LI.mrg] at h
  split at h<;>cases h<;>cases c<;>simp [LI.els,LI.sz]
 flat:=fun l h cs hcs x hx G G' v hv=>by
  cases l<;>simp only [LI.flat] at h<;>first | (cases h;done) | skip
  all_goals
   simp only [LI.els,List.mem_map] at hcs
   obtain ⟨y,_,rfl⟩:=hcs
   first
    | (simp only [v_U8C,List.mem_cons,List.not_mem_nil,or_false] at hx;rcases hx with rfl<;>cases hv<;>constructor)
    | (simp only [v_StrC,List.mem_cons,List.not_mem_nil,or_false] at hx;rcases hx with rfl<;>cases hv<;>constructor)
    | (simp only [v_BoolC,List.mem_cons,List.not_mem_nil,or_false] at hx;rcases hx with rfl<;>cases hv<;>constructor)
    | (simp only [v_IntC,List.mem_cons,List.not_mem_nil,or_false] at hx;rcases hx with rfl<;>cases hv<;>constructor)
 bytes:=fun l s h=>by
  simp only [LI.bytes] at h
  split at h
  ·cases h;exact ⟨_,rfl,rfl⟩
  ·cases h
 ofStr:=fun t s l h=>by
  simp only [LI.ofStr] at h
  split at h
  ·cases h
   refine ⟨by simp [LI.els,intsOfStr],rfl,fun G=>?_⟩
   simp only [LI.els,intsOfStr]
   exact bytes_rep G s
  ·cases h
theorem tlaws:TLaws TL tab where
 mkL:=fun t css l i h hi=>by
  simp only [LI.mkL] at h
  split at h
  all_goals first | (cases h;done) | (split at h<;>first | (cases h;done) | skip)
  all_goals
   cases h
   first | (cases (tab5_is.symm.trans hi);rfl) | (cases (tab9_is.symm.trans hi);rfl) | (cases (tab22_is.symm.trans hi);rfl) | (cases (tab4_is.symm.trans hi);rfl) | (cases (tab3_is.symm.trans hi);rfl)
 rep:=fun t n l h=>by
  simp only [LI.rep] at h
  split at h
  ·cases h;exact ⟨_,_,v_U8C 0,tab5_is,rfl,by simp [LI.els],rfl,.cons (fun _=>.int) (.nil)⟩
  ·cases h;exact ⟨_,_,v_StrC ⟨#[]⟩,tab9_is,rfl,by simp [LI.els],rfl,.cons (fun _=>.str) (.nil)⟩
  ·cases h;exact ⟨_,_,v_LU8C [],tab22_is,rfl,by simp [LI.els],rfl,.cons (fun _=>fzN rfl) (.nil)⟩
  ·cases h;exact ⟨_,_,v_BoolC false,tab4_is,rfl,by simp [LI.els],rfl,.cons (fun _=>.bool) (.nil)⟩
  ·cases h;exact ⟨_,_,v_IntC 0,tab3_is,rfl,by simp [LI.els],rfl,.cons (fun _=>.int) (.nil)⟩
  ·cases h
def j_lU8:Cod.Inj TL (List Int):=⟨TL.lU8,fun | .lU8 l=>some l | _=>none,fun l t h=>by cases l<;>simp_all⟩
def di_lU8:DI TL (List Int):=⟨fun l=>.fz (.lU8 l),of_lU8,fun _ _ h=>of_lU8_le h⟩
def j_lStr:Cod.Inj TL (List ByteArray):=⟨TL.lStr,fun | .lStr l=>some l | _=>none,fun l t h=>by cases l<;>simp_all⟩
def di_lStr:DI TL (List ByteArray):=⟨fun l=>.fz (.lStr l),of_lStr,fun _ _ h=>of_lStr_le h⟩
def j_lLU8:Cod.Inj TL (List (List Int)):=⟨TL.lLU8,fun | .lLU8 l=>some l | _=>none,fun l t h=>by cases l<;>simp_all⟩
def di_lLU8:DI TL (List (List Int)):=⟨fun l=>.fz (.lLU8 l),of_lLU8,fun _ _ h=>of_lLU8_le h⟩
theorem base:Base TL Tryz.prog tab:=⟨tabOK,tlaws,by kernel_rfl⟩
end Go.Proofs.YtciofnpmlgbdaaaGreatDoor
