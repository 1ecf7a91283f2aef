/- A quoted word says its bytes. -/
import Derived.Test.YtciofnpmlgbdaaaGreatDoorSs
namespace Go.Shell
open Go Go.Ev
def bl (s:ByteArray):List Int:=intsOfStr s
theorem bl_len (s:ByteArray):(bl s).length=s.size:=by
  unfold bl intsOfStr
  rw [List.length_map,Array.length_toList];rfl
theorem bl_get (s:ByteArray){i:Nat}(h:i < s.size):(bl s)[i]?=some (bt s i):=by
  have h2:i < s.data.size:=h
  rw [bt_lt h]
  unfold bl intsOfStr
  rw [List.getElem?_map,Array.getElem?_toList,Array.getElem?_eq_getElem h2];rfl
theorem dr {s:ByteArray}{i:Nat}{c:Int}{r:List Int}(h:(bl s).drop i=c::r):i < s.size∧bt s i=c∧(bl s).drop (i+1)=r:=by
  have hl:i < s.size:=by
    have:=congrArg List.length h
    simp only [List.length_drop,bl_len,List.length_cons] at this
    omega
  have h0:(bl s)[i]?=some c:=by
    have:=congrArg (fun l=>l[0]?) h
    simpa using this
  rw [bl_get s hl] at h0
  refine ⟨hl,Option.some.inj h0,?_⟩
  have:=congrArg (List.drop 1) h
  simpa [List.drop_drop] using this
/-- a digit -/
def hx (n:Int):Int:=if n < 10 then 48+n else 87+n
theorem hexv_hx {n:Int}(h0:0≤n)(h1:n < 16):hexv (hx n)=n:=by
  unfold hexv hx
  split
  · rw [if_pos (by omega)];omega
  · rw [if_neg (by omega),if_pos (by omega)];omega
/-- a byte, as it is written -/
def qb (c:Int):List Int :=
  if c=92∨c=34 then [92,c] else if c=10 then [92,110] else if c=9 then [92,116] else if c < 32∨c > 126 then [92,120,hx (c / 16),hx (c % 16)] else [c]
/-- bytes as a word -/
def qt (l:List Int):List Int:=34::(l.flatMap qb++[34])
theorem esc_qb {s:ByteArray}{i:Nat}{c:Int}{r:List Int}(h0:0≤c)(h1:c < 256)(h:(bl s).drop i=qb c++r):i < s.size∧bt s i≠34∧esc s i=some (c,(qb c).length)∧(bl s).drop (i+(qb c).length)=r:=by
  unfold qb at h ⊢
  by_cases a1:c=92∨c=34
  · rw [if_pos a1] at h ⊢
    obtain ⟨b1,b2,h⟩:=dr h
    obtain ⟨b3,b4,h⟩:=dr h
    refine ⟨b1,by omega,?_,h⟩
    unfold esc
    rw [if_neg (by omega),if_neg (by omega),if_pos (by omega),b4];rfl
  rw [if_neg a1] at h ⊢
  by_cases a2:c=10
  · rw [if_pos a2] at h ⊢
    obtain ⟨b1,b2,h⟩:=dr h
    obtain ⟨b3,b4,h⟩:=dr h
    refine ⟨b1,by omega,?_,h⟩
    unfold esc
    rw [if_neg (by omega),if_neg (by omega),if_neg (by omega),if_pos b4,a2];rfl
  rw [if_neg a2] at h ⊢
  by_cases a3:c=9
  · rw [if_pos a3] at h ⊢
    obtain ⟨b1,b2,h⟩:=dr h
    obtain ⟨b3,b4,h⟩:=dr h
    refine ⟨b1,by omega,?_,h⟩
    unfold esc
    rw [if_neg (by omega),if_neg (by omega),if_neg (by omega),if_neg (by omega),if_pos b4,a3];rfl
  rw [if_neg a3] at h ⊢
  by_cases a4:c < 32∨c > 126
  · rw [if_pos a4] at h ⊢
    obtain ⟨b1,b2,h⟩:=dr h
    obtain ⟨b3,b4,h⟩:=dr h
    obtain ⟨b5,b6,h⟩:=dr h
    obtain ⟨b7,b8,h⟩:=dr h
    have b6:bt s (i+2)=hx (c / 16):=b6
    have b8:bt s (i+3)=hx (c % 16):=b8
    have e1:=hexv_hx (n:=c / 16) (by omega) (by omega)
    have e2:=hexv_hx (n:=c % 16) (by omega) (by omega)
    refine ⟨b1,by omega,?_,h⟩
    unfold esc
    rw [if_neg (by omega),if_neg (by omega),if_neg (by omega),if_neg (by omega),if_neg (by omega),if_pos b4,if_neg (by omega),b6,b8,e1,e2,if_neg (by omega)]
    simp only [Option.some.injEq,Prod.mk.injEq]
    exact ⟨by omega,rfl⟩
  · rw [if_neg a4] at h ⊢
    obtain ⟨b1,b2,h⟩:=dr h
    refine ⟨b1,by omega,?_,h⟩
    unfold esc
    rw [if_pos (by omega),b2];rfl
theorem unq_qt {s:ByteArray}:∀ (l:List Int),(∀ c∈l,0≤c∧c < 256)→∀ (f i:Nat) (acc rest:List Int),l.length < f→(bl s).drop i=l.flatMap qb++34::rest →
    unq s f i acc=some (acc++l,i+(l.flatMap qb).length+1)∧(bl s).drop (i+(l.flatMap qb).length+1)=rest
  | [],_,f,i,acc,rest,hf,h=>by
    obtain ⟨b1,b2,h⟩:=dr (r:=rest) h
    match f,hf with
    | f+1,_ =>
      unfold unq
      rw [if_pos b1,if_pos b2]
      exact ⟨by simp,h⟩
  | c::l,hl,f,i,acc,rest,hf,h=>by
    match f,hf with
    | f+1,hf =>
      have hc:=hl c (by simp)
      rw [List.flatMap_cons,List.append_assoc] at h
      obtain ⟨b1,b2,b3,h⟩:=esc_qb hc.1 hc.2 h
      obtain ⟨e1,e2⟩:=unq_qt l (fun d hd=>hl d (by simp [hd])) f (i+(qb c).length) (acc++[c]) rest (by simpa using hf) h
      unfold unq
      rw [if_pos b1,if_neg b2,b3]
      simp only []
      rw [e1,List.flatMap_cons,List.length_append,← Nat.add_assoc]
      exact ⟨by simp,e2⟩
/-- words that are quoted, one behind the other -/
theorem wds_qt {s:ByteArray}:∀ (ls:List (List Int)),(∀ l∈ls,∀ c∈l,0≤c∧c < 256)→∀ (f i:Nat) (acc:List ByteArray) (rest:List Int),3 * ls.length < f→(bl s).drop i=ls.flatMap (fun l=>32::(qt l++[9]))++35::rest →
    wds s f i acc=some (acc++ls.map strOfInts)
  | [],_,f,i,acc,rest,hf,h=>by
    obtain ⟨b1,b2,_⟩:=dr (r:=rest) h
    match f,hf with
    | f+1,_ =>
      unfold wds
      rw [if_pos b1,if_neg (by omega),if_pos b2]
      simp
  | l::ls,hl,f,i,acc,rest,hf,h=>by
    have h:(bl s).drop i=32::34::(l.flatMap qb++34::9::(ls.flatMap (fun l=>32::(qt l++[9]))++35::rest)):=by
      rw [h];simp [qt]
    obtain ⟨b1,b2,h⟩:=dr h
    obtain ⟨b3,b4,h⟩:=dr h
    have hsz:l.length < s.size+1:=by
      have hq:∀ l:List Int,l.length≤(l.flatMap qb).length:=by
        intro l
        induction l with
        | nil=>simp
        | cons c l ih =>
          have:1≤(qb c).length:=by unfold qb;(repeat' split)<;>simp
          simp only [List.flatMap_cons,List.length_append,List.length_cons];omega
      have:=congrArg List.length h
      have hql:=hq l
      simp only [List.length_drop,bl_len,List.length_append,List.length_cons] at this
      omega
    obtain ⟨e1,h⟩:=unq_qt l (hl l (by simp)) (s.size+1) (i+1+1) [] _ hsz h
    generalize hk:i+1+1+(l.flatMap qb).length+1=k at e1 h
    obtain ⟨b5,b6,h⟩:=dr h
    match f,hf with
    | f+3,hf =>
      unfold wds
      rw [if_pos b1,if_pos (.inl b2)]
      unfold wds
      rw [if_pos b3,if_neg (by omega),if_neg (by omega),if_pos b4,e1]
      simp only []
      rw [if_neg (by omega)]
      unfold wds
      rw [if_pos b5,if_pos (.inr b6),wds_qt ls (fun m hm=>hl m (by simp [hm])) f (k+1) _ rest (by simp only [List.length_cons] at hf;omega) h]
      simp
end Go.Shell
