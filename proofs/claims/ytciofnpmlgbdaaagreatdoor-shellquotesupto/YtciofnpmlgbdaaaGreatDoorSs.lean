/- Words and quotes, as plain functions of bytes. -/
import Derived.Test.YtciofnpmlgbdaaaGreatDoorEd
namespace Go.Shell
open Go Go.Ev
/-- a string's byte at a place -/
def bt (s:ByteArray)(i:Nat):Int:=((s[i]?.getD 0).toNat:Int)
theorem bt_lt {s:ByteArray}{i:Nat}(h:i < s.size):bt s i=(s[i].toNat:Int):=by
  unfold bt
  rw [getElem?_pos s i h];rfl
theorem size_cut {s:ByteArray}{a b:Nat}(h:b≤s.size):(s.extract a b).size=b - a:=by
  simp [ByteArray.size_extract];omega
theorem bt_cut {s:ByteArray}{a j b:Nat}(hb:b≤s.size)(h:a+j < b):bt (s.extract a b) j=bt s (a+j):=by
  have h1:j < (s.extract a b).size:=by rw [size_cut hb];omega
  rw [bt_lt h1,bt_lt (show a+j < s.size by omega),ByteArray.getElem_extract]
theorem bt_bound (s:ByteArray)(i:Nat):0≤bt s i∧bt s i < 256:=by
  unfold bt
  have:=(s[i]?.getD 0).toNat_lt
  omega
/-- a digit's number; -1: it is none -/
def hexv (c:Int):Int:=if 48≤c∧c≤57 then c - 48 else if 97≤c∧c≤102 then c - 97+10 else -1
/-- one byte, and how many it is written with -/
def esc (s:ByteArray)(i:Nat):Option (Int×Nat) :=
  if bt s i≠92 then some (bt s i,1)
  else if s.size≤i+1 then none
  else if bt s (i+1)=92∨bt s (i+1)=34 then some (bt s (i+1),2)
  else if bt s (i+1)=110 then some (10,2)
  else if bt s (i+1)=116 then some (9,2)
  else if bt s (i+1)=120 then
    (if s.size≤i+3 then none else if hexv (bt s (i+2)) < 0∨hexv (bt s (i+3)) < 0 then none else some (16 * hexv (bt s (i+2))+hexv (bt s (i+3)),4))
  else none
/-- a quoted word behind its first quote: its bytes, and where it ends -/
def unq (s:ByteArray):Nat→Nat→List Int→Option (List Int×Nat)
  | 0,_,_=>none
  | f+1,i,acc=>if i < s.size then (if bt s i=34 then some (acc,i+1) else match esc s i with
    | none=>none
    | some (b,n)=>unq s f (i+n) (acc++[b])) else none
theorem esc_pos {s:ByteArray}{i:Nat}{b:Int}{n:Nat}(h:esc s i=some (b,n)):1≤n:=by
  unfold esc at h
  repeat' split at h
  all_goals first | (cases h;done) | (simp only [Option.some.injEq,Prod.mk.injEq] at h;omega)
theorem esc_le {s:ByteArray}{i:Nat}{b:Int}{n:Nat}(hi:i < s.size)(h:esc s i=some (b,n)):i+n≤s.size:=by
  unfold esc at h
  repeat' split at h
  all_goals first | (cases h;done) | (simp only [Option.some.injEq,Prod.mk.injEq] at h;omega)
theorem hexv_bound (c:Int) : -1≤hexv c∧hexv c≤15:=by
  unfold hexv
  split
  · omega
  · split<;>omega
theorem esc_cut {s:ByteArray}{a i:Nat}(h:a+i < s.size):esc (s.extract a s.size) i=esc s (a+i):=by
  have hs:(s.extract a s.size).size=s.size - a:=size_cut (Nat.le_refl _)
  have e:∀ j,a+(i+j) < s.size→bt (s.extract a s.size) (i+j)=bt s (a+i+j):=fun j hj=>by rw [bt_cut (Nat.le_refl _) hj,Nat.add_assoc]
  have e0:=bt_cut (s:=s) (Nat.le_refl _) h
  unfold esc
  rw [e0,hs]
  by_cases h1:s.size≤a+i+1
  · rw [if_pos (show s.size - a≤i+1 by omega),if_pos h1]
  · rw [if_neg (show ¬ s.size - a≤i+1 by omega),if_neg h1,e 1 (by omega)]
    by_cases h3:s.size≤a+i+3
    · rw [if_pos (show s.size - a≤i+3 by omega),if_pos h3]
    · rw [if_neg (show ¬ s.size - a≤i+3 by omega),if_neg h3,e 2 (by omega),e 3 (by omega)]
theorem unq_cut {s:ByteArray}{a:Nat}(ha:a≤s.size):∀ (f i:Nat) (acc:List Int),unq (s.extract a s.size) f i acc=(unq s f (a+i) acc).map fun p=>(p.1,p.2 - a)
  | 0,_,_=>rfl
  | f+1,i,acc=>by
    have hs:(s.extract a s.size).size=s.size - a:=size_cut (Nat.le_refl _)
    unfold unq
    rw [hs]
    by_cases h:a+i < s.size
    · rw [if_pos (show i < s.size - a by omega),if_pos h,bt_cut (Nat.le_refl _) h,esc_cut h]
      by_cases h2:bt s (a+i)=34
      · rw [if_pos h2,if_pos h2]
        simp only [Option.map_some,Option.some.injEq,Prod.mk.injEq,true_and]
        omega
      · rw [if_neg h2,if_neg h2]
        cases he:esc s (a+i) with
        | none=>rfl
        | some p =>
          obtain ⟨b,n⟩:=p
          simp only []
          rw [unq_cut ha f (i+n) (acc++[b]),Nat.add_assoc]
    · rw [if_neg (show ¬ i < s.size - a by omega),if_neg h];rfl
theorem unq_end {s:ByteArray}:∀ {f i:Nat} {acc w:List Int} {k:Nat},unq s f i acc=some (w,k)→i < k∧k≤s.size
  | 0,_,_,_,_,h=>by cases h
  | f+1,i,acc,w,k,h=>by
    unfold unq at h
    split at h
    · split at h
      · simp only [Option.some.injEq,Prod.mk.injEq] at h;omega
      · split at h
        · cases h
        · rename_i he
          have:=unq_end h
          have:=esc_pos he
          omega
    · cases h
/-- where a plain word ends; none: a quote stands in it -/
def plain (s:ByteArray):Nat→Nat→Option Nat
  | 0,_=>none
  | f+1,i=>if i < s.size∧bt s i≠32∧bt s i≠9 then (if bt s i=34 then none else plain s f (i+1)) else some i
/-- the words of a line; none: it is no line -/
def wds (s:ByteArray):Nat→Nat→List ByteArray→Option (List ByteArray)
  | 0,_,_=>none
  | f+1,i,l =>
    if i < s.size then
      if bt s i=32∨bt s i=9 then wds s f (i+1) l
      else if bt s i=35 then some l
      else if bt s i=34 then (match unq s (s.size+1) (i+1) [] with
        | none=>none
        | some (w,k)=>if k < s.size∧bt s k≠32∧bt s k≠9 then none else wds s f k (l++[strOfInts w]))
      else (match plain s (s.size+1) i with
        | none=>none
        | some k=>wds s f k (l++[s.extract i k]))
    else some l
end Go.Shell
