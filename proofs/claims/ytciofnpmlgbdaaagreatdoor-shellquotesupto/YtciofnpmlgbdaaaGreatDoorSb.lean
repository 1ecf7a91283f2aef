/- Strings of bytes, bytes of strings. -/
import Derived.Test.YtciofnpmlgbdaaaGreatDoorSq
namespace Go.Shell
open Go Go.Ev
theorem bl_append (a b:ByteArray):bl (a++b)=bl a++bl b:=by
  unfold bl intsOfStr
  rw [ByteArray.data_append,Array.toList_append,List.map_append]
theorem bl_ints {l:List Int}(h:∀ c∈l,0≤c∧c < 256):bl (strOfInts l)=l:=by
  unfold bl intsOfStr strOfInts
  simp only [List.map_map]
  conv=>rhs;rw [← List.map_id l]
  apply List.map_congr_left
  intro c hc
  have:=h c hc
  simp only [Function.comp,id]
  have e:c.toNat.toUInt8.toNat=c.toNat:=by
    rw [Nat.toUInt8,UInt8.toNat_ofNat']
    omega
  rw [e,Int.toNat_of_nonneg this.1]
theorem size_ints (l:List Int):(strOfInts l).size=l.length:=by
  unfold strOfInts
  simp [ByteArray.size]
theorem hx_byte {n:Int}(h0:0≤n)(h1:n < 16):0≤hx n∧hx n < 256:=by
  unfold hx;split<;>omega
theorem qb_byte {c:Int}(h0:0≤c)(h1:c < 256):∀ d∈qb c,0≤d∧d < 256:=by
  have e1:=hx_byte (n:=c / 16) (by omega) (by omega)
  have e2:=hx_byte (n:=c % 16) (by omega) (by omega)
  intro d hd
  unfold qb at hd
  (repeat' split at hd)<;>simp at hd<;>omega
theorem qt_byte {l:List Int}(h:∀ c∈l,0≤c∧c < 256):∀ d∈qt l,0≤d∧d < 256:=by
  intro d hd
  simp only [qt,List.mem_cons,List.mem_append,List.mem_flatMap,List.not_mem_nil,or_false] at hd
  rcases hd with rfl | ⟨c,hc,hd⟩ | rfl
  · omega
  · exact qb_byte (h c hc).1 (h c hc).2 d hd
  · omega
theorem qb_len (c:Int):(qb c).length≤4:=by unfold qb;(repeat' split)<;>simp
theorem qt_len (l:List Int):(qt l).length≤4 * l.length+2:=by
  have:(l.flatMap qb).length≤4 * l.length:=by
    induction l with
    | nil=>simp
    | cons c l ih=>have:=qb_len c;simp only [List.flatMap_cons,List.length_append,List.length_cons];omega
  simp only [qt,List.length_cons,List.length_append,List.length_nil]
  omega
end Go.Shell
