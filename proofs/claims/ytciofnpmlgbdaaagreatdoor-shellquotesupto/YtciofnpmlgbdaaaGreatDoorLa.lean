/- The arguments, as typed data. -/
import Derived.Test.YtciofnpmlgbdaaaGreatDoorQg
import Derived.Test.YtciofnpmlgbdaaaGreatDoorEd
namespace Go.Proofs.YtciofnpmlgbdaaaGreatDoor
open Go Go.Ev Go.ChangeShapes Go.WideShapes Go.ChangeAt Go.RowKit
def ints (l:List Byte):List Int:=l.map (·.1)
theorem ints_byte (l:List Byte):∀ c∈ints l,0≤c∧c < 256:=by
  intro c hc
  obtain ⟨b,_,rfl⟩:=List.mem_map.1 hc
  exact b.2
theorem rdBytes (w:World):Rd Tryz.prog w 22 (fun l:List Byte=>[(.fz (TL.lU8 (ints l)):I TL)]) :=
  Rd.slice Tryz.underlying22 (Rd.byte Tryz.underlying5) (fun l=>TL.lU8 (ints l)) (fun l=>by simp [LI.els,ints,v_U8C]) (fun _=>by kernel_rfl) (Nat.lt_of_lt_of_eq (by decide:0 < 1) (by kernel_rfl))
theorem rdPieces (w:World):Rd Tryz.prog w 32 (fun l:List (List Byte)=>[(.fz (TL.lLU8 (l.map ints)):I TL)]) :=
  Rd.slice Tryz.underlying32 (rdBytes w) (fun l=>TL.lLU8 (l.map ints)) (fun l=>by simp [LI.els,v_LU8C,Function.comp_def]) (fun _=>by kernel_rfl) (Nat.lt_of_lt_of_eq (by decide:0 < 1) (by kernel_rfl))
theorem words_read (w:World):RdA Tryz.prog w [9,22] (DA.cons (DT.one DI.str) (DA.one (DT.one (diOf fun l:List Byte=>.fz (TL.lU8 (ints l))))):DA TL (ByteArray×List Byte)) :=
  RdA.cons (RdV.one (d:=DI.str) (Rd.str Tryz.underlying9) (.inr (.inr (.inl Tryz.underlying9)))) (RdA.one (RdV.one (d:=diOf fun l:List Byte=>.fz (TL.lU8 (ints l))) (rdBytes w) (.inr (.inr (.inr ⟨_,Tryz.underlying22⟩)))))
theorem quotes_read (w:World):RdA Tryz.prog w [32,9] (DA.cons (DT.one (diOf fun l:List (List Byte)=>.fz (TL.lLU8 (l.map ints)))) (DA.one (DT.one DI.str)):DA TL (List (List Byte)×ByteArray)) :=
  RdA.cons (RdV.one (d:=diOf fun l:List (List Byte)=>.fz (TL.lLU8 (l.map ints))) (rdPieces w) (.inr (.inr (.inr ⟨_,Tryz.underlying32⟩)))) (RdA.one (RdV.one (d:=DI.str) (Rd.str Tryz.underlying9) (.inr (.inr (.inl Tryz.underlying9)))))
theorem words_calls {w:World}{s:ByteArray}{b:List Byte}{vs:List Value}(hv:All2 (RepS (g0 (wG w))) ((DA.cons (DT.one DI.str) (DA.one (DT.one (diOf fun l:List Byte=>.fz (TL.lU8 (ints l))))):DA TL (ByteArray×List Byte)).enc (s,b)) vs)(hs:s.size≤1048576)(hb:b.length≤1048576) :
    Calls Tryz.prog 3 vs.toArray w fun e w'=>e=.returned (.bool true)∧Below w.heap.size w w' :=
  law_calls _ un_shellWords ok_shellWords (G:=wG w) (w:=w) (s,ints b) (shellWords_true (Nat.le_trans hs (by decide)) (ints_byte b) (by unfold ints;rw [List.length_map];exact hb)) (fun _ _ _ h=>h) hv (by kernel_rfl)
theorem quotes_calls {w:World}{l:List (List Byte)}{t:ByteArray}{vs:List Value}(hv:All2 (RepS (g0 (wG w))) ((DA.cons (DT.one (diOf fun l:List (List Byte)=>.fz (TL.lLU8 (l.map ints)))) (DA.one (DT.one DI.str)):DA TL (List (List Byte)×ByteArray)).enc (l,t)) vs)(hl:l.length≤1048576)(hb:∀ b∈l,b.length≤1048576)(ht:t.size≤1048576) :
    Calls Tryz.prog 4 vs.toArray w fun e w'=>e=.returned (.bool true)∧Below w.heap.size w w' :=
  law_calls _ un_shellQuotes ok_shellQuotes (G:=wG w) (w:=w) (l.map ints,t) (shellQuotes_true (fun b hm=>by
    obtain ⟨b',hb',rfl⟩:=List.mem_map.1 hm
    exact ⟨ints_byte b',by unfold ints;rw [List.length_map];exact hb b' hb'⟩) (by rw [List.length_map];exact hl) ht) (fun _ _ _ h=>h) hv (by kernel_rfl)
end Go.Proofs.YtciofnpmlgbdaaaGreatDoor
