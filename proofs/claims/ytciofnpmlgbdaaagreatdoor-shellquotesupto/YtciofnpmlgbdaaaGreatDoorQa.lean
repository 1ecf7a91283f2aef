/- What is quoted, on typed data. -/
import Derived.Test.YtciofnpmlgbdaaaGreatDoorFl
namespace Go.Proofs.YtciofnpmlgbdaaaGreatDoor
open Go Go.Ev Go.Shell
theorem cdt {α:Type}{p:Prop}[Decidable p]{a b:α}(h:p):cond (decide p) a b=a:=by simp [h]
theorem cdf {α:Type}{p:Prop}[Decidable p]{a b:α}(h:¬ p):cond (decide p) a b=b:=by simp [h]
theorem cet {α:Type}{x y:Int}{a b:α}(h:x=y):cond (x == y) a b=a:=by rw [show (x == y)=true from beq_iff_eq.2 h];rfl
theorem cef {α:Type}{x y:Int}{a b:α}(h:x≠y):cond (x == y) a b=b:=by rw [show (x == y)=false from beq_eq_false_iff_ne.2 h];rfl
theorem cnt {α:Type}{x y:Int}{a b:α}(h:x≠y):cond (x != y) a b=a:=by rw [show (x != y)=true from bne_iff_ne.2 h];rfl
theorem cnf {α:Type}{x y:Int}{a b:α}(h:x=y):cond (x != y) a b=b:=by simp [h]
theorem w64_ok {n:Int}(h0:0≤n)(h1:n < 9223372036854775808):w64 n=n:=by
  unfold w64 IntKind.wrap
  simp [IntKind.bits,IntKind.signed]
  omega
theorem cft {α:Type}{n:Nat}{a b:α}(h:n≤1073741824):cond (fits n) a b=a:=by
  have:fits n=true:=decide_eq_true h
  rw [this];rfl
theorem it_go {X Y:Type}{stp:X→Option (X⊕Y)}{x x':X}{f:Nat}(h:stp x=some (.inl x')):iterO stp (f+1) x=iterO stp f x':=by simp only [iterO,h,ob,two]
theorem it_end {X Y:Type}{stp:X→Option (X⊕Y)}{x:X}{y:Y}{f:Nat}(h:stp x=some (.inr y)):iterO stp (f+1) x=some y:=by simp only [iterO,h,ob,two]
theorem btf (s:ByteArray)(n:Nat):((s[n]?.getD 0).toNat:Int)=bt s n:=rfl
theorem andI_nat:∀ n:Fin 256,andI .u8 n.val 15=((n.val % 16:Nat):Int):=by decide +kernel
theorem andI_15 {e:Int}(h0:0≤e)(h1:e < 256):andI .u8 e 15=e % 16:=by
  have:=andI_nat ⟨e.toNat,by omega⟩
  simp only at this
  rw [Int.toNat_of_nonneg h0] at this
  rw [this];omega
theorem hx_nat:∀ n:Fin 16,bt s_0123456789abcdef n.val=hx n.val:=by decide +kernel
theorem hx_at {n:Int}(h0:0≤n)(h1:n < 16):bt s_0123456789abcdef n.toNat=hx n:=by
  have:=hx_nat ⟨n.toNat,by omega⟩
  simp only at this
  rw [this,Int.toNat_of_nonneg h0]
theorem size16:s_0123456789abcdef.size=16:=rfl
theorem qstep {acc l:List Int}{n i e:Int}(hi:0≤i)(hin:i < n)(hn:n < 9223372036854775807)(he:l[i.toNat]?=some e)(h0:0≤e)(h1:e < 256)(hl:acc.length+4≤1073741824) :
    stp_L8_3 (acc,l,n,i)=some (.inl (acc++qb e,l,n,i+1)):=by
  have hw:w64 (i+1)=i+1:=w64_ok (by omega) (by omega)
  unfold stp_L8_3 step_L8_3 qb
  simp only [cdt hin,cdt hi,he,ob,hw]
  by_cases a1:e=92
  · rw [cet a1,cft (by simp;omega),if_pos (.inl a1)]
  rw [cef a1]
  by_cases a2:e=34
  · rw [cet a2,cft (by simp;omega),if_pos (.inr a2)]
  rw [cef a2,if_neg (by omega)]
  by_cases a3:e=10
  · rw [cet a3,cft (by simp;omega),if_pos a3]
  rw [cef a3,if_neg a3]
  by_cases a4:e=9
  · rw [cet a4,cft (by simp;omega),if_pos a4]
  rw [cef a4,if_neg a4]
  have g1:=hx_at (n:=e / 16) (by omega) (by omega)
  have g2:=hx_at (n:=e % 16) (by omega) (by omega)
  by_cases a5:e < 32∨e > 126
  · have hc:(cond (decide (e < 32)) true (decide (e > 126)))=true:=by
      rcases a5 with h | h
      · rw [cdt h]
      · rw [cdf (by omega)];exact decide_eq_true h
    rw [hc,cond_true,if_pos a5,andI_15 h0 h1,size16,cdt (by omega),cdt (by omega),cdt (by omega),cdt (by omega),cft (by simp;omega),btf,btf,g1,g2]
  · have hc:(cond (decide (e < 32)) true (decide (e > 126)))=false:=by
      rw [cdf (by omega)];exact decide_eq_false (by omega)
    rw [hc,cond_false,if_neg a5,cft (by simp;omega)]
theorem qloop {l:List Int}(hb:∀ c∈l,0≤c∧c < 256)(hl:l.length≤1048576):∀ (rest pre:List Int) (acc:List Int) (f:Nat),l=pre++rest→rest.length < f→acc.length+4 * rest.length+4≤1073741824 →
    iterO stp_L8_3 f (acc,l,(l.length:Int),(pre.length:Int))=some (acc++rest.flatMap qb)
  | [],pre,acc,f,hp,hf,ha=>by
    match f,hf with
    | f+1,_ =>
      refine it_end ?_
      unfold stp_L8_3 step_L8_3
      simp only []
      rw [cdf (by rw [hp];simp)]
      simp
  | e::rest,pre,acc,f,hp,hf,ha=>by
    match f,hf with
    | f+1,hf =>
      simp only [List.length_cons] at hf ha
      have hlen:l.length=pre.length+(rest.length+1):=by rw [hp];simp
      have he:=hb e (by rw [hp];simp)
      rw [it_go (qstep (e:=e) (by omega) (by omega) (by omega) (by rw [hp];simp) he.1 he.2 (by omega))]
      have hq:=qb_len e
      have:=qloop hb hl rest (pre++[e]) (acc++qb e) f (by rw [hp];simp) (by omega) (by simp only [List.length_append];omega)
      rw [List.length_append,List.length_singleton,Int.natCast_add,Int.natCast_one] at this
      rw [this];simp
theorem quote_eq {l:List Int}(hb:∀ c∈l,0≤c∧c < 256)(hl:l.length≤1048576):quote l=some (strOfInts (qt l)):=by
  have h:=qloop hb hl l [] [34] (((l.length:Int) - 0).toNat+2) rfl (by omega) (by simp;omega)
  have h:L8_3 [34] l (l.length:Int) 0=some ([34]++l.flatMap qb):=h
  unfold quote
  rw [h]
  have hq:=qt_len l
  have e:[34]++l.flatMap qb++[34]=qt l:=rfl
  simp only [ob]
  rw [e,cft (by omega)]
end Go.Proofs.YtciofnpmlgbdaaaGreatDoor
