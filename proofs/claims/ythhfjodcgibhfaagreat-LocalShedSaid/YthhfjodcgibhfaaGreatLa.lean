/- Lemmas for the laws of chapter 18 whose inputs are many: copies, collections that grow at their ends. -/
import Derived.Test.YthhfjodcgibhfaaGreatPa
namespace Go.Proofs.YthhfjodcgibhfaaGreat
open Go Go.Ev
set_option maxRecDepth 100000
theorem iter_inv {X Y:Type}{stp:X→Option (X⊕Y)}{Inv:Nat→X→Prop}{Post:Y→Prop}
    (h0:∀ x,Inv 0 x→∃ y,stp x=some (.inr y)∧Post y)
    (hs:∀ n x,Inv (n+1) x→∃ x',stp x=some (.inl x')∧Inv n x') :
    ∀ (n fuel:Nat) (x:X),Inv n x→n < fuel→∃ y,iterO stp fuel x=some y∧Post y
  | n,0,_,_,hf=>absurd hf (Nat.not_lt_zero n)
  | 0,f+1,x,h,_=>by
    obtain ⟨y,h1,h2⟩:=h0 x h
    exact ⟨y,by simp only [iterO,h1,ob_some,two],h2⟩
  | n+1,f+1,x,h,hf=>by
    obtain ⟨x',h1,h2⟩:=hs n x h
    obtain ⟨y,h3,h4⟩:=iter_inv h0 hs n f x' h2 (Nat.lt_of_succ_lt_succ hf)
    exact ⟨y,by simp only [iterO,h1,ob_some,two];exact h3,h4⟩
/-- one step of a loop -/
theorem iter_go {X Y:Type}{stp:X→Option (X⊕Y)}{n:Nat}{x x':X}(h:stp x=some (.inl x')):iterO stp (n+1) x=iterO stp n x':=by simp only [iterO,h,ob_some,two]
theorem iter_end {X Y:Type}{stp:X→Option (X⊕Y)}{n:Nat}{x:X}{y:Y}(h:stp x=some (.inr y)):iterO stp (n+1) x=some y:=by simp only [iterO,h,ob_some,two]
theorem cdt {α:Type}{p:Prop}[Decidable p](h:p)(a b:α):cond (decide p) a b=a:=by rw [decide_eq_true h];rfl
theorem cdf {α:Type}{p:Prop}[Decidable p](h:¬ p)(a b:α):cond (decide p) a b=b:=by rw [decide_eq_false h];rfl
theorem cbt {α:Type}{x y:Int}(h:x=y)(a b:α):cond (x == y) a b=a:=by subst h;simp
theorem cbf {α:Type}{x y:Int}(h:x≠y)(a b:α):cond (x == y) a b=b:=by rw [beq_eq_false_iff_ne.2 h];rfl
theorem cnt {α:Type}{x y:Int}(h:x≠y)(a b:α):cond (x != y) a b=a:=by rw [bne,beq_eq_false_iff_ne.2 h];rfl
theorem cnf {α:Type}{x y:Int}(h:x=y)(a b:α):cond (x != y) a b=b:=by subst h;simp
theorem fits_ok {n:Nat}(h:n≤1073741824):fits n=true:=decide_eq_true h
theorem w64_ok {n:Int}(h : -9223372036854775808≤n∧n < 9223372036854775808):w64 n=n:=w64_id h.1 h.2
abbrev dt (n:Nat):Dot:=Dot.mk 1 1 (n:Int)
abbrev el (n:Nat):Elem:=Elem.mk s_k s_t 3 (dt n)
theorem cmp_lt {a b:Int}(h:a < b):cmpInt a b=some (-1):=by
  unfold cmpInt
  simp (disch:=omega) only [cnf,cdt]
theorem cmp_eq (a:Int):cmpInt a a=some 0:=by
  unfold cmpInt
  simp (disch:=omega) only [cnf,cdf]
theorem cmp_gt {a b:Int}(h:b < a):cmpInt a b=some 1:=by
  unfold cmpInt
  simp (disch:=omega) only [cnf,cdt,cdf]
theorem cmp_str:cmpStr s_k s_k=some 0∧cmpStr s_t s_t=some 0:=⟨by kernel_rfl,by kernel_rfl⟩
theorem or_3:cmpOr [0,0,-1]=some (-1)∧cmpOr [0,0,0]=some 0∧cmpOr [0,0,1]=some 1:=⟨by kernel_rfl,by kernel_rfl,by kernel_rfl⟩
theorem dot_lt {a b:Nat}(h:a < b):dotCompare (dt a) (dt b)=some (-1):=by
  unfold dotCompare
  simp only [cmp_eq,ob_some,cmp_lt (show (a:Int) < b by omega),or_3]
theorem before_lt {a b:Nat}(h:a < b):before (dt a) (dt b)=some (-1):=by
  unfold before
  simp only [cmp_eq,ob_some,cmp_lt (show (a:Int) < b by omega),or_3]
/-- the middle of two places -/
theorem mid_eq (i j:Nat):((i:Int)+(j:Int)).tdiv 2=(((i+j) / 2:Nat):Int):=by
  rw [show ((i:Int)+j)=((i+j:Nat):Int) by omega]
  rfl
/-- the search among dots of which all come first -/
theorem find_dot (l:List Nat)(s:Nat)(hl:∀ x∈l,x < s)(hn:l.length < 1000):L119_2 (l.map dt) 0 ((l.map dt).length:Int) (dt s)=some (l.map dt,((l.length:Nat):Int),dt s):=by
  have key:∀ (m i fuel:Nat),i+m=l.length→m < fuel→iterO stp_L119_2 fuel (l.map dt,(i:Int),((l.length:Nat):Int),dt s)=some (l.map dt,((l.length:Nat):Int),dt s):=by
    intro m
    induction m using Nat.strongRecOn with
    | _ m ih =>
      intro i fuel hm hf
      obtain ⟨fuel,rfl⟩:∃ k,fuel=k+1:=⟨fuel - 1,by omega⟩
      by_cases h0:m=0
      · refine iter_end ?_
        simp (disch:=omega) only [stp_L119_2,step_L119_2,cdf]
        rw [show i=l.length by omega]
      · have hk:(i+l.length) / 2 < l.length:=by omega
        have he:(l.map dt)[((((i+l.length) / 2:Nat):Int)).toNat]?=some (dt l[(i+l.length) / 2]):=by rw [Int.toNat_natCast,List.getElem?_map,List.getElem?_eq_getElem hk];rfl
        have hx:l[(i+l.length) / 2] < s:=hl _ (List.getElem_mem hk)
        rw [iter_go (x':=(l.map dt,(((i+l.length) / 2+1:Nat):Int),((l.length:Nat):Int),dt s))]
        · exact ih (l.length - ((i+l.length) / 2+1)) (by omega) _ _ (by omega) (by omega)
        · simp (disch:=omega) only [stp_L119_2,step_L119_2,cdt,mid_eq,List.length_map,he,ob_some,dot_lt hx,w64_ok]
          rfl
  rw [L119_2,List.length_map]
  exact key l.length 0 _ (by omega) (by omega)
/-- the search among elements of which all come first -/
theorem find_el (l:List Nat)(s:Nat)(o:Op)(hk:o.key=s_k)(ht:o.text=s_t)(hd:o.dot=dt s)(hl:∀ x∈l,x < s)(hn:l.length < 1000):L91_2 (l.map el) 0 ((l.map el).length:Int) o=some (l.map el,((l.length:Nat):Int),o):=by
  have key:∀ (m i fuel:Nat),i+m=l.length→m < fuel→iterO stp_L91_2 fuel (l.map el,(i:Int),((l.length:Nat):Int),o)=some (l.map el,((l.length:Nat):Int),o):=by
    intro m
    induction m using Nat.strongRecOn with
    | _ m ih =>
      intro i fuel hm hf
      obtain ⟨fuel,rfl⟩:∃ k,fuel=k+1:=⟨fuel - 1,by omega⟩
      by_cases h0:m=0
      · refine iter_end ?_
        simp (disch:=omega) only [stp_L91_2,step_L91_2,cdf]
        rw [show i=l.length by omega]
      · have hk:(i+l.length) / 2 < l.length:=by omega
        have he:(l.map el)[((((i+l.length) / 2:Nat):Int)).toNat]?=some (el l[(i+l.length) / 2]):=by rw [Int.toNat_natCast,List.getElem?_map,List.getElem?_eq_getElem hk];rfl
        have hx:l[(i+l.length) / 2] < s:=hl _ (List.getElem_mem hk)
        rw [iter_go (x':=(l.map el,(((i+l.length) / 2+1:Nat):Int),((l.length:Nat):Int),o))]
        · exact ih (l.length - ((i+l.length) / 2+1)) (by omega) _ _ (by omega) (by omega)
        · simp (disch:=omega) only [stp_L91_2,step_L91_2,cdt,mid_eq,List.length_map,ob_some, *,cmp_str,dot_lt hx,or_3,w64_ok]
          rfl
  rw [L91_2,List.length_map]
  exact key l.length 0 _ (by omega) (by omega)
theorem own_coll (c:Coll)(h1:c.v.length≤1000)(h2:c.regs.length≤1000)(h3:c.elems.length≤1000)(h4:c.gone.length≤1000)(h5:c.sums.length≤1000)(h6:c.binds.length≤1000):collOwn c=some c:=by
  unfold collOwn
  rw [fits_ok (by omega),fits_ok (by omega),fits_ok (by omega),fits_ok (by omega),fits_ok (by omega),fits_ok (by omega)]
  rfl
theorem own_collection (c:Coll)(h1:c.v.length≤1000)(h2:c.regs.length≤1000)(h3:c.elems.length≤1000)(h4:c.gone.length≤1000)(h5:c.sums.length≤1000)(h6:c.binds.length≤1000):collection c=some c:=by
  unfold collection
  rw [fits_ok (by omega),fits_ok (by omega),fits_ok (by omega),fits_ok (by omega),fits_ok (by omega),fits_ok (by omega)]
  rfl
/-- one device's vector -/
def vc (m:Nat):List Dot:=match m with | 0=>[] | m+1=>[dt (m+1)]
def cl (m:Nat)(G L:List Nat):Coll:=Coll.mk (vc m) [] (L.map el) (G.map dt) [] []
theorem step_0 (s:Nat)(h:1≤s):vectorStep [] (dt s)=some ([dt s],0):=by
  have h1:laid [] [dt s]=some [dt s]:=by kernel_rfl
  have h2:vectorGet [] 1 1=some 0:=by kernel_rfl
  unfold vectorStep vectorHas
  simp (disch:=omega) only [cdt,cdf,h1,h2,ob_some]
theorem step_1 (m s:Nat)(h:m < s):vectorStep [dt m] (dt s)=some ([dt s],0):=by
  have h1:laid [dt m] [dt s]=some [Dot.mk 1 1 (max2 m s)]:=by kernel_rfl
  have h2:vectorGet [dt m] 1 1=some (m:Int):=by kernel_rfl
  have h3:max2 (m:Int) (s:Int)=s:=by unfold max2;rw [if_pos (by omega)]
  unfold vectorStep vectorHas
  simp (disch:=omega) only [cdt,cdf,h1,h2,h3,ob_some]
theorem step_vc (m s:Nat)(h:m < s):vectorStep (vc m) (dt s)=some (vc s,0):=by
  have:vc s=[dt s]:=by cases s with | zero=>omega | succ s=>rfl
  rw [this]
  cases m with
  | zero=>exact step_0 s (by omega)
  | succ m=>exact step_1 (m+1) s h
theorem opsWithin_ok {a b n:Int}(h1:a≤n)(h2:n≤b):opsWithin n a b=some true:=by
  unfold opsWithin
  rw [cdt (by omega),decide_eq_true h2]
/-- an operation of the device's own: an element is laid -/
def addO (s:Nat)(c now:Int):Op:=Op.mk (dt s) c 3 2 s_k s_t 0 now []
def remO (s:Nat)(c now:Int)(D:List Nat):Op:=Op.mk (dt s) c 3 3 s_k s_t 0 now (D.map dt)
theorem check_of {o:Op}(h1:o.dot.device=1)(h2:o.dot.epoch=1)(h3:1≤o.dot.seq∧o.dot.seq≤1000)(h4:0≤o.coll∧o.coll≤2)(h5:o.ver=3)(h6:0≤o.time∧o.time≤100000)(h7:1≤o.kind∧o.kind≤5)(hk:o.key=s_k)(ht:o.text=s_t):opsCheck o=opsKind o:=by
  have e1:opsText s_k=some true:=by kernel_rfl
  have e2:opsText s_t=some true:=by kernel_rfl
  unfold opsCheck
  rw [opsWithin_ok (by omega) (by omega)]
  simp only [ob_some,Bool.not_true,cond_false]
  rw [opsWithin_ok (by omega) (by omega)]
  simp only [ob_some,Bool.not_true,cond_false]
  rw [opsWithin_ok (by omega) (by omega)]
  simp only [ob_some,Bool.not_true,cond_false]
  rw [opsWithin_ok (by omega) (by omega)]
  simp only [ob_some,Bool.not_true,cond_false]
  rw [opsWithin_ok (by omega) (by omega)]
  simp only [ob_some,Bool.not_true,cond_false]
  rw [opsWithin_ok (by omega) (by omega)]
  simp only [ob_some,Bool.not_true,cond_false]
  rw [opsWithin_ok (by omega) (by omega)]
  simp only [ob_some,Bool.not_true,cond_false,hk,ht,e1,e2]
  cases opsKind o<;>rfl
theorem check_add {s:Nat}{c now:Int}(hs:1≤s∧s≤1000)(hc:0≤c∧c≤2)(hn:0≤now∧now≤100000):opsCheck (addO s c now)=some 0:=by
  rw [check_of (o:=addO s c now) rfl rfl (by simp only [addO];omega) hc rfl hn (by simp only [addO];omega) rfl rfl]
  have e:sEq s_k s_empty=false:=by kernel_rfl
  unfold opsKind addO
  simp only [e]
  rfl
theorem end_dot (l:List Nat)(s:Nat):(((l.map dt).take ((l.length:Nat):Int).toNat++[dt s])++((l.map dt).take (l.map dt).length).drop ((l.length:Nat):Int).toNat)=(l++[s]).map dt:=by
  have h:((l.length:Nat):Int).toNat=(l.map dt).length:=by simp
  rw [h,List.take_length,List.drop_length,List.append_nil,List.map_append]
  rfl
theorem end_el (l:List Nat)(s:Nat):(((l.map el).take ((l.length:Nat):Int).toNat++[el s])++((l.map el).take (l.map el).length).drop ((l.length:Nat):Int).toNat)=(l++[s]).map el:=by
  have h:((l.length:Nat):Int).toNat=(l.map el).length:=by simp
  rw [h,List.take_length,List.drop_length,List.append_nil,List.map_append]
  rfl
theorem vc_len (m:Nat):(vc m).length≤1:=by cases m<;>simp [vc]
theorem apply_add {m s:Nat}{G L:List Nat}{c now:Int}(hm:m < s)(hs:s≤1000)(hG:∀ x∈G,x < s)(hL:∀ x∈L,x < s)(lG:G.length≤100)(lL:L.length≤100)(hc:0≤c∧c≤2)(hn:0≤now∧now≤100000) :
    apply_ (cl m G L) (addO s c now)=some (cl s G (L++[s]),0):=by
  have v1:=vc_len m
  have v2:=vc_len s
  have e1:collOwn (cl m G L)=some (cl m G L):=own_coll _ (by simp only [cl];omega) (by simp [cl]) (by simp only [cl,List.length_map];omega) (by simp only [cl,List.length_map];omega) (by simp [cl]) (by simp [cl])
  have e2:collOwn (cl s G (L++[s]))=some (cl s G (L++[s])):=own_coll _ (by simp only [cl];omega) (by simp [cl]) (by simp only [cl,List.length_map,List.length_append,List.length_singleton];omega) (by simp only [cl,List.length_map];omega) (by simp [cl]) (by simp [cl])
  have e3:=find_dot G s hG (by omega)
  have e4:=find_el L s (addO s c now) rfl rfl rfl hL (by omega)
  have e5:=check_add (s:=s) (by omega) hc hn
  have e6:=step_vc m s hm
  unfold apply_
  rw [e1,ob_some,e5,ob_some]
  simp only [bne_self_eq_false,cond_false]
  rw [show (cl m G L).v=vc m from rfl,show (addO s c now).dot=dt s from rfl,e6,ob_some]
  simp only [bne_self_eq_false,cond_false]
  rw [show ((addO s c now).kind == 1)=false from rfl,show ((addO s c now).kind == 2)=true from rfl,cond_false,cond_true]
  rw [show (cl m G L).gone=G.map dt from rfl,e3,ob_some]
  simp only [List.length_map]
  rw [cdf (by omega)]
  rw [show (cl m G L).elems=L.map el from rfl,show ((L.map el).length:Int)=((L.map el).length:Int) from rfl]
  rw [e4,ob_some]
  simp only [List.length_map]
  rw [cdf (by omega),cdt (by omega),cdt (by omega)]
  have e7:Elem.mk (addO s c now).key (addO s c now).text (addO s c now).ver (addO s c now).dot=el s:=rfl
  have e8:=end_el L s
  rw [List.length_map] at e8
  rw [e7,e8,fits_ok (by simp;omega),cond_true]
  exact (congrArg (fun z=>ob z fun y=>some (y,0)) e2).trans rfl
end Go.Proofs.YthhfjodcgibhfaaGreat
