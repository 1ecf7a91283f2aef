/- Loops with an invariant; equality of desks decided. -/
import Derived.Test.YtcjpeijiaojeiaaGreatP
namespace Go.Proofs.YtcjpeijiaojeiaaGreat
open Go Go.Ev
theorem iter_inv {X Y:Type}{stp:X→Option (X⊕Y)}{Inv:Nat→X→Prop}{Post:Y→Prop}
    (h0:∀ x,Inv 0 x→∃ y,stp x=some (.inr y)∧Post y)
    (hs:∀ n x,Inv (n+1) x→∃ x',stp x=some (.inl x')∧Inv n x') :
    ∀ (n fuel:Nat) (x:X),Inv n x→n < fuel→∃ y,iterO stp fuel x=some y∧Post y
  | n,0,_,_,hf=>absurd hf (Nat.not_lt_zero n)
  | 0,f+1,x,h,_=>by
    obtain ⟨y,h1,h2⟩:=h0 x h
    exact ⟨y,by simp only [iterO,h1,ob_some,two],h2⟩
  | n+1,f+1,x,h,hf=>by
    obtain ⟨x',h1,h2⟩:=hs n x h
    obtain ⟨y,h3,h4⟩:=iter_inv h0 hs n f x' h2 (Nat.lt_of_succ_lt_succ hf)
    exact ⟨y,by simp only [iterO,h1,ob_some,two];exact h3,h4⟩
theorem map_ob {X Y Z:Type}(o:Option X)(k:X→Option Y)(f:Y→Z):(ob o k).map f=ob o fun x=>(k x).map f:=by cases o<;>rfl
theorem map_cond {Y Z:Type}(c:Bool)(a b:Option Y)(f:Y→Z):(cond c a b).map f=cond c (a.map f) (b.map f):=by cases c<;>rfl
theorem Counter.eq_of {a b:Counter}(h:a.key=b.key∧a.coll=b.coll∧a.lo=b.lo∧a.hi=b.hi∧a.start=b.start∧a.up_=b.up_∧a.down_=b.down_):a=b:=by cases a;cases b;simp only at h;simp only [h]
instance:DecidableEq Counter:=fun a b=>decidable_of_iff (a.key=b.key∧a.coll=b.coll∧a.lo=b.lo∧a.hi=b.hi∧a.start=b.start∧a.up_=b.up_∧a.down_=b.down_) ⟨Counter.eq_of,fun h=>by subst h;exact ⟨rfl,rfl,rfl,rfl,rfl,rfl,rfl⟩⟩
theorem Range.eq_of {a b:Range}(h:a.from_=b.from_∧a.to_=b.to_):a=b:=by cases a;cases b;simp only at h;simp only [h]
instance:DecidableEq Range:=fun a b=>decidable_of_iff (a.from_=b.from_∧a.to_=b.to_) ⟨Range.eq_of,fun h=>by subst h;exact ⟨rfl,rfl⟩⟩
theorem Slice.eq_of {a b:Slice}(h:a.key=b.key∧a.up_=b.up_∧a.down_=b.down_∧a.usedUp=b.usedUp∧a.usedDown=b.usedDown):a=b:=by cases a;cases b;simp only at h;simp only [h]
instance:DecidableEq Slice:=fun a b=>decidable_of_iff (a.key=b.key∧a.up_=b.up_∧a.down_=b.down_∧a.usedUp=b.usedUp∧a.usedDown=b.usedDown) ⟨Slice.eq_of,fun h=>by subst h;exact ⟨rfl,rfl,rfl,rfl,rfl⟩⟩
theorem Lease.eq_of {a b:Lease}(h:a.device=b.device∧a.epoch=b.epoch∧a.until_=b.until_∧a.last=b.last∧a.slices=b.slices∧a.ids=b.ids∧a.used=b.used):a=b:=by cases a;cases b;simp only at h;simp only [h]
instance:DecidableEq Lease:=fun a b=>decidable_of_iff (a.device=b.device∧a.epoch=b.epoch∧a.until_=b.until_∧a.last=b.last∧a.slices=b.slices∧a.ids=b.ids∧a.used=b.used) ⟨Lease.eq_of,fun h=>by subst h;exact ⟨rfl,rfl,rfl,rfl,rfl,rfl,rfl⟩⟩
theorem Book.eq_of {a b:Book}(h:a.counters=b.counters∧a.free=b.free∧a.leases=b.leases∧a.bound=b.bound):a=b:=by cases a;cases b;simp only at h;simp only [h]
instance:DecidableEq Book:=fun a b=>decidable_of_iff (a.counters=b.counters∧a.free=b.free∧a.leases=b.leases∧a.bound=b.bound) ⟨Book.eq_of,fun h=>by subst h;exact ⟨rfl,rfl,rfl,rfl⟩⟩
theorem Entry.eq_of {a b:Entry}(h:a.device=b.device∧a.epoch=b.epoch∧a.seq=b.seq):a=b:=by cases a;cases b;simp only at h;simp only [h]
instance:DecidableEq Entry:=fun a b=>decidable_of_iff (a.device=b.device∧a.epoch=b.epoch∧a.seq=b.seq) ⟨Entry.eq_of,fun h=>by subst h;exact ⟨rfl,rfl,rfl⟩⟩
theorem Reg.eq_of {a b:Reg}(h:a.key=b.key∧a.text=b.text∧a.ver=b.ver∧a.time=b.time∧a.dot=b.dot):a=b:=by cases a;cases b;simp only at h;simp only [h]
instance:DecidableEq Reg:=fun a b=>decidable_of_iff (a.key=b.key∧a.text=b.text∧a.ver=b.ver∧a.time=b.time∧a.dot=b.dot) ⟨Reg.eq_of,fun h=>by subst h;exact ⟨rfl,rfl,rfl,rfl,rfl⟩⟩
theorem Elem.eq_of {a b:Elem}(h:a.key=b.key∧a.text=b.text∧a.ver=b.ver∧a.dot=b.dot):a=b:=by cases a;cases b;simp only at h;simp only [h]
instance:DecidableEq Elem:=fun a b=>decidable_of_iff (a.key=b.key∧a.text=b.text∧a.ver=b.ver∧a.dot=b.dot) ⟨Elem.eq_of,fun h=>by subst h;exact ⟨rfl,rfl,rfl,rfl⟩⟩
theorem Sum.eq_of {a b:Sum}(h:a.key=b.key∧a.n=b.n):a=b:=by cases a;cases b;simp only at h;simp only [h]
instance:DecidableEq Sum:=fun a b=>decidable_of_iff (a.key=b.key∧a.n=b.n) ⟨Sum.eq_of,fun h=>by subst h;exact ⟨rfl,rfl⟩⟩
theorem Bind.eq_of {a b:Bind}(h:a.id_=b.id_∧a.text=b.text∧a.ver=b.ver∧a.dot=b.dot):a=b:=by cases a;cases b;simp only at h;simp only [h]
instance:DecidableEq Bind:=fun a b=>decidable_of_iff (a.id_=b.id_∧a.text=b.text∧a.ver=b.ver∧a.dot=b.dot) ⟨Bind.eq_of,fun h=>by subst h;exact ⟨rfl,rfl,rfl,rfl⟩⟩
theorem Coll.eq_of {a b:Coll}(h:a.v=b.v∧a.regs=b.regs∧a.elems=b.elems∧a.gone=b.gone∧a.sums=b.sums∧a.binds=b.binds):a=b:=by cases a;cases b;simp only at h;simp only [h]
instance:DecidableEq Coll:=fun a b=>decidable_of_iff (a.v=b.v∧a.regs=b.regs∧a.elems=b.elems∧a.gone=b.gone∧a.sums=b.sums∧a.binds=b.binds) ⟨Coll.eq_of,fun h=>by subst h;exact ⟨rfl,rfl,rfl,rfl,rfl,rfl⟩⟩
theorem A3Coll.eq_of {a b:A3Coll}(h:a.a0=b.a0∧a.a1=b.a1∧a.a2=b.a2):a=b:=by cases a;cases b;simp only at h;simp only [h]
instance:DecidableEq A3Coll:=fun a b=>decidable_of_iff (a.a0=b.a0∧a.a1=b.a1∧a.a2=b.a2) ⟨A3Coll.eq_of,fun h=>by subst h;exact ⟨rfl,rfl,rfl⟩⟩
theorem Op.eq_of {a b:Op}(h:a.dot=b.dot∧a.coll=b.coll∧a.ver=b.ver∧a.kind=b.kind∧a.key=b.key∧a.text=b.text∧a.n=b.n∧a.time=b.time∧a.dots=b.dots):a=b:=by cases a;cases b;simp only at h;simp only [h]
instance:DecidableEq Op:=fun a b=>decidable_of_iff (a.dot=b.dot∧a.coll=b.coll∧a.ver=b.ver∧a.kind=b.kind∧a.key=b.key∧a.text=b.text∧a.n=b.n∧a.time=b.time∧a.dots=b.dots) ⟨Op.eq_of,fun h=>by subst h;exact ⟨rfl,rfl,rfl,rfl,rfl,rfl,rfl,rfl,rfl⟩⟩
theorem Reply.eq_of {a b:Reply}(h:a.err=b.err∧a.n=b.n∧a.lease=b.lease):a=b:=by cases a;cases b;simp only at h;simp only [h]
instance:DecidableEq Reply:=fun a b=>decidable_of_iff (a.err=b.err∧a.n=b.n∧a.lease=b.lease) ⟨Reply.eq_of,fun h=>by subst h;exact ⟨rfl,rfl,rfl⟩⟩
theorem Device.eq_of {a b:Device}(h:a.epoch=b.epoch∧a.req=b.req∧a.reply=b.reply):a=b:=by cases a;cases b;simp only at h;simp only [h]
instance:DecidableEq Device:=fun a b=>decidable_of_iff (a.epoch=b.epoch∧a.req=b.req∧a.reply=b.reply) ⟨Device.eq_of,fun h=>by subst h;exact ⟨rfl,rfl,rfl⟩⟩
theorem A6Device.eq_of {a b:A6Device}(h:a.a0=b.a0∧a.a1=b.a1∧a.a2=b.a2∧a.a3=b.a3∧a.a4=b.a4∧a.a5=b.a5):a=b:=by cases a;cases b;simp only at h;simp only [h]
instance:DecidableEq A6Device:=fun a b=>decidable_of_iff (a.a0=b.a0∧a.a1=b.a1∧a.a2=b.a2∧a.a3=b.a3∧a.a4=b.a4∧a.a5=b.a5) ⟨A6Device.eq_of,fun h=>by subst h;exact ⟨rfl,rfl,rfl,rfl,rfl,rfl⟩⟩
theorem Desk.eq_of {a b:Desk}(h:a.book=b.book∧a.colls=b.colls∧a.log=b.log∧a.dev=b.dev∧a.lost=b.lost∧a.now=b.now):a=b:=by cases a;cases b;simp only at h;simp only [h]
instance:DecidableEq Desk:=fun a b=>decidable_of_iff (a.book=b.book∧a.colls=b.colls∧a.log=b.log∧a.dev=b.dev∧a.lost=b.lost∧a.now=b.now) ⟨Desk.eq_of,fun h=>by subst h;exact ⟨rfl,rfl,rfl,rfl,rfl,rfl⟩⟩
end Go.Proofs.YtcjpeijiaojeiaaGreat
