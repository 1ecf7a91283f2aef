/- By program (gen.py): the functions in their typed form. -/
import Derived.Test.YtcjpeijiaojeiaaGreatF1
import Derived.Test.YtcjpeijiaojeiaaGreatHa
import Derived.Test.YtcjpeijiaojeiaaGreatLb
namespace Go.Proofs.YtcjpeijiaojeiaaGreat
open Go Go.Ev
set_option maxRecDepth 1000000
noncomputable section
def ledgerFree (bx1:Book)(i1:Int)(i2:Int):Option (Book×Int) :=
 ob (ledgerOwn bx1) fun y0 =>
 ob (ledger_at y0 i1 i2) fun r1 =>
 cond (decide (r1 < 0))
 (some (y0,2))
 (cond (decide (0≤r1))
 (cond (decide (r1 < (y0.leases.length:Int)))
 (ob (y0.leases[r1.toNat]?) fun e2 =>
 ob (L136_7 r1 e2.slices (e2.slices.length:Int) 0 y0 (Book.mk [] [] [] []) e2) fun y3 =>
 ob (L136_16 y3.1 y3.2.2.2.ids y3.2.2.2.used (y3.2.2.2.used.length:Int) 0 y3.2.1 y3.2.2.1) fun y4 =>
 ob (L136_26 y4.1 y4.2.1 (y4.2.1.length:Int) 0 y4.2.2.1 y4.2.2.2) fun y5 =>
 cond (decide (0≤y5.1))
 (cond (decide (y5.1≤(w64 (y5.1+1))))
 (cond (decide ((w64 (y5.1+1))≤(y5.2.1.leases.length:Int)))
 (cond (fits y5.2.1.leases.length)
 (ob (ledgerOwn (Book.mk y5.2.1.counters y5.2.1.free ((y5.2.1.leases.take y5.1.toNat)++((y5.2.1.leases.take y5.2.1.leases.length).drop (((w64 (y5.1+1))).toNat))) y5.2.1.bound)) fun y6 =>
 some (y6,0))
 none)
 none)
 none)
 none)
 none)
 none)
def un_ledgerFree (p:Book×Int×Int):Option (Book×Int):=ledgerFree p.1 p.2.1 p.2.2
def df_ledgerFree:DFn TL:=DFn.of (DA.cons (DT.agg dc_Book) (DA.cons dI (DA.one dI))) un_ledgerFree (DA.cons (DT.agg dc_Book) (DA.one dI))
theorem run_ledgerFree:DRun [(162,df_ledger_at)] [(124,sf_ledgerOwn),(236007,sl_L136_7),(236016,sl_L136_16),(236026,sl_L136_26)] (envOf tab sl sh [(136,fd136)] [(124,.sum),(162,.pure),(166,(.del 43))]) 136 (DA.cons (DT.agg dc_Book) (DA.cons dI (DA.one dI))) un_ledgerFree (DA.cons (DT.agg dc_Book) (DA.one dI)):=fun _=>by kernel_rfl
theorem ok_ledgerFree:DOK PR 136 .keep df_ledgerFree:=dok run_ledgerFree (envOK_of base (aC (st136.okl rfl (aC (lC ok_L136_7 rfl) (aC (lC ok_L136_16 rfl) (aC (lC ok_L136_26 rfl) aN)))) aN) (aC (okS rfl ok_ledgerOwn) (aC (oD ok_ledger_at rfl) (aC (okDel okI_166) aN)))) (.inl rfl) st136.enters
def clerkReclaim (c1:Clerk):Option (Reply×Clerk) :=
 cond (decide (0≤c1.c.device) && decide (c1.c.device < 6))
 (ob (ledgerFind c1.d.book c1.c.device (cond (decide (c1.c.device=0)) c1.d.dev.a0.epoch (cond (decide (c1.c.device=1)) c1.d.dev.a1.epoch (cond (decide (c1.c.device=2)) c1.d.dev.a2.epoch (cond (decide (c1.c.device=3)) c1.d.dev.a3.epoch (cond (decide (c1.c.device=4)) c1.d.dev.a4.epoch c1.d.dev.a5.epoch)))))) fun r0 =>
 cond (!r0.2)
 (ob (desk_fail 2) fun r1 =>
 some (r1,c1))
 (cond (r0.1.last == (-1))
 (ob (desk_fail 19) fun r2 =>
 some (r2,c1))
 (ob (clerkIncluded c1.d.log c1.c.device (cond (decide (c1.c.device=0)) c1.d.dev.a0.epoch (cond (decide (c1.c.device=1)) c1.d.dev.a1.epoch (cond (decide (c1.c.device=2)) c1.d.dev.a2.epoch (cond (decide (c1.c.device=3)) c1.d.dev.a3.epoch (cond (decide (c1.c.device=4)) c1.d.dev.a4.epoch c1.d.dev.a5.epoch)))))) fun r3 =>
 cond (decide (r3 < r0.1.last))
 (ob (desk_fail 12) fun r4 =>
 some (r4,c1))
 (cond (decide (c1.d.now < (w64 (r0.1.until_+5))))
 (ob (desk_fail 20) fun r5 =>
 some (r5,c1))
 (ob (ledgerFree c1.d.book c1.c.device (cond (decide (c1.c.device=0)) c1.d.dev.a0.epoch (cond (decide (c1.c.device=1)) c1.d.dev.a1.epoch (cond (decide (c1.c.device=2)) c1.d.dev.a2.epoch (cond (decide (c1.c.device=3)) c1.d.dev.a3.epoch (cond (decide (c1.c.device=4)) c1.d.dev.a4.epoch c1.d.dev.a5.epoch)))))) fun r6 =>
 some ((Reply.mk 0 0 (Lease.mk 0 0 0 0 [] [] [])),(Clerk.mk (Desk.mk r6.1 c1.d.colls c1.d.log c1.d.dev c1.d.lost c1.d.now) c1.c)))))))
 none
def un_clerkReclaim (p:Clerk):Option (Reply×Clerk):=clerkReclaim p
def sf_clerkReclaim:SFn TL:=SFn.one ch_clerkRegister.dec un_clerkReclaim .normal co_clerkCheckout.enc
def cs_clerkReclaim:cL:=[(134,df_ledgerFind),(39,df_desk_fail),(133,df_clerkIncluded),(136,df_ledgerFree)]
def env_clerkReclaim:Env:=envOf tab sl sh [(88,fd88),(128,fd128)] [(134,.keep),(39,.keep),(133,(.rd 22 61)),(136,.keep)]
theorem env_clerkReclaim_ok:EnvOK PR (mkD cs_clerkReclaim sZ) env_clerkReclaim:=envOK_of base (aC (st88.okl rfl aN) (aC (st128.okl rfl aN) aN)) (aC (oD ok_ledgerFind rfl) (aC (oD ok_desk_fail rfl) (aC (oD ok_clerkIncluded rfl) (aC (oD ok_ledgerFree rfl) aN))))
theorem run_clerkReclaim (x:Clerk):Out.run (mkO cs_clerkReclaim sZ) (evSum env_clerkReclaim 12 20 88 (ch_clerkRegister.enc x)) (back1 co_clerkCheckout)=un_clerkReclaim x:=by kernel_rfl
theorem ok_clerkReclaim:SOK PR 88 sf_clerkReclaim:=sum_one env_clerkReclaim_ok (loops:=12) (n:=20) st88.enters ch_clerkRegister co_clerkCheckout un_clerkReclaim run_clerkReclaim
def clerkLose (c1:Clerk):Option (Reply×Clerk) :=
 cond (decide (0≤c1.c.device) && decide (c1.c.device < 6))
 (cond ((cond (decide (c1.c.device=0)) c1.d.dev.a0.epoch (cond (decide (c1.c.device=1)) c1.d.dev.a1.epoch (cond (decide (c1.c.device=2)) c1.d.dev.a2.epoch (cond (decide (c1.c.device=3)) c1.d.dev.a3.epoch (cond (decide (c1.c.device=4)) c1.d.dev.a4.epoch c1.d.dev.a5.epoch))))) == 0)
 (ob (desk_fail 2) fun r0 =>
 some (r0,c1))
 (ob (clerkLost c1.d.lost c1.c.device (cond (decide (c1.c.device=0)) c1.d.dev.a0.epoch (cond (decide (c1.c.device=1)) c1.d.dev.a1.epoch (cond (decide (c1.c.device=2)) c1.d.dev.a2.epoch (cond (decide (c1.c.device=3)) c1.d.dev.a3.epoch (cond (decide (c1.c.device=4)) c1.d.dev.a4.epoch c1.d.dev.a5.epoch)))))) fun r1 =>
 cond (r1)
 (ob (desk_fail 7) fun r2 =>
 some (r2,c1))
 (ob (ledgerFree c1.d.book c1.c.device (cond (decide (c1.c.device=0)) c1.d.dev.a0.epoch (cond (decide (c1.c.device=1)) c1.d.dev.a1.epoch (cond (decide (c1.c.device=2)) c1.d.dev.a2.epoch (cond (decide (c1.c.device=3)) c1.d.dev.a3.epoch (cond (decide (c1.c.device=4)) c1.d.dev.a4.epoch c1.d.dev.a5.epoch)))))) fun r3 =>
 ob (clerkIncluded c1.d.log c1.c.device (cond (decide (c1.c.device=0)) c1.d.dev.a0.epoch (cond (decide (c1.c.device=1)) c1.d.dev.a1.epoch (cond (decide (c1.c.device=2)) c1.d.dev.a2.epoch (cond (decide (c1.c.device=3)) c1.d.dev.a3.epoch (cond (decide (c1.c.device=4)) c1.d.dev.a4.epoch c1.d.dev.a5.epoch)))))) fun r4 =>
 cond (fits ((c1.d.lost++[(Entry.mk c1.c.device (cond (decide (c1.c.device=0)) c1.d.dev.a0.epoch (cond (decide (c1.c.device=1)) c1.d.dev.a1.epoch (cond (decide (c1.c.device=2)) c1.d.dev.a2.epoch (cond (decide (c1.c.device=3)) c1.d.dev.a3.epoch (cond (decide (c1.c.device=4)) c1.d.dev.a4.epoch c1.d.dev.a5.epoch))))) r4)]).length))
 (some ((Reply.mk 0 r4 (Lease.mk 0 0 0 0 [] [] [])),(Clerk.mk (Desk.mk r3.1 c1.d.colls c1.d.log c1.d.dev (c1.d.lost++[(Entry.mk c1.c.device (cond (decide (c1.c.device=0)) c1.d.dev.a0.epoch (cond (decide (c1.c.device=1)) c1.d.dev.a1.epoch (cond (decide (c1.c.device=2)) c1.d.dev.a2.epoch (cond (decide (c1.c.device=3)) c1.d.dev.a3.epoch (cond (decide (c1.c.device=4)) c1.d.dev.a4.epoch c1.d.dev.a5.epoch))))) r4)]) c1.d.now) c1.c)))
 none)))
 none
def un_clerkLose (p:Clerk):Option (Reply×Clerk):=clerkLose p
def sf_clerkLose:SFn TL:=SFn.one ch_clerkRegister.dec un_clerkLose .normal co_clerkCheckout.enc
def cs_clerkLose:cL:=[(39,df_desk_fail),(129,df_clerkLost),(136,df_ledgerFree),(133,df_clerkIncluded)]
def env_clerkLose:Env:=envOf tab sl sh [(89,fd89),(128,fd128)] [(39,.keep),(129,(.rd 89 66)),(136,.keep),(133,(.rd 22 61))]
theorem env_clerkLose_ok:EnvOK PR (mkD cs_clerkLose sZ) env_clerkLose:=envOK_of base (aC (st89.okl rfl aN) (aC (st128.okl rfl aN) aN)) (aC (oD ok_desk_fail rfl) (aC (oD ok_clerkLost rfl) (aC (oD ok_ledgerFree rfl) (aC (oD ok_clerkIncluded rfl) aN))))
theorem run_clerkLose (x:Clerk):Out.run (mkO cs_clerkLose sZ) (evSum env_clerkLose 12 20 89 (ch_clerkRegister.enc x)) (back1 co_clerkCheckout)=un_clerkLose x:=by kernel_rfl
theorem ok_clerkLose:SOK PR 89 sf_clerkLose:=sum_one env_clerkLose_ok (loops:=12) (n:=20) st89.enters ch_clerkRegister co_clerkCheckout un_clerkLose run_clerkLose
def clerkTime (c1:Clerk):Option (Reply×Clerk) :=
 cond (cond (decide (c1.c.n < 0)) true (decide (c1.c.n > 1099511627776)))
 (ob (desk_fail 1) fun r0 =>
 some (r0,c1))
 (some ((Reply.mk 0 0 (Lease.mk 0 0 0 0 [] [] [])),(Clerk.mk (Desk.mk c1.d.book c1.d.colls c1.d.log c1.d.dev c1.d.lost (max2 c1.d.now c1.c.n)) c1.c)))
def un_clerkTime (p:Clerk):Option (Reply×Clerk):=clerkTime p
def sf_clerkTime:SFn TL:=SFn.one ch_clerkRegister.dec un_clerkTime .normal co_clerkRegister.enc
def cs_clerkTime:cL:=[(39,df_desk_fail)]
def env_clerkTime:Env:=envOf tab sl sh [(90,fd90)] [(39,.keep)]
theorem env_clerkTime_ok:EnvOK PR (mkD cs_clerkTime sZ) env_clerkTime:=envOK_of base (aC (st90.okl rfl aN) aN) (aC (oD ok_desk_fail rfl) aN)
theorem run_clerkTime (x:Clerk):Out.run (mkO cs_clerkTime sZ) (evSum env_clerkTime 12 20 90 (ch_clerkRegister.enc x)) (back1 co_clerkRegister)=un_clerkTime x:=by kernel_rfl
theorem ok_clerkTime:SOK PR 90 sf_clerkTime:=sum_one env_clerkTime_ok (loops:=12) (n:=20) st90.enters ch_clerkRegister co_clerkRegister un_clerkTime run_clerkTime
def clerkWork (c1:Clerk):Option (Reply×Clerk) :=
 cond (c1.c.kind == 1)
 (ob (clerkRegister c1) fun y0 =>
 some (y0.1,y0.2))
 (cond (c1.c.kind == 2)
 (ob (clerkCheckout c1) fun y1 =>
 some (y1.1,y1.2))
 (cond (c1.c.kind == 3)
 (ob (clerkMerge c1) fun y2 =>
 some (y2.1,y2.2))
 (cond (c1.c.kind == 4)
 (ob (clerkShut c1) fun y3 =>
 some (y3.1,y3.2))
 (cond (c1.c.kind == 5)
 (ob (clerkReclaim c1) fun y4 =>
 some (y4.1,y4.2))
 (cond (c1.c.kind == 6)
 (ob (clerkLose c1) fun y5 =>
 some (y5.1,y5.2))
 (ob (clerkTime c1) fun y6 =>
 some (y6.1,y6.2)))))))
def un_clerkWork (p:Clerk):Option (Reply×Clerk):=clerkWork p
def sf_clerkWork:SFn TL:=SFn.one ch_clerkRegister.dec un_clerkWork .normal co_clerkMerge.enc
def ss_clerkWork:sL:=[(84,sf_clerkRegister),(85,sf_clerkCheckout),(86,sf_clerkMerge),(87,sf_clerkShut),(88,sf_clerkReclaim),(89,sf_clerkLose),(90,sf_clerkTime)]
def env_clerkWork:Env:=envOf tab sl sh [(40,fd40)] [(84,.sum),(85,.sum),(86,.sum),(87,.sum),(88,.sum),(89,.sum),(90,.sum)]
theorem env_clerkWork_ok:EnvOK PR (mkD cZ ss_clerkWork) env_clerkWork:=envOK_of base (aC (st40.okl rfl aN) aN) (aC (okS rfl ok_clerkRegister) (aC (okS rfl ok_clerkCheckout) (aC (okS rfl ok_clerkMerge) (aC (okS rfl ok_clerkShut) (aC (okS rfl ok_clerkReclaim) (aC (okS rfl ok_clerkLose) (aC (okS rfl ok_clerkTime) aN)))))))
theorem run_clerkWork (x:Clerk):Out.run (mkO cZ ss_clerkWork) (evSum env_clerkWork 12 20 40 (ch_clerkRegister.enc x)) (back1 co_clerkMerge)=un_clerkWork x:=by kernel_rfl
theorem ok_clerkWork:SOK PR 40 sf_clerkWork:=sum_one env_clerkWork_ok (loops:=12) (n:=20) st40.enters ch_clerkRegister co_clerkMerge un_clerkWork run_clerkWork
def deskDo (d1:Desk)(c1:Cmd):Option (Desk×Reply) :=
 cond (cond (decide (c1.kind < 1)) true (decide (c1.kind > 7)))
 (ob (deskOwn d1) fun y0 =>
 ob (desk_fail 3) fun r1 =>
 some (y0,r1))
 (cond (cond (c1.kind != 7) (!(cond (decide (c1.device≥0)) (decide (c1.device < 6)) false)) false)
 (ob (deskOwn d1) fun y2 =>
 ob (desk_fail 1) fun r3 =>
 some (y2,r3))
 (cond (c1.kind == 1)
 (ob (deskOwn d1) fun y4 =>
 cond (decide (0≤c1.device) && decide (c1.device < 6))
 (cond (cond (decide (c1.req < 1)) true (decide (c1.req > 1073741824)))
 (ob (deskOwn d1) fun y5 =>
 ob (desk_fail 1) fun r6 =>
 some (y5,r6))
 (cond (c1.req == (cond (decide (c1.device=0)) y4.dev.a0.req (cond (decide (c1.device=1)) y4.dev.a1.req (cond (decide (c1.device=2)) y4.dev.a2.req (cond (decide (c1.device=3)) y4.dev.a3.req (cond (decide (c1.device=4)) y4.dev.a4.req y4.dev.a5.req))))))
 (ob (deskOwn d1) fun y7 =>
 some (y7,(Reply.sel (decide (c1.device=0)) y4.dev.a0.reply (Reply.mk (cond (decide (c1.device=1)) y4.dev.a1.reply.err (cond (decide (c1.device=2)) y4.dev.a2.reply.err (cond (decide (c1.device=3)) y4.dev.a3.reply.err (cond (decide (c1.device=4)) y4.dev.a4.reply.err y4.dev.a5.reply.err)))) (cond (decide (c1.device=1)) y4.dev.a1.reply.n (cond (decide (c1.device=2)) y4.dev.a2.reply.n (cond (decide (c1.device=3)) y4.dev.a3.reply.n (cond (decide (c1.device=4)) y4.dev.a4.reply.n y4.dev.a5.reply.n)))) (Lease.mk (cond (decide (c1.device=1)) y4.dev.a1.reply.lease.device (cond (decide (c1.device=2)) y4.dev.a2.reply.lease.device (cond (decide (c1.device=3)) y4.dev.a3.reply.lease.device (cond (decide (c1.device=4)) y4.dev.a4.reply.lease.device y4.dev.a5.reply.lease.device)))) (cond (decide (c1.device=1)) y4.dev.a1.reply.lease.epoch (cond (decide (c1.device=2)) y4.dev.a2.reply.lease.epoch (cond (decide (c1.device=3)) y4.dev.a3.reply.lease.epoch (cond (decide (c1.device=4)) y4.dev.a4.reply.lease.epoch y4.dev.a5.reply.lease.epoch)))) (cond (decide (c1.device=1)) y4.dev.a1.reply.lease.until_ (cond (decide (c1.device=2)) y4.dev.a2.reply.lease.until_ (cond (decide (c1.device=3)) y4.dev.a3.reply.lease.until_ (cond (decide (c1.device=4)) y4.dev.a4.reply.lease.until_ y4.dev.a5.reply.lease.until_)))) (cond (decide (c1.device=1)) y4.dev.a1.reply.lease.last (cond (decide (c1.device=2)) y4.dev.a2.reply.lease.last (cond (decide (c1.device=3)) y4.dev.a3.reply.lease.last (cond (decide (c1.device=4)) y4.dev.a4.reply.lease.last y4.dev.a5.reply.lease.last)))) (cond (decide (c1.device=1)) y4.dev.a1.reply.lease.slices (cond (decide (c1.device=2)) y4.dev.a2.reply.lease.slices (cond (decide (c1.device=3)) y4.dev.a3.reply.lease.slices (cond (decide (c1.device=4)) y4.dev.a4.reply.lease.slices y4.dev.a5.reply.lease.slices)))) (cond (decide (c1.device=1)) y4.dev.a1.reply.lease.ids (cond (decide (c1.device=2)) y4.dev.a2.reply.lease.ids (cond (decide (c1.device=3)) y4.dev.a3.reply.lease.ids (cond (decide (c1.device=4)) y4.dev.a4.reply.lease.ids y4.dev.a5.reply.lease.ids)))) (cond (decide (c1.device=1)) y4.dev.a1.reply.lease.used (cond (decide (c1.device=2)) y4.dev.a2.reply.lease.used (cond (decide (c1.device=3)) y4.dev.a3.reply.lease.used (cond (decide (c1.device=4)) y4.dev.a4.reply.lease.used y4.dev.a5.reply.lease.used)))))))))
 (cond (decide (c1.req < (cond (decide (c1.device=0)) y4.dev.a0.req (cond (decide (c1.device=1)) y4.dev.a1.req (cond (decide (c1.device=2)) y4.dev.a2.req (cond (decide (c1.device=3)) y4.dev.a3.req (cond (decide (c1.device=4)) y4.dev.a4.req y4.dev.a5.req)))))))
 (ob (deskOwn d1) fun y8 =>
 ob (desk_fail 7) fun r9 =>
 some (y8,r9))
 (ob (deskOwn d1) fun y16 =>
 ob (clerkWork (Clerk.mk y16 c1)) fun y17 =>
 cond (y17.1.err != 0)
 (ob (deskOwn d1) fun y18 =>
 cond (decide (0≤c1.device) && decide (c1.device < 6))
 (cond (decide (0≤c1.device) && decide (c1.device < 6))
 (ob (deskLease y17.1.lease) fun y19 =>
 ob (deskOwn (Desk.mk y18.book y18.colls y18.log (A6Device.mk (Device.mk y18.dev.a0.epoch (cond (decide (c1.device=0)) c1.req y18.dev.a0.req) (Reply.sel (decide (c1.device=0)) y17.1 y18.dev.a0.reply)) (Device.mk y18.dev.a1.epoch (cond (decide (c1.device=1)) c1.req y18.dev.a1.req) (Reply.sel (decide (c1.device=1)) y17.1 y18.dev.a1.reply)) (Device.mk y18.dev.a2.epoch (cond (decide (c1.device=2)) c1.req y18.dev.a2.req) (Reply.sel (decide (c1.device=2)) y17.1 y18.dev.a2.reply)) (Device.mk y18.dev.a3.epoch (cond (decide (c1.device=3)) c1.req y18.dev.a3.req) (Reply.sel (decide (c1.device=3)) y17.1 y18.dev.a3.reply)) (Device.mk y18.dev.a4.epoch (cond (decide (c1.device=4)) c1.req y18.dev.a4.req) (Reply.sel (decide (c1.device=4)) y17.1 y18.dev.a4.reply)) (Device.mk y18.dev.a5.epoch (cond (decide (c1.device=5)) c1.req y18.dev.a5.req) (Reply.sel (decide (c1.device=5)) y17.1 y18.dev.a5.reply))) y18.lost y18.now)) fun y20 =>
 some (y20,(Reply.mk y17.1.err y17.1.n y19)))
 none)
 none)
 (ob (deskOwn y17.2.d) fun y21 =>
 cond (decide (0≤c1.device) && decide (c1.device < 6))
 (cond (decide (0≤c1.device) && decide (c1.device < 6))
 (ob (deskLease y17.1.lease) fun y22 =>
 ob (deskOwn (Desk.mk y21.book y21.colls y21.log (A6Device.mk (Device.mk y21.dev.a0.epoch (cond (decide (c1.device=0)) c1.req y21.dev.a0.req) (Reply.sel (decide (c1.device=0)) y17.1 y21.dev.a0.reply)) (Device.mk y21.dev.a1.epoch (cond (decide (c1.device=1)) c1.req y21.dev.a1.req) (Reply.sel (decide (c1.device=1)) y17.1 y21.dev.a1.reply)) (Device.mk y21.dev.a2.epoch (cond (decide (c1.device=2)) c1.req y21.dev.a2.req) (Reply.sel (decide (c1.device=2)) y17.1 y21.dev.a2.reply)) (Device.mk y21.dev.a3.epoch (cond (decide (c1.device=3)) c1.req y21.dev.a3.req) (Reply.sel (decide (c1.device=3)) y17.1 y21.dev.a3.reply)) (Device.mk y21.dev.a4.epoch (cond (decide (c1.device=4)) c1.req y21.dev.a4.req) (Reply.sel (decide (c1.device=4)) y17.1 y21.dev.a4.reply)) (Device.mk y21.dev.a5.epoch (cond (decide (c1.device=5)) c1.req y21.dev.a5.req) (Reply.sel (decide (c1.device=5)) y17.1 y21.dev.a5.reply))) y21.lost y21.now)) fun y23 =>
 some (y23,(Reply.mk y17.1.err y17.1.n y22)))
 none)
 none)))))
 none)
 (cond (cond (c1.kind == 2) (c1.kind == 2) (c1.kind == 4))
 (ob (deskOwn d1) fun y10 =>
 cond (decide (0≤c1.device) && decide (c1.device < 6))
 (cond (cond (decide (c1.req < 1)) true (decide (c1.req > 1073741824)))
 (ob (deskOwn d1) fun y11 =>
 ob (desk_fail 1) fun r12 =>
 some (y11,r12))
 (cond (c1.req == (cond (decide (c1.device=0)) y10.dev.a0.req (cond (decide (c1.device=1)) y10.dev.a1.req (cond (decide (c1.device=2)) y10.dev.a2.req (cond (decide (c1.device=3)) y10.dev.a3.req (cond (decide (c1.device=4)) y10.dev.a4.req y10.dev.a5.req))))))
 (ob (deskOwn d1) fun y13 =>
 some (y13,(Reply.sel (decide (c1.device=0)) y10.dev.a0.reply (Reply.mk (cond (decide (c1.device=1)) y10.dev.a1.reply.err (cond (decide (c1.device=2)) y10.dev.a2.reply.err (cond (decide (c1.device=3)) y10.dev.a3.reply.err (cond (decide (c1.device=4)) y10.dev.a4.reply.err y10.dev.a5.reply.err)))) (cond (decide (c1.device=1)) y10.dev.a1.reply.n (cond (decide (c1.device=2)) y10.dev.a2.reply.n (cond (decide (c1.device=3)) y10.dev.a3.reply.n (cond (decide (c1.device=4)) y10.dev.a4.reply.n y10.dev.a5.reply.n)))) (Lease.mk (cond (decide (c1.device=1)) y10.dev.a1.reply.lease.device (cond (decide (c1.device=2)) y10.dev.a2.reply.lease.device (cond (decide (c1.device=3)) y10.dev.a3.reply.lease.device (cond (decide (c1.device=4)) y10.dev.a4.reply.lease.device y10.dev.a5.reply.lease.device)))) (cond (decide (c1.device=1)) y10.dev.a1.reply.lease.epoch (cond (decide (c1.device=2)) y10.dev.a2.reply.lease.epoch (cond (decide (c1.device=3)) y10.dev.a3.reply.lease.epoch (cond (decide (c1.device=4)) y10.dev.a4.reply.lease.epoch y10.dev.a5.reply.lease.epoch)))) (cond (decide (c1.device=1)) y10.dev.a1.reply.lease.until_ (cond (decide (c1.device=2)) y10.dev.a2.reply.lease.until_ (cond (decide (c1.device=3)) y10.dev.a3.reply.lease.until_ (cond (decide (c1.device=4)) y10.dev.a4.reply.lease.until_ y10.dev.a5.reply.lease.until_)))) (cond (decide (c1.device=1)) y10.dev.a1.reply.lease.last (cond (decide (c1.device=2)) y10.dev.a2.reply.lease.last (cond (decide (c1.device=3)) y10.dev.a3.reply.lease.last (cond (decide (c1.device=4)) y10.dev.a4.reply.lease.last y10.dev.a5.reply.lease.last)))) (cond (decide (c1.device=1)) y10.dev.a1.reply.lease.slices (cond (decide (c1.device=2)) y10.dev.a2.reply.lease.slices (cond (decide (c1.device=3)) y10.dev.a3.reply.lease.slices (cond (decide (c1.device=4)) y10.dev.a4.reply.lease.slices y10.dev.a5.reply.lease.slices)))) (cond (decide (c1.device=1)) y10.dev.a1.reply.lease.ids (cond (decide (c1.device=2)) y10.dev.a2.reply.lease.ids (cond (decide (c1.device=3)) y10.dev.a3.reply.lease.ids (cond (decide (c1.device=4)) y10.dev.a4.reply.lease.ids y10.dev.a5.reply.lease.ids)))) (cond (decide (c1.device=1)) y10.dev.a1.reply.lease.used (cond (decide (c1.device=2)) y10.dev.a2.reply.lease.used (cond (decide (c1.device=3)) y10.dev.a3.reply.lease.used (cond (decide (c1.device=4)) y10.dev.a4.reply.lease.used y10.dev.a5.reply.lease.used)))))))))
 (cond (decide (c1.req < (cond (decide (c1.device=0)) y10.dev.a0.req (cond (decide (c1.device=1)) y10.dev.a1.req (cond (decide (c1.device=2)) y10.dev.a2.req (cond (decide (c1.device=3)) y10.dev.a3.req (cond (decide (c1.device=4)) y10.dev.a4.req y10.dev.a5.req)))))))
 (ob (deskOwn d1) fun y14 =>
 ob (desk_fail 7) fun r15 =>
 some (y14,r15))
 (ob (deskOwn d1) fun y24 =>
 ob (clerkWork (Clerk.mk y24 c1)) fun y25 =>
 cond (y25.1.err != 0)
 (ob (deskOwn d1) fun y26 =>
 cond (decide (0≤c1.device) && decide (c1.device < 6))
 (cond (decide (0≤c1.device) && decide (c1.device < 6))
 (ob (deskLease y25.1.lease) fun y27 =>
 ob (deskOwn (Desk.mk y26.book y26.colls y26.log (A6Device.mk (Device.mk y26.dev.a0.epoch (cond (decide (c1.device=0)) c1.req y26.dev.a0.req) (Reply.sel (decide (c1.device=0)) y25.1 y26.dev.a0.reply)) (Device.mk y26.dev.a1.epoch (cond (decide (c1.device=1)) c1.req y26.dev.a1.req) (Reply.sel (decide (c1.device=1)) y25.1 y26.dev.a1.reply)) (Device.mk y26.dev.a2.epoch (cond (decide (c1.device=2)) c1.req y26.dev.a2.req) (Reply.sel (decide (c1.device=2)) y25.1 y26.dev.a2.reply)) (Device.mk y26.dev.a3.epoch (cond (decide (c1.device=3)) c1.req y26.dev.a3.req) (Reply.sel (decide (c1.device=3)) y25.1 y26.dev.a3.reply)) (Device.mk y26.dev.a4.epoch (cond (decide (c1.device=4)) c1.req y26.dev.a4.req) (Reply.sel (decide (c1.device=4)) y25.1 y26.dev.a4.reply)) (Device.mk y26.dev.a5.epoch (cond (decide (c1.device=5)) c1.req y26.dev.a5.req) (Reply.sel (decide (c1.device=5)) y25.1 y26.dev.a5.reply))) y26.lost y26.now)) fun y28 =>
 some (y28,(Reply.mk y25.1.err y25.1.n y27)))
 none)
 none)
 (ob (deskOwn y25.2.d) fun y29 =>
 cond (decide (0≤c1.device) && decide (c1.device < 6))
 (cond (decide (0≤c1.device) && decide (c1.device < 6))
 (ob (deskLease y25.1.lease) fun y30 =>
 ob (deskOwn (Desk.mk y29.book y29.colls y29.log (A6Device.mk (Device.mk y29.dev.a0.epoch (cond (decide (c1.device=0)) c1.req y29.dev.a0.req) (Reply.sel (decide (c1.device=0)) y25.1 y29.dev.a0.reply)) (Device.mk y29.dev.a1.epoch (cond (decide (c1.device=1)) c1.req y29.dev.a1.req) (Reply.sel (decide (c1.device=1)) y25.1 y29.dev.a1.reply)) (Device.mk y29.dev.a2.epoch (cond (decide (c1.device=2)) c1.req y29.dev.a2.req) (Reply.sel (decide (c1.device=2)) y25.1 y29.dev.a2.reply)) (Device.mk y29.dev.a3.epoch (cond (decide (c1.device=3)) c1.req y29.dev.a3.req) (Reply.sel (decide (c1.device=3)) y25.1 y29.dev.a3.reply)) (Device.mk y29.dev.a4.epoch (cond (decide (c1.device=4)) c1.req y29.dev.a4.req) (Reply.sel (decide (c1.device=4)) y25.1 y29.dev.a4.reply)) (Device.mk y29.dev.a5.epoch (cond (decide (c1.device=5)) c1.req y29.dev.a5.req) (Reply.sel (decide (c1.device=5)) y25.1 y29.dev.a5.reply))) y29.lost y29.now)) fun y31 =>
 some (y31,(Reply.mk y25.1.err y25.1.n y30)))
 none)
 none)))))
 none)
 (ob (deskOwn d1) fun y32 =>
 ob (clerkWork (Clerk.mk y32 c1)) fun y33 =>
 cond (y33.1.err != 0)
 (ob (deskOwn d1) fun y34 =>
 ob (deskLease y33.1.lease) fun y35 =>
 ob (deskOwn y34) fun y36 =>
 some (y36,(Reply.mk y33.1.err y33.1.n y35)))
 (ob (deskOwn y33.2.d) fun y37 =>
 ob (deskLease y33.1.lease) fun y38 =>
 ob (deskOwn y37) fun y39 =>
 some (y39,(Reply.mk y33.1.err y33.1.n y38)))))))
def un_deskDo (p:Desk×Cmd):Option (Desk×Reply):=deskDo p.1 p.2
def df_deskDo:DFn TL:=DFn.of (DA.cons (DT.agg dc_Desk) (DA.one (DT.agg dc_Cmd))) un_deskDo (DA.cons (DT.agg dc_Desk) (DA.one (DT.agg dc_Reply)))
theorem run_deskDo:DRun [(39,df_desk_fail)] [(38,sf_deskOwn),(40,sf_clerkWork),(41,sf_deskLease)] (envOf tab sl sh [(18,fd18)] [(38,.sum),(39,.keep),(40,.sum),(41,.sum)]) 18 (DA.cons (DT.agg dc_Desk) (DA.one (DT.agg dc_Cmd))) un_deskDo (DA.cons (DT.agg dc_Desk) (DA.one (DT.agg dc_Reply))):=fun _=>by kernel_rfl
theorem ok_deskDo:DOK PR 18 .keep df_deskDo:=dok run_deskDo (envOK_of base (aC (st18.okl rfl aN) aN) (aC (okS rfl ok_deskOwn) (aC (oD ok_desk_fail rfl) (aC (okS rfl ok_clerkWork) (aC (okS rfl ok_deskLease) aN))))) (.inl rfl) st18.enters
def step_L147_2 (s1:ByteArray)(b1:Bool)(i1:Int)(i2:Int):Option ((tY13)⊕(((ByteArray×Bool)⊕(ByteArray×Bool)))) :=
 cond (decide (i2 < i1))
 (cond (decide (0≤i2))
 (cond (decide (i2 < (s1.size:Int)))
 (cond (decide (((s1[(i2:Int).toNat]?.getD 0).toNat:Int) < 32))
 (some (.inr (.inr (s1,false))))
 (cond (decide (0≤i2))
 (cond (decide (i2 < (s1.size:Int)))
 (cond (((s1[(i2:Int).toNat]?.getD 0).toNat:Int) == 127)
 (some (.inr (.inr (s1,false))))
 (some (.inl (s1,b1,i1,(w64 (i2+1))))))
 none)
 none))
 none)
 none)
 (some (.inr (.inl (s1,b1))))
def stp_L147_2 (p:tY13):Option ((tY13)⊕(((ByteArray×Bool)⊕(ByteArray×Bool)))):=step_L147_2 p.1 p.2.1 p.2.2.1 p.2.2.2
def L147_2 (s1:ByteArray)(b1:Bool)(i1:Int)(i2:Int):Option (((ByteArray×Bool)⊕(ByteArray×Bool))):=iterO stp_L147_2 ((i1 - i2).toNat+2) (s1,b1,i1,i2)
def sl_L147_2:SFn TL:=SFn.two ch_L183_2.dec (fun p=>L147_2 p.1 p.2.1 p.2.2.1 p.2.2.2) (.exit 0) .ret co0_L183_2.enc co0_L183_2.enc
def v_L147_2:Env:=envOf tab sl sh [] []
theorem v_L147_2_ok:EnvOK PR (mkD cZ sZ) v_L147_2:=envOK_of base aN aN
theorem run_L147_2 (x:tY13):Out.run (mkO cZ sZ) (evRound v_L147_2 12 20 fd147.an q_L147_2 (loopIn (loopsOf fd147.body) 2) (ch_L183_2.enc x)) (back2 ch_L183_2 co0_L183_2 co0_L183_2 (.exit 0) .ret)=stp_L147_2 x:=by kernel_rfl
theorem ok_L147_2:LoopOK PR (oneS sl_L147_2) nt147 q_L147_2 (loopIn (loopsOf fd147.body) 2) :=
  loop_two v_L147_2_ok (loops:=12) (k:=20) (an:=fd147.an) (by kernel_rfl) (FnSt.subl rfl st147.keys (aC (.inl (by kernel_rfl)) aN)) ch_L183_2 co0_L183_2 co0_L183_2 (.exit 0) .ret rfl rfl stp_L147_2 _ run_L147_2 (fun x y h=>⟨_,h⟩) (fun _=>below_iff.1 rfl)
def ledger_text (s1:ByteArray):Option Bool :=
 ob (L147_2 s1 false (s1.size:Int) 0) fun y0 =>
 two y0 (fun a1 =>
 some (decide ((a1.1.size:Int)≤40))) (fun b2 =>
 some b2.2)
def un_ledger_text (p:ByteArray):Option Bool:=ledger_text p
def df_ledger_text:DFn TL:=DFn.of (DA.one (DT.one DI.str)) un_ledger_text (DA.one dB)
theorem run_ledger_text:DRun [] [(247002,sl_L147_2)] (envOf tab sl sh [(147,fd147)] []) 147 (DA.one (DT.one DI.str)) un_ledger_text (DA.one dB):=fun _=>by kernel_rfl
theorem ok_ledger_text:DOK PR 147 .pure df_ledger_text:=dok run_ledger_text (envOK_of base (aC (st147.okl rfl (aC (lC ok_L147_2 rfl) aN)) aN) aN) (.inr rfl) st147.enters
def ledger_may (c1:Counter):Option Bool :=
 cond (!sEq c1.key s_empty)
 (ob (ledger_text c1.key) fun r0 =>
 cond (r0)
 (ob (ledger_within c1.coll 0 2) fun r1 =>
 some (cond r1 (cond (decide (c1.lo≥(-1099511627776))) (cond (decide (c1.lo≤c1.start)) (cond (decide (c1.start≤c1.hi)) (decide (c1.hi≤1099511627776)) false) false) false) false))
 (some false))
 (some false)
def un_ledger_may (p:Counter):Option Bool:=ledger_may p
def df_ledger_may:DFn TL:=DFn.of (DA.one (DT.agg dc_Counter)) un_ledger_may (DA.one dB)
theorem run_ledger_may:DRun [(147,df_ledger_text),(122,df_ledger_within)] [] (envOf tab sl sh [(120,fd120)] [(147,.pure),(122,.pure)]) 120 (DA.one (DT.agg dc_Counter)) un_ledger_may (DA.one dB):=fun _=>by kernel_rfl
theorem ok_ledger_may:DOK PR 120 .pure df_ledger_may:=dok run_ledger_may (envOK_of base (aC (st120.okl rfl aN) aN) (aC (oD ok_ledger_text rfl) (aC (oD ok_ledger_within rfl) aN))) (.inr rfl) st120.enters
abbrev tY32:=Int×Int×(List Counter)×Int×Int×Book×Book
def step_L75_5 (i1:Int)(i2:Int)(l1:List Counter)(i3:Int)(i4:Int)(bx1:Book)(bx2:Book):Option ((tY32)⊕(((Int×Int×Book×Book)⊕(Int×Int×Book×Book×(List Counter)×(List Range)×(List Lease)×(List Int))))) :=
 cond (decide (i4 < i3))
 (cond (decide (0≤i4))
 (ob (l1[i4.toNat]?) fun e0 =>
 ob (ledger_may e0) fun r1 =>
 cond (!r1)
 (some (.inr (.inr (i1,1,(Book.mk [] [] [] []),bx2,bx1.counters,bx1.free,bx1.leases,bx1.bound))))
 (ob (ledger_counter bx2 e0.key) fun r2 =>
 cond (decide (r2≥0))
 (some (.inr (.inr (i1,7,(Book.mk [] [] [] []),bx2,bx1.counters,bx1.free,bx1.leases,bx1.bound))))
 (cond (fits ((bx2.counters++[(Counter.mk e0.key e0.coll e0.lo e0.hi e0.start (w64 (e0.hi - e0.start)) (w64 (e0.start - e0.lo)))]).length))
 (some (.inl (i1,i2,l1,i3,(w64 (i4+1)),bx1,(Book.mk (bx2.counters++[(Counter.mk e0.key e0.coll e0.lo e0.hi e0.start (w64 (e0.hi - e0.start)) (w64 (e0.start - e0.lo)))]) bx2.free bx2.leases bx2.bound))))
 none)))
 none)
 (some (.inr (.inl (i1,i2,bx1,bx2))))
def stp_L75_5 (p:tY32):Option ((tY32)⊕(((Int×Int×Book×Book)⊕(Int×Int×Book×Book×(List Counter)×(List Range)×(List Lease)×(List Int))))):=step_L75_5 p.1 p.2.1 p.2.2.1 p.2.2.2.1 p.2.2.2.2.1 p.2.2.2.2.2.1 p.2.2.2.2.2.2
def L75_5 (i1:Int)(i2:Int)(l1:List Counter)(i3:Int)(i4:Int)(bx1:Book)(bx2:Book):Option (((Int×Int×Book×Book)⊕(Int×Int×Book×Book×(List Counter)×(List Range)×(List Lease)×(List Int)))):=iterO stp_L75_5 ((i3 - i4).toNat+2) (i1,i2,l1,i3,i4,bx1,bx2)
def ch_L75_5:kT (tY32):=kO (kS 10 (kC kI (kC (kP 0 0) (kC kI (kC (kP 1 0) (kC (kF j_lCounter) (kC kI (kC kI kN))))))) (kC (Cod.var 0 29 (kC (kA 2) (kC (kA 3) (kC (kA 4) (kC (kA 5) kN))))) (kC (Cod.var 1 29 (kC (kA 6) (kC (kA 7) (kC (kA 8) (kC (kA 9) kN))))) (kC (kR 2 65 j_lCounter) (kC (kR 3 153 j_lRange) (kC (kR 4 43 j_lLease) (kC (kR 5 3 j_lInt) (kC (kR 6 65 j_lCounter) (kC (kR 7 153 j_lRange) (kC (kR 8 43 j_lLease) (kC (kR 9 3 j_lInt) kN))))))))))) (fun p=>(p.1.1,p.1.2.2.1,p.1.2.2.2.2.1,p.1.2.2.2.2.2.1,p.1.2.2.2.2.2.2.1,(Book.mk p.2.2.2.1 p.2.2.2.2.1 p.2.2.2.2.2.1 p.2.2.2.2.2.2.1),(Book.mk p.2.2.2.2.2.2.2.1 p.2.2.2.2.2.2.2.2.1 (t8 p.2).1 (t8 p.2).2.1))) (fun (x:tY32)=>((x.1,((),(x.2.1,((),(x.2.2.1,(x.2.2.2.1,(x.2.2.2.2.1,()))))))),(((),((),((),((),())))),(((),((),((),((),())))),(x.2.2.2.2.2.1.counters,(x.2.2.2.2.2.1.free,(x.2.2.2.2.2.1.leases,(x.2.2.2.2.2.1.bound,(x.2.2.2.2.2.2.counters,(x.2.2.2.2.2.2.free,(x.2.2.2.2.2.2.leases,(x.2.2.2.2.2.2.bound,())))))))))))) (fun _=>rfl)
def co0_L75_5:kT (Int×Int×Book×Book):=kO (kS 20 (kC kI (kC (kP 0 0) (kC kI (kC (kP 1 0) kN)))) (kC (Cod.var 0 29 (kC (kA 2) (kC (kA 3) (kC (kA 4) (kC (kA 5) kN))))) (kC (Cod.var 1 29 (kC (kA 19) (kC (kA 7) (kC (kA 8) (kC (kA 9) kN))))) (kC (kR 2 65 j_lCounter) (kC (kR 3 153 j_lRange) (kC (kR 4 43 j_lLease) (kC (kR 5 3 j_lInt) (kC (kR 7 153 j_lRange) (kC (kR 8 43 j_lLease) (kC (kR 9 3 j_lInt) (kC (kR 19 65 j_lCounter) kN))))))))))) (fun p=>(p.1.1,p.1.2.2.1,(Book.mk p.2.2.2.1 p.2.2.2.2.1 p.2.2.2.2.2.1 p.2.2.2.2.2.2.1),(Book.mk (t8 p.2).2.1 p.2.2.2.2.2.2.2.1 p.2.2.2.2.2.2.2.2.1 (t8 p.2).1))) (fun (x:Int×Int×Book×Book)=>((x.1,((),(x.2.1,((),())))),(((),((),((),((),())))),(((),((),((),((),())))),(x.2.2.1.counters,(x.2.2.1.free,(x.2.2.1.leases,(x.2.2.1.bound,(x.2.2.2.free,(x.2.2.2.leases,(x.2.2.2.bound,(x.2.2.2.counters,())))))))))))) (fun _=>rfl)
def co1_L75_5:kT (Int×Int×Book×Book×(List Counter)×(List Range)×(List Lease)×(List Int)):=kO (kS 24 (kC kI (kC (kP 0 0) (kC kI (kC (kP 1 0) kN)))) (kC (Cod.var 0 29 (kC (kA 19) (kC (kA 20) (kC (kA 21) (kC (kA 22) kN))))) (kC (Cod.var 1 29 (kC (kA 23) (kC (kA 7) (kC (kA 8) (kC (kA 9) kN))))) (kC (kR 2 65 j_lCounter) (kC (kR 3 153 j_lRange) (kC (kR 4 43 j_lLease) (kC (kR 5 3 j_lInt) (kC (kR 7 153 j_lRange) (kC (kR 8 43 j_lLease) (kC (kR 9 3 j_lInt) (kC (kR 19 65 j_lCounter) (kC (kR 20 153 j_lRange) (kC (kR 21 43 j_lLease) (kC (kR 22 3 j_lInt) (kC (kR 23 65 j_lCounter) kN))))))))))))))) (fun p=>(p.1.1,p.1.2.2.1,(Book.mk (t8 p.2).2.1 (t8 p.2).2.2.1 (t8 p.2).2.2.2.1 (t8 p.2).2.2.2.2.1),(Book.mk (t8 p.2).2.2.2.2.2.1 p.2.2.2.2.2.2.2.1 p.2.2.2.2.2.2.2.2.1 (t8 p.2).1),p.2.2.2.1,p.2.2.2.2.1,p.2.2.2.2.2.1,p.2.2.2.2.2.2.1)) (fun (x:Int×Int×Book×Book×(List Counter)×(List Range)×(List Lease)×(List Int))=>((x.1,((),(x.2.1,((),())))),(((),((),((),((),())))),(((),((),((),((),())))),(x.2.2.2.2.1,(x.2.2.2.2.2.1,(x.2.2.2.2.2.2.1,(x.2.2.2.2.2.2.2,(x.2.2.2.1.free,(x.2.2.2.1.leases,(x.2.2.2.1.bound,(x.2.2.1.counters,(x.2.2.1.free,(x.2.2.1.leases,(x.2.2.1.bound,(x.2.2.2.1.counters,())))))))))))))))) (fun _=>rfl)
def sl_L75_5:SFn TL:=SFn.two ch_L75_5.dec (fun p=>L75_5 p.1 p.2.1 p.2.2.1 p.2.2.2.1 p.2.2.2.2.1 p.2.2.2.2.2.1 p.2.2.2.2.2.2) (.exit 0) .ret co0_L75_5.enc co1_L75_5.enc
def cs_lL75_5:cL:=[(120,df_ledger_may),(121,df_ledger_counter)]
def v_L75_5:Env:=envOf tab sl sh [] [(120,.pure),(121,.pure)]
theorem v_L75_5_ok:EnvOK PR (mkD cs_lL75_5 sZ) v_L75_5:=envOK_of base aN (aC (oD ok_ledger_may rfl) (aC (oD ok_ledger_counter rfl) aN))
theorem run_L75_5 (x:tY32):Out.run (mkO cs_lL75_5 sZ) (evRound v_L75_5 12 20 fd75.an q_L75_5 (loopIn (loopsOf fd75.body) 5) (ch_L75_5.enc x)) (back2 ch_L75_5 co0_L75_5 co1_L75_5 (.exit 0) .ret)=stp_L75_5 x:=by kernel_rfl
theorem ok_L75_5:LoopOK PR (oneS sl_L75_5) nt75 q_L75_5 (loopIn (loopsOf fd75.body) 5) :=
  loop_two v_L75_5_ok (loops:=12) (k:=20) (an:=fd75.an) (by kernel_rfl) (FnSt.subl rfl st75.keys (aC (.inl (by kernel_rfl)) aN)) ch_L75_5 co0_L75_5 co1_L75_5 (.exit 0) .ret rfl rfl stp_L75_5 _ run_L75_5 (fun x y h=>⟨_,h⟩) (fun _=>below_iff.1 rfl)
def ledgerNew (l1:List Counter)(i1:Int):Option (Book×Int) :=
 cond (decide ((l1.length:Int) > 4))
 (some ((Book.mk [] [] [] []),4))
 (ob (L75_5 i1 0 l1 (l1.length:Int) 0 (Book.mk [] [] [] []) (Book.mk [] [] [] [])) fun y0 =>
 two y0 (fun a1 =>
 ob (ledger_within a1.1 0 1000) fun r3 =>
 cond (!r3)
 (some ((Book.mk [] [] [] []),1))
 (ob (rangesAdd [] (Range.mk 0 a1.1)) fun r4 =>
 ob (ledgerOwn (Book.mk a1.2.2.2.counters r4 a1.2.2.2.leases a1.2.2.2.bound)) fun y5 =>
 some (y5,0))) (fun b2 =>
 some (b2.2.2.1,b2.2.1)))
def un_ledgerNew (p:(List Counter)×Int):Option (Book×Int):=ledgerNew p.1 p.2
def df_ledgerNew:DFn TL:=DFn.of (DA.cons (DT.one di_lCounter) (DA.one dI)) un_ledgerNew (DA.cons (DT.agg dc_Book) (DA.one dI))
theorem run_ledgerNew:DRun [(122,df_ledger_within),(123,df_rangesAdd)] [(124,sf_ledgerOwn),(175005,sl_L75_5)] (envOf tab sl sh [(75,fd75)] [(122,.pure),(123,.keep),(124,.sum)]) 75 (DA.cons (DT.one di_lCounter) (DA.one dI)) un_ledgerNew (DA.cons (DT.agg dc_Book) (DA.one dI)):=fun _=>by kernel_rfl
theorem ok_ledgerNew:DOK PR 75 .keep df_ledgerNew:=dok run_ledgerNew (envOK_of base (aC (st75.okl rfl (aC (lC ok_L75_5 rfl) aN)) aN) (aC (oD ok_ledger_within rfl) (aC (oD ok_rangesAdd rfl) (aC (okS rfl ok_ledgerOwn) aN)))) (.inl rfl) st75.enters
def deskNew (l1:List Counter)(i1:Int):Option (Desk×Int) :=
 ob (ledgerNew l1 i1) fun r0 =>
 cond (r0.2 != 0)
 (some ((Desk.mk (Book.mk [] [] [] []) (A3Coll.mk (Coll.mk [] [] [] [] [] []) (Coll.mk [] [] [] [] [] []) (Coll.mk [] [] [] [] [] [])) [] (A6Device.mk (Device.mk 0 0 (Reply.mk 0 0 (Lease.mk 0 0 0 0 [] [] []))) (Device.mk 0 0 (Reply.mk 0 0 (Lease.mk 0 0 0 0 [] [] []))) (Device.mk 0 0 (Reply.mk 0 0 (Lease.mk 0 0 0 0 [] [] []))) (Device.mk 0 0 (Reply.mk 0 0 (Lease.mk 0 0 0 0 [] [] []))) (Device.mk 0 0 (Reply.mk 0 0 (Lease.mk 0 0 0 0 [] [] []))) (Device.mk 0 0 (Reply.mk 0 0 (Lease.mk 0 0 0 0 [] [] [])))) [] 0),r0.2))
 (some ((Desk.mk r0.1 (A3Coll.mk (Coll.mk [] [] [] [] [] []) (Coll.mk [] [] [] [] [] []) (Coll.mk [] [] [] [] [] [])) [] (A6Device.mk (Device.mk 0 0 (Reply.mk 0 0 (Lease.mk 0 0 0 0 [] [] []))) (Device.mk 0 0 (Reply.mk 0 0 (Lease.mk 0 0 0 0 [] [] []))) (Device.mk 0 0 (Reply.mk 0 0 (Lease.mk 0 0 0 0 [] [] []))) (Device.mk 0 0 (Reply.mk 0 0 (Lease.mk 0 0 0 0 [] [] []))) (Device.mk 0 0 (Reply.mk 0 0 (Lease.mk 0 0 0 0 [] [] []))) (Device.mk 0 0 (Reply.mk 0 0 (Lease.mk 0 0 0 0 [] [] [])))) [] 0),0))
def un_deskNew (p:(List Counter)×Int):Option (Desk×Int):=deskNew p.1 p.2
def df_deskNew:DFn TL:=DFn.of (DA.cons (DT.one di_lCounter) (DA.one dI)) un_deskNew (DA.cons (DT.agg dc_Desk) (DA.one dI))
theorem run_deskNew:DRun [(75,df_ledgerNew)] [] (envOf tab sl sh [(36,fd36)] [(75,.keep)]) 36 (DA.cons (DT.one di_lCounter) (DA.one dI)) un_deskNew (DA.cons (DT.agg dc_Desk) (DA.one dI)):=fun _=>by kernel_rfl
theorem ok_deskNew:DOK PR 36 .keep df_deskNew:=dok run_deskNew (envOK_of base (aC (st36.okl rfl aN) aN) (aC (oD ok_ledgerNew rfl) aN)) (.inl rfl) st36.enters
def known  : Option Bool :=
 ob (deskNew [] 5) fun r0 =>
 ob (deskDo r0.1 (Cmd.mk 1 2 0 1 0 [] [])) fun r1 =>
 some (cond (r0.2 == 0) (cond (r1.2.err == 0) (cond (r1.2.n == 1) (cond (r1.1.dev.a2.epoch == 1) (r1.1.dev.a2.req == 1) false) false) false) false)
def un_known (_:Unit):Option Bool:=known
def df_known:DFn TL:=DFn.of (DA.nil) un_known (DA.one dB)
theorem run_known:DRun [(36,df_deskNew),(18,df_deskDo)] [] (envOf tab sl sh [(15,fd15)] [(36,.keep),(18,.keep)]) 15 (DA.nil) un_known (DA.one dB):=fun _=>by kernel_rfl
theorem ok_known:DOK PR 15 .pure df_known:=dok run_known (envOK_of base (aC (st15.okl rfl aN) aN) (aC (oD ok_deskNew rfl) (aC (oD ok_deskDo rfl) aN))) (.inr rfl) st15.enters
def within (i1:Int)(i2:Int):Option Int :=
 cond (decide (i2=0))
 none
 (some (cond (decide ((i1.tmod i2) < 0)) (w64 ((i1.tmod i2)+i2)) (i1.tmod i2)))
def un_within (p:Int×Int):Option Int:=within p.1 p.2
def df_within:DFn TL:=DFn.of (DA.cons dI (DA.one dI)) un_within (DA.one dI)
theorem run_within:DRun [] [] (envOf tab sl sh [(16,fd16)] []) 16 (DA.cons dI (DA.one dI)) un_within (DA.one dI):=fun _=>by kernel_rfl
theorem ok_within:DOK PR 16 .pure df_within:=dok run_within (envOK_of base (aC (st16.okl rfl aN) aN) aN) (.inr rfl) st16.enters
abbrev tY33:=(List Range)×(List Range)×(List Range)×Int×Range
def step_L125_5 (l1:List Range)(l2:List Range)(l3:List Range)(i1:Int)(rx1:Range):Option ((tY33)⊕((List Range)×(List Range)×Range)) :=
 cond (decide (i1 < (l1.length:Int)))
 (cond (decide (0≤i1))
 (ob (l1[i1.toNat]?) fun e0 =>
 cond (decide (e0.to_ < rx1.from_))
 (cond (decide (0≤i1))
 (ob (l1[i1.toNat]?) fun e1 =>
 cond (fits ((l2++[e1]).length))
 (some (.inl (l1,(l2++[e1]),l3,(w64 (i1+1)),rx1)))
 none)
 none)
 (cond (decide (0≤i1))
 (ob (l1[i1.toNat]?) fun e2 =>
 cond (decide (e2.from_ > rx1.to_))
 (cond (decide (0≤i1))
 (ob (l1[i1.toNat]?) fun e3 =>
 cond (fits ((l3++[e3]).length))
 (some (.inl (l1,l2,(l3++[e3]),(w64 (i1+1)),rx1)))
 none)
 none)
 (cond (decide (0≤i1))
 (ob (l1[i1.toNat]?) fun e4 =>
 cond (decide (0≤i1))
 (ob (l1[i1.toNat]?) fun e5 =>
 some (.inl (l1,l2,l3,(w64 (i1+1)),(Range.mk (min2 rx1.from_ e4.from_) (max2 rx1.to_ e5.to_)))))
 none)
 none))
 none))
 none)
 (some (.inr (l2,l3,rx1)))
def stp_L125_5 (p:tY33):Option ((tY33)⊕((List Range)×(List Range)×Range)):=step_L125_5 p.1 p.2.1 p.2.2.1 p.2.2.2.1 p.2.2.2.2
def L125_5 (l1:List Range)(l2:List Range)(l3:List Range)(i1:Int)(rx1:Range):Option ((List Range)×(List Range)×Range):=iterO stp_L125_5 (((l1.length:Int) - i1).toNat+2) (l1,l2,l3,i1,rx1)
def ch_L125_5:kT (tY33):=kO (kS 3 (kC (kF j_lRange) (kC (kP 0 0) (kC (Cod.xs (Cod.sc (kA 1))) (kC (Cod.xs (Cod.sc (kA 2))) (kC kI kN))))) (kC (Cod.var 0 153 (kC kJ (kC kJ kN))) (kC (kR 1 153 j_lRange) (kC (kR 2 153 j_lRange) kN)))) (fun p=>(p.1.1,p.2.2.1,p.2.2.2.1,p.1.2.2.2.2.1,(Range.mk p.2.1.1 p.2.1.2.1))) (fun (x:tY33)=>((x.1,((),((),((),(x.2.2.2.1,()))))),((x.2.2.2.2.from_,(x.2.2.2.2.to_,())),(x.2.1,(x.2.2.1,()))))) (fun _=>rfl)
def co0_L125_5:kT ((List Range)×(List Range)×Range):=kO (kS 6 (kC (kP 0 0) (kC (Cod.xs (Cod.sc (kA 4))) (kC (Cod.xs (Cod.sc (kA 5))) kN))) (kC (Cod.var 0 153 (kC kJ (kC kJ kN))) (kC (kR 4 153 j_lRange) (kC (kR 5 153 j_lRange) kN)))) (fun p=>(p.2.2.1,p.2.2.2.1,(Range.mk p.2.1.1 p.2.1.2.1))) (fun (x:(List Range)×(List Range)×Range)=>(((),((),((),()))),((x.2.2.from_,(x.2.2.to_,())),(x.1,(x.2.1,()))))) (fun _=>rfl)
def sl_L125_5:SFn TL:=SFn.one ch_L125_5.dec (fun p=>L125_5 p.1 p.2.1 p.2.2.1 p.2.2.2.1 p.2.2.2.2) (.exit 0) co0_L125_5.enc
def v_L125_5:Env:=envOf tab sl sh [] []
theorem v_L125_5_ok:EnvOK PR (mkD cZ sZ) v_L125_5:=envOK_of base aN aN
theorem run_L125_5 (x:tY33):Out.run (mkO cZ sZ) (evRound v_L125_5 12 20 fd125.an q_L125_5 (loopIn (loopsOf fd125.body) 5) (ch_L125_5.enc x)) (back ch_L125_5 co0_L125_5 fun e=>exE e (.exit 0))=stp_L125_5 x:=by kernel_rfl
theorem ok_L125_5:LoopOK PR (oneS sl_L125_5) nt125 q_L125_5 (loopIn (loopsOf fd125.body) 5) :=
  loop_one v_L125_5_ok (loops:=12) (k:=20) (an:=fd125.an) (by kernel_rfl) (FnSt.subl rfl st125.keys (aC (.inl (by kernel_rfl)) aN)) ch_L125_5 co0_L125_5 (.exit 0) rfl stp_L125_5 _ run_L125_5 (fun x y h=>⟨_,h⟩) (fun _=>below_iff.1 rfl)
def ref11Add (l1:List Range)(rx1:Range):Option ((List Range)) :=
 cond (cond (decide (rx1.from_ < 0)) true (cond (decide (rx1.from_≥rx1.to_)) true (decide (rx1.to_ > 1073741824))))
 (cond (fits (([]++l1).length))
 (some ([]++l1))
 none)
 (ob (L125_5 l1 [] [] 0 rx1) fun y0 =>
 cond (fits ((y0.1++[y0.2.2]).length))
 (cond (fits (((y0.1++[y0.2.2])++y0.2.1).length))
 (some ((y0.1++[y0.2.2])++y0.2.1))
 none)
 none)
def un_ref11Add (p:(List Range)×Range):Option ((List Range)):=ref11Add p.1 p.2
def df_ref11Add:DFn TL:=DFn.of (DA.cons (DT.one di_lRange) (DA.one (DT.agg dc_Range))) un_ref11Add (DA.one (DT.one di_lRange))
theorem run_ref11Add:DRun [] [(225005,sl_L125_5)] (envOf tab sl sh [(125,fd125)] []) 125 (DA.cons (DT.one di_lRange) (DA.one (DT.agg dc_Range))) un_ref11Add (DA.one (DT.one di_lRange)):=fun _=>by kernel_rfl
theorem ok_ref11Add:DOK PR 125 .keep df_ref11Add:=dok run_ref11Add (envOK_of base (aC (st125.okl rfl (aC (lC ok_L125_5 rfl) aN)) aN) aN) (.inl rfl) st125.enters
def step_L73_4 (s1:ByteArray)(b1:Bool)(i1:Int):Option ((ByteArray×Bool×Int)⊕(((Bool)⊕(Bool)))) :=
 cond (decide (i1 < (s1.size:Int)))
 (cond (decide (0≤i1))
 (cond (decide (i1 < (s1.size:Int)))
 (cond (decide (((s1[(i1:Int).toNat]?.getD 0).toNat:Int) < 32))
 (some (.inr (.inr false)))
 (cond (decide (0≤i1))
 (cond (decide (i1 < (s1.size:Int)))
 (cond (((s1[(i1:Int).toNat]?.getD 0).toNat:Int) == 127)
 (some (.inr (.inr false)))
 (some (.inl (s1,b1,(w64 (i1+1))))))
 none)
 none))
 none)
 none)
 (some (.inr (.inl b1)))
def stp_L73_4 (p:ByteArray×Bool×Int):Option ((ByteArray×Bool×Int)⊕(((Bool)⊕(Bool)))):=step_L73_4 p.1 p.2.1 p.2.2
def L73_4 (s1:ByteArray)(b1:Bool)(i1:Int):Option (((Bool)⊕(Bool))):=iterO stp_L73_4 (((s1.size:Int) - i1).toNat+2) (s1,b1,i1)
def ch_L73_4:kT (ByteArray×Bool×Int):=kO (kS 0 (kC (Cod.xs (Cod.sc kE)) (kC kB (kC kI kN))) kN) (fun p=>(p.1.1,p.1.2.1,p.1.2.2.1)) (fun (x:ByteArray×Bool×Int)=>((x.1,(x.2.1,(x.2.2,()))),())) (fun _=>rfl)
def sl_L73_4:SFn TL:=SFn.two ch_L73_4.dec (fun p=>L73_4 p.1 p.2.1 p.2.2) (.exit 0) .ret co0_L187_2.enc co0_L187_2.enc
def v_L73_4:Env:=envOf tab sl sh [] []
theorem v_L73_4_ok:EnvOK PR (mkD cZ sZ) v_L73_4:=envOK_of base aN aN
theorem run_L73_4 (x:ByteArray×Bool×Int):Out.run (mkO cZ sZ) (evRound v_L73_4 12 20 fd73.an q_L73_4 (loopIn (loopsOf fd73.body) 4) (ch_L73_4.enc x)) (back2 ch_L73_4 co0_L187_2 co0_L187_2 (.exit 0) .ret)=stp_L73_4 x:=by kernel_rfl
theorem ok_L73_4:LoopOK PR (oneS sl_L73_4) nt73 q_L73_4 (loopIn (loopsOf fd73.body) 4) :=
  loop_two v_L73_4_ok (loops:=12) (k:=20) (an:=fd73.an) (by kernel_rfl) (FnSt.subl rfl st73.keys (aC (.inl (by kernel_rfl)) aN)) ch_L73_4 co0_L187_2 co0_L187_2 (.exit 0) .ret rfl rfl stp_L73_4 _ run_L73_4 (fun x y h=>⟨_,h⟩) (fun _=>below_iff.1 rfl)
def ref5Text (s1:ByteArray):Option Bool :=
 cond (decide ((s1.size:Int) > 40))
 (some false)
 (ob (L73_4 s1 false 0) fun y0 =>
 two y0 (fun _ =>
 some true) (fun b2 =>
 some b2))
def un_ref5Text (p:ByteArray):Option Bool:=ref5Text p
def df_ref5Text:DFn TL:=DFn.of (DA.one (DT.one DI.str)) un_ref5Text (DA.one dB)
theorem run_ref5Text:DRun [] [(173004,sl_L73_4)] (envOf tab sl sh [(73,fd73)] []) 73 (DA.one (DT.one DI.str)) un_ref5Text (DA.one dB):=fun _=>by kernel_rfl
theorem ok_ref5Text:DOK PR 73 .pure df_ref5Text:=dok run_ref5Text (envOK_of base (aC (st73.okl rfl (aC (lC ok_L73_4 rfl) aN)) aN) aN) (.inr rfl) st73.enters
def ref12_counter (c1:Counter):Option Bool :=
 cond (!sEq c1.key s_empty)
 (ob (ref5Text c1.key) fun r0 =>
 some (cond r0 (cond (decide (c1.coll≥0)) (cond (decide (c1.coll < 3)) (cond (decide ((-1099511627776)≤c1.lo)) (cond (decide (c1.lo≤c1.start)) (cond (decide (c1.start≤c1.hi)) (decide (c1.hi≤1099511627776)) false) false) false) false) false) false))
 (some false)
def un_ref12_counter (p:Counter):Option Bool:=ref12_counter p
def df_ref12_counter:DFn TL:=DFn.of (DA.one (DT.agg dc_Counter)) un_ref12_counter (DA.one dB)
theorem run_ref12_counter:DRun [(73,df_ref5Text)] [] (envOf tab sl sh [(43,fd43)] [(73,.pure)]) 43 (DA.one (DT.agg dc_Counter)) un_ref12_counter (DA.one dB):=fun _=>by kernel_rfl
theorem ok_ref12_counter:DOK PR 43 .pure df_ref12_counter:=dok run_ref12_counter (envOK_of base (aC (st43.okl rfl aN) aN) (aC (oD ok_ref5Text rfl) aN)) (.inr rfl) st43.enters
abbrev tY34:=ByteArray×Int×Int×Book
def step_L44_2 (s1:ByteArray)(i1:Int)(i2:Int)(bx1:Book):Option ((tY34)⊕(((Int×Book)⊕(Int×Book)))) :=
 cond (decide (i2 < (bx1.counters.length:Int)))
 (cond (decide (0≤i2))
 (ob (bx1.counters[i2.toNat]?) fun e0 =>
 cond (sEq e0.key s1)
 (some (.inr (.inr (i2,bx1))))
 (some (.inl (s1,i1,(w64 (i2+1)),bx1))))
 none)
 (some (.inr (.inl (i1,bx1))))
def stp_L44_2 (p:tY34):Option ((tY34)⊕(((Int×Book)⊕(Int×Book)))):=step_L44_2 p.1 p.2.1 p.2.2.1 p.2.2.2
def L44_2 (s1:ByteArray)(i1:Int)(i2:Int)(bx1:Book):Option (((Int×Book)⊕(Int×Book))):=iterO stp_L44_2 (1099511627776) (s1,i1,i2,bx1)
def ch_L44_2:kT (tY34):=kO (kS 1 (kC (Cod.xs (Cod.sc kE)) (kC (kP 0 0) (kC kI (kC kI kN)))) (kC (Cod.var 0 29 cc_Book) kN)) (fun p=>(p.1.1,p.1.2.2.1,p.1.2.2.2.1,p.2.1)) (fun (x:tY34)=>((x.1,((),(x.2.1,(x.2.2.1,())))),(x.2.2.2,()))) (fun _=>rfl)
def co0_L44_2:kT (Int×Book):=kO (kS 2 (kC kI kN) (kC (Cod.var 0 29 cc_Book) kN)) (fun p=>(p.1.1,p.2.1)) (fun (x:Int×Book)=>((x.1,()),(x.2,()))) (fun _=>rfl)
def sl_L44_2:SFn TL:=SFn.two ch_L44_2.dec (fun p=>L44_2 p.1 p.2.1 p.2.2.1 p.2.2.2) (.exit 0) .ret co0_L44_2.enc co0_L44_2.enc
def v_L44_2:Env:=envOf tab sl sh [] []
theorem v_L44_2_ok:EnvOK PR (mkD cZ sZ) v_L44_2:=envOK_of base aN aN
theorem run_L44_2 (x:tY34):Out.run (mkO cZ sZ) (evRound v_L44_2 12 20 fd44.an q_L44_2 (loopIn (loopsOf fd44.body) 2) (ch_L44_2.enc x)) (back2 ch_L44_2 co0_L44_2 co0_L44_2 (.exit 0) .ret)=stp_L44_2 x:=by kernel_rfl
theorem ok_L44_2:LoopOK PR (oneS sl_L44_2) nt44 q_L44_2 (loopIn (loopsOf fd44.body) 2) :=
  loop_two v_L44_2_ok (loops:=12) (k:=20) (an:=fd44.an) (by kernel_rfl) (FnSt.subl rfl st44.keys (aC (.inl (by kernel_rfl)) aN)) ch_L44_2 co0_L44_2 co0_L44_2 (.exit 0) .ret rfl rfl stp_L44_2 _ run_L44_2 (fun x y h=>⟨_,h⟩) (fun _=>below_iff.1 rfl)
def ref12_place (bx1:Book)(s1:ByteArray):Option Int :=
 ob (L44_2 s1 0 0 bx1) fun y0 =>
 two y0 (fun _ =>
 some (-1)) (fun b2 =>
 some b2.1)
def un_ref12_place (p:Book×ByteArray):Option Int:=ref12_place p.1 p.2
def df_ref12_place:DFn TL:=DFn.of (DA.cons (DT.agg dc_Book) (DA.one (DT.one DI.str))) un_ref12_place (DA.one dI)
theorem run_ref12_place:DRun [] [(144002,sl_L44_2)] (envOf tab sl sh [(44,fd44)] []) 44 (DA.cons (DT.agg dc_Book) (DA.one (DT.one DI.str))) un_ref12_place (DA.one dI):=fun _=>by kernel_rfl
theorem ok_ref12_place:DOK PR 44 .pure df_ref12_place:=dok run_ref12_place (envOK_of base (aC (st44.okl rfl (aC (lC ok_L44_2 rfl) aN)) aN) aN) (.inr rfl) st44.enters
abbrev tY35:=(List Counter)×Int×Int×Int×Book×Book
def step_L76_5 (l1:List Counter)(i1:Int)(i2:Int)(i3:Int)(bx1:Book)(bx2:Book):Option ((tY35)⊕(((Int×Int×Book×Book)⊕(Int×Int×Book×Book×(List Counter)×(List Range)×(List Lease)×(List Int))))) :=
 cond (decide (i3 < (l1.length:Int)))
 (cond (decide (0≤i3))
 (ob (l1[i3.toNat]?) fun e0 =>
 ob (ref12_counter e0) fun r1 =>
 cond (!r1)
 (some (.inr (.inr (i1,1,(Book.mk [] [] [] []),bx2,bx1.counters,bx1.free,bx1.leases,bx1.bound))))
 (cond (decide (0≤i3))
 (ob (l1[i3.toNat]?) fun e2 =>
 ob (ref12_place bx2 e2.key) fun r3 =>
 cond (decide (r3≥0))
 (some (.inr (.inr (i1,7,(Book.mk [] [] [] []),bx2,bx1.counters,bx1.free,bx1.leases,bx1.bound))))
 (cond (decide (0≤i3))
 (ob (l1[i3.toNat]?) fun e4 =>
 cond (fits ((bx2.counters++[(Counter.mk e4.key e4.coll e4.lo e4.hi e4.start (w64 (e4.hi - e4.start)) (w64 (e4.start - e4.lo)))]).length))
 (some (.inl (l1,i1,i2,(w64 (i3+1)),bx1,(Book.mk (bx2.counters++[(Counter.mk e4.key e4.coll e4.lo e4.hi e4.start (w64 (e4.hi - e4.start)) (w64 (e4.start - e4.lo)))]) bx2.free bx2.leases bx2.bound))))
 none)
 none))
 none))
 none)
 (some (.inr (.inl (i1,i2,bx1,bx2))))
def stp_L76_5 (p:tY35):Option ((tY35)⊕(((Int×Int×Book×Book)⊕(Int×Int×Book×Book×(List Counter)×(List Range)×(List Lease)×(List Int))))):=step_L76_5 p.1 p.2.1 p.2.2.1 p.2.2.2.1 p.2.2.2.2.1 p.2.2.2.2.2
def L76_5 (l1:List Counter)(i1:Int)(i2:Int)(i3:Int)(bx1:Book)(bx2:Book):Option (((Int×Int×Book×Book)⊕(Int×Int×Book×Book×(List Counter)×(List Range)×(List Lease)×(List Int)))):=iterO stp_L76_5 (((l1.length:Int) - i3).toNat+2) (l1,i1,i2,i3,bx1,bx2)
def ch_L76_5:kT (tY35):=kO (kS 10 (kC (kF j_lCounter) (kC kI (kC (kP 0 0) (kC kI (kC (kP 1 0) (kC kI kN)))))) (kC (Cod.var 0 29 (kC (kA 2) (kC (kA 3) (kC (kA 4) (kC (kA 5) kN))))) (kC (Cod.var 1 29 (kC (kA 6) (kC (kA 7) (kC (kA 8) (kC (kA 9) kN))))) (kC (kR 2 65 j_lCounter) (kC (kR 3 153 j_lRange) (kC (kR 4 43 j_lLease) (kC (kR 5 3 j_lInt) (kC (kR 6 65 j_lCounter) (kC (kR 7 153 j_lRange) (kC (kR 8 43 j_lLease) (kC (kR 9 3 j_lInt) kN))))))))))) (fun p=>(p.1.1,p.1.2.1,p.1.2.2.2.1,p.1.2.2.2.2.2.1,(Book.mk p.2.2.2.1 p.2.2.2.2.1 p.2.2.2.2.2.1 p.2.2.2.2.2.2.1),(Book.mk p.2.2.2.2.2.2.2.1 p.2.2.2.2.2.2.2.2.1 (t8 p.2).1 (t8 p.2).2.1))) (fun (x:tY35)=>((x.1,(x.2.1,((),(x.2.2.1,((),(x.2.2.2.1,())))))),(((),((),((),((),())))),(((),((),((),((),())))),(x.2.2.2.2.1.counters,(x.2.2.2.2.1.free,(x.2.2.2.2.1.leases,(x.2.2.2.2.1.bound,(x.2.2.2.2.2.counters,(x.2.2.2.2.2.free,(x.2.2.2.2.2.leases,(x.2.2.2.2.2.bound,())))))))))))) (fun _=>rfl)
def sl_L76_5:SFn TL:=SFn.two ch_L76_5.dec (fun p=>L76_5 p.1 p.2.1 p.2.2.1 p.2.2.2.1 p.2.2.2.2.1 p.2.2.2.2.2) (.exit 0) .ret co0_L75_5.enc co1_L75_5.enc
def cs_lL76_5:cL:=[(43,df_ref12_counter),(44,df_ref12_place)]
def v_L76_5:Env:=envOf tab sl sh [] [(43,.pure),(44,.pure)]
theorem v_L76_5_ok:EnvOK PR (mkD cs_lL76_5 sZ) v_L76_5:=envOK_of base aN (aC (oD ok_ref12_counter rfl) (aC (oD ok_ref12_place rfl) aN))
theorem run_L76_5 (x:tY35):Out.run (mkO cs_lL76_5 sZ) (evRound v_L76_5 12 20 fd76.an q_L76_5 (loopIn (loopsOf fd76.body) 5) (ch_L76_5.enc x)) (back2 ch_L76_5 co0_L75_5 co1_L75_5 (.exit 0) .ret)=stp_L76_5 x:=by kernel_rfl
theorem ok_L76_5:LoopOK PR (oneS sl_L76_5) nt76 q_L76_5 (loopIn (loopsOf fd76.body) 5) :=
  loop_two v_L76_5_ok (loops:=12) (k:=20) (an:=fd76.an) (by kernel_rfl) (FnSt.subl rfl st76.keys (aC (.inl (by kernel_rfl)) aN)) ch_L76_5 co0_L75_5 co1_L75_5 (.exit 0) .ret rfl rfl stp_L76_5 _ run_L76_5 (fun x y h=>⟨_,h⟩) (fun _=>below_iff.1 rfl)
def ref12New (l1:List Counter)(i1:Int):Option (Book×Int) :=
 cond (decide ((l1.length:Int) > 4))
 (some ((Book.mk [] [] [] []),4))
 (ob (L76_5 l1 i1 0 0 (Book.mk [] [] [] []) (Book.mk [] [] [] [])) fun y0 =>
 two y0 (fun a1 =>
 cond (cond (decide (a1.1 < 0)) true (decide (a1.1 > 1000)))
 (some ((Book.mk [] [] [] []),1))
 (ob (ref11Add [] (Range.mk 0 a1.1)) fun r3 =>
 some ((Book.mk a1.2.2.2.counters r3 a1.2.2.2.leases a1.2.2.2.bound),0))) (fun b2 =>
 some (b2.2.2.1,b2.2.1)))
def un_ref12New (p:(List Counter)×Int):Option (Book×Int):=ref12New p.1 p.2
def df_ref12New:DFn TL:=DFn.of (DA.cons (DT.one di_lCounter) (DA.one dI)) un_ref12New (DA.cons (DT.agg dc_Book) (DA.one dI))
theorem run_ref12New:DRun [(125,df_ref11Add)] [(176005,sl_L76_5)] (envOf tab sl sh [(76,fd76)] [(125,.keep)]) 76 (DA.cons (DT.one di_lCounter) (DA.one dI)) un_ref12New (DA.cons (DT.agg dc_Book) (DA.one dI)):=fun _=>by kernel_rfl
theorem ok_ref12New:DOK PR 76 .keep df_ref12New:=dok run_ref12New (envOK_of base (aC (st76.okl rfl (aC (lC ok_L76_5 rfl) aN)) aN) (aC (oD ok_ref11Add rfl) aN)) (.inl rfl) st76.enters
def l12Begin  : Option Book :=
 ob (ref12New [(Counter.mk s_a 0 0 20 10 0 0),(Counter.mk s_b 1 (-30) 30 0 0 0)] 40) fun r0 =>
 some r0.1
def un_l12Begin (_:Unit):Option Book:=l12Begin
def df_l12Begin:DFn TL:=DFn.of (DA.nil) un_l12Begin (DA.one (DT.agg dc_Book))
theorem run_l12Begin:DRun [(76,df_ref12New)] [] (envOf tab sl sh [(37,fd37)] [(76,.keep)]) 37 (DA.nil) un_l12Begin (DA.one (DT.agg dc_Book)):=fun _=>by kernel_rfl
theorem ok_l12Begin:DOK PR 37 .keep df_l12Begin:=dok run_l12Begin (envOK_of base (aC (st37.okl rfl aN) aN) (aC (oD ok_ref12New rfl) aN)) (.inl rfl) st37.enters
def l13Begin  : Option Desk :=
 ob (l12Begin) fun r0 =>
 some (Desk.mk r0 (A3Coll.mk (Coll.mk [] [] [] [] [] []) (Coll.mk [] [] [] [] [] []) (Coll.mk [] [] [] [] [] [])) [] (A6Device.mk (Device.mk 0 0 (Reply.mk 0 0 (Lease.mk 0 0 0 0 [] [] []))) (Device.mk 0 0 (Reply.mk 0 0 (Lease.mk 0 0 0 0 [] [] []))) (Device.mk 0 0 (Reply.mk 0 0 (Lease.mk 0 0 0 0 [] [] []))) (Device.mk 0 0 (Reply.mk 0 0 (Lease.mk 0 0 0 0 [] [] []))) (Device.mk 0 0 (Reply.mk 0 0 (Lease.mk 0 0 0 0 [] [] []))) (Device.mk 0 0 (Reply.mk 0 0 (Lease.mk 0 0 0 0 [] [] [])))) [] 0)
def un_l13Begin (_:Unit):Option Desk:=l13Begin
def df_l13Begin:DFn TL:=DFn.of (DA.nil) un_l13Begin (DA.one (DT.agg dc_Desk))
theorem run_l13Begin:DRun [(37,df_l12Begin)] [] (envOf tab sl sh [(17,fd17)] [(37,.keep)]) 17 (DA.nil) un_l13Begin (DA.one (DT.agg dc_Desk)):=fun _=>by kernel_rfl
theorem ok_l13Begin:DOK PR 17 .keep df_l13Begin:=dok run_l13Begin (envOK_of base (aC (st17.okl rfl aN) aN) (aC (oD ok_l12Begin rfl) aN)) (.inl rfl) st17.enters
abbrev tY36:=(List Cmd)×Int×Desk×Desk×Reply×Reply
def step_L42_3 (l1:List Cmd)(i1:Int)(d1:Desk)(d2:Desk)(rx1:Reply)(rx2:Reply):Option ((tY36)⊕(Desk×Desk×Reply×Reply)) :=
 cond (decide (i1 < (l1.length:Int)))
 (cond (decide (0≤i1))
 (ob (l1[i1.toNat]?) fun e0 =>
 ob (deskDo d1 e0) fun r1 =>
 some (.inl (l1,(w64 (i1+1)),r1.1,d2,rx1,r1.2)))
 none)
 (some (.inr (d1,d2,rx1,rx2)))
def stp_L42_3 (p:tY36):Option ((tY36)⊕(Desk×Desk×Reply×Reply)):=step_L42_3 p.1 p.2.1 p.2.2.1 p.2.2.2.1 p.2.2.2.2.1 p.2.2.2.2.2
def L42_3 (l1:List Cmd)(i1:Int)(d1:Desk)(d2:Desk)(rx1:Reply)(rx2:Reply):Option (Desk×Desk×Reply×Reply):=iterO stp_L42_3 (((l1.length:Int) - i1).toNat+2) (l1,i1,d1,d2,rx1,rx2)
def ch_L42_3:kT (tY36):=kO (kS 46 (kC (kF j_lCmd) (kC (kP 0 0) (kC (kP 1 0) (kC (kP 2 0) (kC (kP 3 0) (kC kI kN)))))) (kC (Cod.var 0 50 cc_Desk) (kC (Cod.var 1 50 (kC (kA 4) (kC (kA 5) (kC (kA 6) (kC (kA 7) (kC (kA 8) (kC (kA 9) (kC (kA 10) (kC (kA 11) (kC (kA 12) (kC (kA 13) (kC (kA 14) (kC (kA 15) (kC (kA 16) (kC (kA 17) (kC (kA 18) (kC (kA 19) (kC (kA 20) (kC (kA 21) (kC (kA 22) (kC (kA 23) (kC (kA 24) (kC (kA 25) (kC (kA 26) (kC kJ (kC kJ (kC kJ (kC kJ (kC kJ (kC kJ (kC kJ (kC kJ (kC (kA 27) (kC (kA 28) (kC (kA 29) (kC kJ (kC kJ (kC kJ (kC kJ (kC kJ (kC kJ (kC kJ (kC kJ (kC (kA 30) (kC (kA 31) (kC (kA 32) (kC kJ (kC kJ (kC kJ (kC kJ (kC kJ (kC kJ (kC kJ (kC kJ (kC (kA 33) (kC (kA 34) (kC (kA 35) (kC kJ (kC kJ (kC kJ (kC kJ (kC kJ (kC kJ (kC kJ (kC kJ (kC (kA 36) (kC (kA 37) (kC (kA 38) (kC kJ (kC kJ (kC kJ (kC kJ (kC kJ (kC kJ (kC kJ (kC kJ (kC (kA 39) (kC (kA 40) (kC (kA 41) (kC kJ (kC kJ (kC kJ (kC kJ (kC kJ (kC kJ (kC kJ (kC kJ (kC (kA 42) (kC (kA 43) (kC (kA 44) (kC (kA 45) (kC kJ kN)))))))))))))))))))))))))))))))))))))))))))))))))))))))))))))))))))))))))))))))))))))))))))) (kC (Cod.var 2 45 cc_Reply) (kC (Cod.var 3 45 cc_Reply) (kC (kR 4 65 j_lCounter) (kC (kR 5 153 j_lRange) (kC (kR 6 43 j_lLease) (kC (kR 7 3 j_lInt) (kC (kR 8 66 j_lEntry) (kC (kR 9 142 j_lReg) (kC (kR 10 145 j_lElem) (kC (kR 11 59 j_lEntry) (kC (kR 12 129 j_lSum) (kC (kR 13 149 j_lBind) (kC (kR 14 66 j_lEntry) (kC (kR 15 142 j_lReg) (kC (kR 16 145 j_lElem) (kC (kR 17 59 j_lEntry) (kC (kR 18 129 j_lSum) (kC (kR 19 149 j_lBind) (kC (kR 20 66 j_lEntry) (kC (kR 21 142 j_lReg) (kC (kR 22 145 j_lElem) (kC (kR 23 59 j_lEntry) (kC (kR 24 129 j_lSum) (kC (kR 25 149 j_lBind) (kC (kR 26 61 j_lOp) (kC (kR 27 133 j_lSlice) (kC (kR 28 153 j_lRange) (kC (kR 29 3 j_lInt) (kC (kR 30 133 j_lSlice) (kC (kR 31 153 j_lRange) (kC (kR 32 3 j_lInt) (kC (kR 33 133 j_lSlice) (kC (kR 34 153 j_lRange) (kC (kR 35 3 j_lInt) (kC (kR 36 133 j_lSlice) (kC (kR 37 153 j_lRange) (kC (kR 38 3 j_lInt) (kC (kR 39 133 j_lSlice) (kC (kR 40 153 j_lRange) (kC (kR 41 3 j_lInt) (kC (kR 42 133 j_lSlice) (kC (kR 43 153 j_lRange) (kC (kR 44 3 j_lInt) (kC (kR 45 66 j_lEntry) kN))))))))))))))))))))))))))))))))))))))))))))))) (fun p=>(p.1.1,p.1.2.2.2.2.2.1,p.2.1,(Desk.mk (Book.mk p.2.2.2.2.2.1 p.2.2.2.2.2.2.1 p.2.2.2.2.2.2.2.1 p.2.2.2.2.2.2.2.2.1) (A3Coll.mk (Coll.mk (t8 p.2).1 (t8 p.2).2.1 (t8 p.2).2.2.1 (t8 p.2).2.2.2.1 (t8 p.2).2.2.2.2.1 (t8 p.2).2.2.2.2.2.1) (Coll.mk (t8 p.2).2.2.2.2.2.2.1 (t8 p.2).2.2.2.2.2.2.2.1 (t8 (t8 p.2)).1 (t8 (t8 p.2)).2.1 (t8 (t8 p.2)).2.2.1 (t8 (t8 p.2)).2.2.2.1) (Coll.mk (t8 (t8 p.2)).2.2.2.2.1 (t8 (t8 p.2)).2.2.2.2.2.1 (t8 (t8 p.2)).2.2.2.2.2.2.1 (t8 (t8 p.2)).2.2.2.2.2.2.2.1 (t8 (t8 (t8 p.2))).1 (t8 (t8 (t8 p.2))).2.1)) (t8 (t8 (t8 p.2))).2.2.1 (A6Device.mk (Device.mk (t8 (t8 p.2.2.1)).2.2.2.2.2.2.2.1 (t8 (t8 (t8 p.2.2.1))).1 (Reply.mk (t8 (t8 (t8 p.2.2.1))).2.1 (t8 (t8 (t8 p.2.2.1))).2.2.1 (Lease.mk (t8 (t8 (t8 p.2.2.1))).2.2.2.1 (t8 (t8 (t8 p.2.2.1))).2.2.2.2.1 (t8 (t8 (t8 p.2.2.1))).2.2.2.2.2.1 (t8 (t8 (t8 p.2.2.1))).2.2.2.2.2.2.1 (t8 (t8 (t8 p.2))).2.2.2.1 (t8 (t8 (t8 p.2))).2.2.2.2.1 (t8 (t8 (t8 p.2))).2.2.2.2.2.1))) (Device.mk (t32 p.2.2.1).2.2.1 (t32 p.2.2.1).2.2.2.1 (Reply.mk (t32 p.2.2.1).2.2.2.2.1 (t32 p.2.2.1).2.2.2.2.2.1 (Lease.mk (t32 p.2.2.1).2.2.2.2.2.2.1 (t32 p.2.2.1).2.2.2.2.2.2.2.1 (t8 (t32 p.2.2.1)).1 (t8 (t32 p.2.2.1)).2.1 (t8 (t8 (t8 p.2))).2.2.2.2.2.2.1 (t8 (t8 (t8 p.2))).2.2.2.2.2.2.2.1 (t32 p.2).1))) (Device.mk (t8 (t32 p.2.2.1)).2.2.2.2.2.1 (t8 (t32 p.2.2.1)).2.2.2.2.2.2.1 (Reply.mk (t8 (t32 p.2.2.1)).2.2.2.2.2.2.2.1 (t8 (t8 (t32 p.2.2.1))).1 (Lease.mk (t8 (t8 (t32 p.2.2.1))).2.1 (t8 (t8 (t32 p.2.2.1))).2.2.1 (t8 (t8 (t32 p.2.2.1))).2.2.2.1 (t8 (t8 (t32 p.2.2.1))).2.2.2.2.1 (t32 p.2).2.1 (t32 p.2).2.2.1 (t32 p.2).2.2.2.1))) (Device.mk (t8 (t8 (t8 (t32 p.2.2.1)))).1 (t8 (t8 (t8 (t32 p.2.2.1)))).2.1 (Reply.mk (t8 (t8 (t8 (t32 p.2.2.1)))).2.2.1 (t8 (t8 (t8 (t32 p.2.2.1)))).2.2.2.1 (Lease.mk (t8 (t8 (t8 (t32 p.2.2.1)))).2.2.2.2.1 (t8 (t8 (t8 (t32 p.2.2.1)))).2.2.2.2.2.1 (t8 (t8 (t8 (t32 p.2.2.1)))).2.2.2.2.2.2.1 (t8 (t8 (t8 (t32 p.2.2.1)))).2.2.2.2.2.2.2.1 (t32 p.2).2.2.2.2.1 (t32 p.2).2.2.2.2.2.1 (t32 p.2).2.2.2.2.2.2.1))) (Device.mk (t32 (t32 p.2.2.1)).2.2.2.1 (t32 (t32 p.2.2.1)).2.2.2.2.1 (Reply.mk (t32 (t32 p.2.2.1)).2.2.2.2.2.1 (t32 (t32 p.2.2.1)).2.2.2.2.2.2.1 (Lease.mk (t32 (t32 p.2.2.1)).2.2.2.2.2.2.2.1 (t8 (t32 (t32 p.2.2.1))).1 (t8 (t32 (t32 p.2.2.1))).2.1 (t8 (t32 (t32 p.2.2.1))).2.2.1 (t32 p.2).2.2.2.2.2.2.2.1 (t8 (t32 p.2)).1 (t8 (t32 p.2)).2.1))) (Device.mk (t8 (t32 (t32 p.2.2.1))).2.2.2.2.2.2.1 (t8 (t32 (t32 p.2.2.1))).2.2.2.2.2.2.2.1 (Reply.mk (t8 (t8 (t32 (t32 p.2.2.1)))).1 (t8 (t8 (t32 (t32 p.2.2.1)))).2.1 (Lease.mk (t8 (t8 (t32 (t32 p.2.2.1)))).2.2.1 (t8 (t8 (t32 (t32 p.2.2.1)))).2.2.2.1 (t8 (t8 (t32 (t32 p.2.2.1)))).2.2.2.2.1 (t8 (t8 (t32 (t32 p.2.2.1)))).2.2.2.2.2.1 (t8 (t32 p.2)).2.2.1 (t8 (t32 p.2)).2.2.2.1 (t8 (t32 p.2)).2.2.2.2.1)))) (t8 (t32 p.2)).2.2.2.2.2.1 (t8 (t8 (t8 (t32 (t32 p.2.2.1))))).2.2.1),p.2.2.2.1,p.2.2.2.2.1)) (fun (x:tY36)=>((x.1,((),((),((),((),(x.2.1,())))))),(x.2.2.1,(((),((),((),((),((),((),((),((),((),((),((),((),((),((),((),((),((),((),((),((),((),((),((),(x.2.2.2.1.dev.a0.epoch,(x.2.2.2.1.dev.a0.req,(x.2.2.2.1.dev.a0.reply.err,(x.2.2.2.1.dev.a0.reply.n,(x.2.2.2.1.dev.a0.reply.lease.device,(x.2.2.2.1.dev.a0.reply.lease.epoch,(x.2.2.2.1.dev.a0.reply.lease.until_,(x.2.2.2.1.dev.a0.reply.lease.last,((),((),((),(x.2.2.2.1.dev.a1.epoch,(x.2.2.2.1.dev.a1.req,(x.2.2.2.1.dev.a1.reply.err,(x.2.2.2.1.dev.a1.reply.n,(x.2.2.2.1.dev.a1.reply.lease.device,(x.2.2.2.1.dev.a1.reply.lease.epoch,(x.2.2.2.1.dev.a1.reply.lease.until_,(x.2.2.2.1.dev.a1.reply.lease.last,((),((),((),(x.2.2.2.1.dev.a2.epoch,(x.2.2.2.1.dev.a2.req,(x.2.2.2.1.dev.a2.reply.err,(x.2.2.2.1.dev.a2.reply.n,(x.2.2.2.1.dev.a2.reply.lease.device,(x.2.2.2.1.dev.a2.reply.lease.epoch,(x.2.2.2.1.dev.a2.reply.lease.until_,(x.2.2.2.1.dev.a2.reply.lease.last,((),((),((),(x.2.2.2.1.dev.a3.epoch,(x.2.2.2.1.dev.a3.req,(x.2.2.2.1.dev.a3.reply.err,(x.2.2.2.1.dev.a3.reply.n,(x.2.2.2.1.dev.a3.reply.lease.device,(x.2.2.2.1.dev.a3.reply.lease.epoch,(x.2.2.2.1.dev.a3.reply.lease.until_,(x.2.2.2.1.dev.a3.reply.lease.last,((),((),((),(x.2.2.2.1.dev.a4.epoch,(x.2.2.2.1.dev.a4.req,(x.2.2.2.1.dev.a4.reply.err,(x.2.2.2.1.dev.a4.reply.n,(x.2.2.2.1.dev.a4.reply.lease.device,(x.2.2.2.1.dev.a4.reply.lease.epoch,(x.2.2.2.1.dev.a4.reply.lease.until_,(x.2.2.2.1.dev.a4.reply.lease.last,((),((),((),(x.2.2.2.1.dev.a5.epoch,(x.2.2.2.1.dev.a5.req,(x.2.2.2.1.dev.a5.reply.err,(x.2.2.2.1.dev.a5.reply.n,(x.2.2.2.1.dev.a5.reply.lease.device,(x.2.2.2.1.dev.a5.reply.lease.epoch,(x.2.2.2.1.dev.a5.reply.lease.until_,(x.2.2.2.1.dev.a5.reply.lease.last,((),((),((),((),(x.2.2.2.1.now,()))))))))))))))))))))))))))))))))))))))))))))))))))))))))))))))))))))))))))))))))))))))))))),(x.2.2.2.2.1,(x.2.2.2.2.2,(x.2.2.2.1.book.counters,(x.2.2.2.1.book.free,(x.2.2.2.1.book.leases,(x.2.2.2.1.book.bound,(x.2.2.2.1.colls.a0.v,(x.2.2.2.1.colls.a0.regs,(x.2.2.2.1.colls.a0.elems,(x.2.2.2.1.colls.a0.gone,(x.2.2.2.1.colls.a0.sums,(x.2.2.2.1.colls.a0.binds,(x.2.2.2.1.colls.a1.v,(x.2.2.2.1.colls.a1.regs,(x.2.2.2.1.colls.a1.elems,(x.2.2.2.1.colls.a1.gone,(x.2.2.2.1.colls.a1.sums,(x.2.2.2.1.colls.a1.binds,(x.2.2.2.1.colls.a2.v,(x.2.2.2.1.colls.a2.regs,(x.2.2.2.1.colls.a2.elems,(x.2.2.2.1.colls.a2.gone,(x.2.2.2.1.colls.a2.sums,(x.2.2.2.1.colls.a2.binds,(x.2.2.2.1.log,(x.2.2.2.1.dev.a0.reply.lease.slices,(x.2.2.2.1.dev.a0.reply.lease.ids,(x.2.2.2.1.dev.a0.reply.lease.used,(x.2.2.2.1.dev.a1.reply.lease.slices,(x.2.2.2.1.dev.a1.reply.lease.ids,(x.2.2.2.1.dev.a1.reply.lease.used,(x.2.2.2.1.dev.a2.reply.lease.slices,(x.2.2.2.1.dev.a2.reply.lease.ids,(x.2.2.2.1.dev.a2.reply.lease.used,(x.2.2.2.1.dev.a3.reply.lease.slices,(x.2.2.2.1.dev.a3.reply.lease.ids,(x.2.2.2.1.dev.a3.reply.lease.used,(x.2.2.2.1.dev.a4.reply.lease.slices,(x.2.2.2.1.dev.a4.reply.lease.ids,(x.2.2.2.1.dev.a4.reply.lease.used,(x.2.2.2.1.dev.a5.reply.lease.slices,(x.2.2.2.1.dev.a5.reply.lease.ids,(x.2.2.2.1.dev.a5.reply.lease.used,(x.2.2.2.1.lost,())))))))))))))))))))))))))))))))))))))))))))))))) (fun _=>rfl)
def co0_L42_3:kT (Desk×Desk×Reply×Reply):=kO (kS 92 (kC (kP 0 0) (kC (kP 1 0) (kC (kP 2 0) (kC (kP 3 0) kN)))) (kC (Cod.var 0 50 cc_Desk) (kC (Cod.var 1 50 (kC (kA 4) (kC (kA 5) (kC (kA 6) (kC (kA 7) (kC (kA 8) (kC (kA 9) (kC (kA 10) (kC (kA 11) (kC (kA 12) (kC (kA 13) (kC (kA 14) (kC (kA 15) (kC (kA 16) (kC (kA 17) (kC (kA 18) (kC (kA 19) (kC (kA 20) (kC (kA 21) (kC (kA 22) (kC (kA 23) (kC (kA 24) (kC (kA 25) (kC (kA 26) (kC kJ (kC kJ (kC kJ (kC kJ (kC kJ (kC kJ (kC kJ (kC kJ (kC (kA 27) (kC (kA 28) (kC (kA 29) (kC kJ (kC kJ (kC kJ (kC kJ (kC kJ (kC kJ (kC kJ (kC kJ (kC (kA 30) (kC (kA 31) (kC (kA 32) (kC kJ (kC kJ (kC kJ (kC kJ (kC kJ (kC kJ (kC kJ (kC kJ (kC (kA 33) (kC (kA 34) (kC (kA 35) (kC kJ (kC kJ (kC kJ (kC kJ (kC kJ (kC kJ (kC kJ (kC kJ (kC (kA 36) (kC (kA 37) (kC (kA 38) (kC kJ (kC kJ (kC kJ (kC kJ (kC kJ (kC kJ (kC kJ (kC kJ (kC (kA 39) (kC (kA 40) (kC (kA 41) (kC kJ (kC kJ (kC kJ (kC kJ (kC kJ (kC kJ (kC kJ (kC kJ (kC (kA 42) (kC (kA 43) (kC (kA 44) (kC (kA 45) (kC kJ kN)))))))))))))))))))))))))))))))))))))))))))))))))))))))))))))))))))))))))))))))))))))))))))) (kC (Cod.var 2 45 cc_Reply) (kC (Cod.var 3 45 cc_Reply) (kC (kR 4 65 j_lCounter) (kC (kR 5 153 j_lRange) (kC (kR 6 43 j_lLease) (kC (kR 7 3 j_lInt) (kC (kR 8 66 j_lEntry) (kC (kR 9 142 j_lReg) (kC (kR 10 145 j_lElem) (kC (kR 11 59 j_lEntry) (kC (kR 12 129 j_lSum) (kC (kR 13 149 j_lBind) (kC (kR 14 66 j_lEntry) (kC (kR 15 142 j_lReg) (kC (kR 16 145 j_lElem) (kC (kR 17 59 j_lEntry) (kC (kR 18 129 j_lSum) (kC (kR 19 149 j_lBind) (kC (kR 20 66 j_lEntry) (kC (kR 21 142 j_lReg) (kC (kR 22 145 j_lElem) (kC (kR 23 59 j_lEntry) (kC (kR 24 129 j_lSum) (kC (kR 25 149 j_lBind) (kC (kR 26 61 j_lOp) (kC (kR 27 133 j_lSlice) (kC (kR 28 153 j_lRange) (kC (kR 29 3 j_lInt) (kC (kR 30 133 j_lSlice) (kC (kR 31 153 j_lRange) (kC (kR 32 3 j_lInt) (kC (kR 33 133 j_lSlice) (kC (kR 34 153 j_lRange) (kC (kR 35 3 j_lInt) (kC (kR 36 133 j_lSlice) (kC (kR 37 153 j_lRange) (kC (kR 38 3 j_lInt) (kC (kR 39 133 j_lSlice) (kC (kR 40 153 j_lRange) (kC (kR 41 3 j_lInt) (kC (kR 42 133 j_lSlice) (kC (kR 43 153 j_lRange) (kC (kR 44 3 j_lInt) (kC (kR 45 66 j_lEntry) kN))))))))))))))))))))))))))))))))))))))))))))))) (fun p=>(p.2.1,(Desk.mk (Book.mk p.2.2.2.2.2.1 p.2.2.2.2.2.2.1 p.2.2.2.2.2.2.2.1 p.2.2.2.2.2.2.2.2.1) (A3Coll.mk (Coll.mk (t8 p.2).1 (t8 p.2).2.1 (t8 p.2).2.2.1 (t8 p.2).2.2.2.1 (t8 p.2).2.2.2.2.1 (t8 p.2).2.2.2.2.2.1) (Coll.mk (t8 p.2).2.2.2.2.2.2.1 (t8 p.2).2.2.2.2.2.2.2.1 (t8 (t8 p.2)).1 (t8 (t8 p.2)).2.1 (t8 (t8 p.2)).2.2.1 (t8 (t8 p.2)).2.2.2.1) (Coll.mk (t8 (t8 p.2)).2.2.2.2.1 (t8 (t8 p.2)).2.2.2.2.2.1 (t8 (t8 p.2)).2.2.2.2.2.2.1 (t8 (t8 p.2)).2.2.2.2.2.2.2.1 (t8 (t8 (t8 p.2))).1 (t8 (t8 (t8 p.2))).2.1)) (t8 (t8 (t8 p.2))).2.2.1 (A6Device.mk (Device.mk (t8 (t8 p.2.2.1)).2.2.2.2.2.2.2.1 (t8 (t8 (t8 p.2.2.1))).1 (Reply.mk (t8 (t8 (t8 p.2.2.1))).2.1 (t8 (t8 (t8 p.2.2.1))).2.2.1 (Lease.mk (t8 (t8 (t8 p.2.2.1))).2.2.2.1 (t8 (t8 (t8 p.2.2.1))).2.2.2.2.1 (t8 (t8 (t8 p.2.2.1))).2.2.2.2.2.1 (t8 (t8 (t8 p.2.2.1))).2.2.2.2.2.2.1 (t8 (t8 (t8 p.2))).2.2.2.1 (t8 (t8 (t8 p.2))).2.2.2.2.1 (t8 (t8 (t8 p.2))).2.2.2.2.2.1))) (Device.mk (t32 p.2.2.1).2.2.1 (t32 p.2.2.1).2.2.2.1 (Reply.mk (t32 p.2.2.1).2.2.2.2.1 (t32 p.2.2.1).2.2.2.2.2.1 (Lease.mk (t32 p.2.2.1).2.2.2.2.2.2.1 (t32 p.2.2.1).2.2.2.2.2.2.2.1 (t8 (t32 p.2.2.1)).1 (t8 (t32 p.2.2.1)).2.1 (t8 (t8 (t8 p.2))).2.2.2.2.2.2.1 (t8 (t8 (t8 p.2))).2.2.2.2.2.2.2.1 (t32 p.2).1))) (Device.mk (t8 (t32 p.2.2.1)).2.2.2.2.2.1 (t8 (t32 p.2.2.1)).2.2.2.2.2.2.1 (Reply.mk (t8 (t32 p.2.2.1)).2.2.2.2.2.2.2.1 (t8 (t8 (t32 p.2.2.1))).1 (Lease.mk (t8 (t8 (t32 p.2.2.1))).2.1 (t8 (t8 (t32 p.2.2.1))).2.2.1 (t8 (t8 (t32 p.2.2.1))).2.2.2.1 (t8 (t8 (t32 p.2.2.1))).2.2.2.2.1 (t32 p.2).2.1 (t32 p.2).2.2.1 (t32 p.2).2.2.2.1))) (Device.mk (t8 (t8 (t8 (t32 p.2.2.1)))).1 (t8 (t8 (t8 (t32 p.2.2.1)))).2.1 (Reply.mk (t8 (t8 (t8 (t32 p.2.2.1)))).2.2.1 (t8 (t8 (t8 (t32 p.2.2.1)))).2.2.2.1 (Lease.mk (t8 (t8 (t8 (t32 p.2.2.1)))).2.2.2.2.1 (t8 (t8 (t8 (t32 p.2.2.1)))).2.2.2.2.2.1 (t8 (t8 (t8 (t32 p.2.2.1)))).2.2.2.2.2.2.1 (t8 (t8 (t8 (t32 p.2.2.1)))).2.2.2.2.2.2.2.1 (t32 p.2).2.2.2.2.1 (t32 p.2).2.2.2.2.2.1 (t32 p.2).2.2.2.2.2.2.1))) (Device.mk (t32 (t32 p.2.2.1)).2.2.2.1 (t32 (t32 p.2.2.1)).2.2.2.2.1 (Reply.mk (t32 (t32 p.2.2.1)).2.2.2.2.2.1 (t32 (t32 p.2.2.1)).2.2.2.2.2.2.1 (Lease.mk (t32 (t32 p.2.2.1)).2.2.2.2.2.2.2.1 (t8 (t32 (t32 p.2.2.1))).1 (t8 (t32 (t32 p.2.2.1))).2.1 (t8 (t32 (t32 p.2.2.1))).2.2.1 (t32 p.2).2.2.2.2.2.2.2.1 (t8 (t32 p.2)).1 (t8 (t32 p.2)).2.1))) (Device.mk (t8 (t32 (t32 p.2.2.1))).2.2.2.2.2.2.1 (t8 (t32 (t32 p.2.2.1))).2.2.2.2.2.2.2.1 (Reply.mk (t8 (t8 (t32 (t32 p.2.2.1)))).1 (t8 (t8 (t32 (t32 p.2.2.1)))).2.1 (Lease.mk (t8 (t8 (t32 (t32 p.2.2.1)))).2.2.1 (t8 (t8 (t32 (t32 p.2.2.1)))).2.2.2.1 (t8 (t8 (t32 (t32 p.2.2.1)))).2.2.2.2.1 (t8 (t8 (t32 (t32 p.2.2.1)))).2.2.2.2.2.1 (t8 (t32 p.2)).2.2.1 (t8 (t32 p.2)).2.2.2.1 (t8 (t32 p.2)).2.2.2.2.1)))) (t8 (t32 p.2)).2.2.2.2.2.1 (t8 (t8 (t8 (t32 (t32 p.2.2.1))))).2.2.1),p.2.2.2.1,p.2.2.2.2.1)) (fun (x:Desk×Desk×Reply×Reply)=>(((),((),((),((),())))),(x.1,(((),((),((),((),((),((),((),((),((),((),((),((),((),((),((),((),((),((),((),((),((),((),((),(x.2.1.dev.a0.epoch,(x.2.1.dev.a0.req,(x.2.1.dev.a0.reply.err,(x.2.1.dev.a0.reply.n,(x.2.1.dev.a0.reply.lease.device,(x.2.1.dev.a0.reply.lease.epoch,(x.2.1.dev.a0.reply.lease.until_,(x.2.1.dev.a0.reply.lease.last,((),((),((),(x.2.1.dev.a1.epoch,(x.2.1.dev.a1.req,(x.2.1.dev.a1.reply.err,(x.2.1.dev.a1.reply.n,(x.2.1.dev.a1.reply.lease.device,(x.2.1.dev.a1.reply.lease.epoch,(x.2.1.dev.a1.reply.lease.until_,(x.2.1.dev.a1.reply.lease.last,((),((),((),(x.2.1.dev.a2.epoch,(x.2.1.dev.a2.req,(x.2.1.dev.a2.reply.err,(x.2.1.dev.a2.reply.n,(x.2.1.dev.a2.reply.lease.device,(x.2.1.dev.a2.reply.lease.epoch,(x.2.1.dev.a2.reply.lease.until_,(x.2.1.dev.a2.reply.lease.last,((),((),((),(x.2.1.dev.a3.epoch,(x.2.1.dev.a3.req,(x.2.1.dev.a3.reply.err,(x.2.1.dev.a3.reply.n,(x.2.1.dev.a3.reply.lease.device,(x.2.1.dev.a3.reply.lease.epoch,(x.2.1.dev.a3.reply.lease.until_,(x.2.1.dev.a3.reply.lease.last,((),((),((),(x.2.1.dev.a4.epoch,(x.2.1.dev.a4.req,(x.2.1.dev.a4.reply.err,(x.2.1.dev.a4.reply.n,(x.2.1.dev.a4.reply.lease.device,(x.2.1.dev.a4.reply.lease.epoch,(x.2.1.dev.a4.reply.lease.until_,(x.2.1.dev.a4.reply.lease.last,((),((),((),(x.2.1.dev.a5.epoch,(x.2.1.dev.a5.req,(x.2.1.dev.a5.reply.err,(x.2.1.dev.a5.reply.n,(x.2.1.dev.a5.reply.lease.device,(x.2.1.dev.a5.reply.lease.epoch,(x.2.1.dev.a5.reply.lease.until_,(x.2.1.dev.a5.reply.lease.last,((),((),((),((),(x.2.1.now,()))))))))))))))))))))))))))))))))))))))))))))))))))))))))))))))))))))))))))))))))))))))))))),(x.2.2.1,(x.2.2.2,(x.2.1.book.counters,(x.2.1.book.free,(x.2.1.book.leases,(x.2.1.book.bound,(x.2.1.colls.a0.v,(x.2.1.colls.a0.regs,(x.2.1.colls.a0.elems,(x.2.1.colls.a0.gone,(x.2.1.colls.a0.sums,(x.2.1.colls.a0.binds,(x.2.1.colls.a1.v,(x.2.1.colls.a1.regs,(x.2.1.colls.a1.elems,(x.2.1.colls.a1.gone,(x.2.1.colls.a1.sums,(x.2.1.colls.a1.binds,(x.2.1.colls.a2.v,(x.2.1.colls.a2.regs,(x.2.1.colls.a2.elems,(x.2.1.colls.a2.gone,(x.2.1.colls.a2.sums,(x.2.1.colls.a2.binds,(x.2.1.log,(x.2.1.dev.a0.reply.lease.slices,(x.2.1.dev.a0.reply.lease.ids,(x.2.1.dev.a0.reply.lease.used,(x.2.1.dev.a1.reply.lease.slices,(x.2.1.dev.a1.reply.lease.ids,(x.2.1.dev.a1.reply.lease.used,(x.2.1.dev.a2.reply.lease.slices,(x.2.1.dev.a2.reply.lease.ids,(x.2.1.dev.a2.reply.lease.used,(x.2.1.dev.a3.reply.lease.slices,(x.2.1.dev.a3.reply.lease.ids,(x.2.1.dev.a3.reply.lease.used,(x.2.1.dev.a4.reply.lease.slices,(x.2.1.dev.a4.reply.lease.ids,(x.2.1.dev.a4.reply.lease.used,(x.2.1.dev.a5.reply.lease.slices,(x.2.1.dev.a5.reply.lease.ids,(x.2.1.dev.a5.reply.lease.used,(x.2.1.lost,())))))))))))))))))))))))))))))))))))))))))))))))) (fun _=>rfl)
def sl_L42_3:SFn TL:=SFn.one ch_L42_3.dec (fun p=>L42_3 p.1 p.2.1 p.2.2.1 p.2.2.2.1 p.2.2.2.2.1 p.2.2.2.2.2) (.exit 0) co0_L42_3.enc
def cs_lL42_3:cL:=[(18,df_deskDo)]
def v_L42_3:Env:=envOf tab sl sh [] [(18,.keep)]
theorem v_L42_3_ok:EnvOK PR (mkD cs_lL42_3 sZ) v_L42_3:=envOK_of base aN (aC (oD ok_deskDo rfl) aN)
theorem run_L42_3 (x:tY36):Out.run (mkO cs_lL42_3 sZ) (evRound v_L42_3 12 20 fd42.an q_L42_3 (loopIn (loopsOf fd42.body) 3) (ch_L42_3.enc x)) (back ch_L42_3 co0_L42_3 fun e=>exE e (.exit 0))=stp_L42_3 x:=by kernel_rfl
theorem ok_L42_3:LoopOK PR (oneS sl_L42_3) nt42 q_L42_3 (loopIn (loopsOf fd42.body) 3) :=
  loop_one v_L42_3_ok (loops:=12) (k:=20) (an:=fd42.an) (by kernel_rfl) (FnSt.subl rfl st42.keys (aC (.inl (by kernel_rfl)) aN)) ch_L42_3 co0_L42_3 (.exit 0) rfl stp_L42_3 _ run_L42_3 (fun x y h=>⟨_,h⟩) (fun _=>below_iff.1 rfl)
def l13_do (d1:Desk)(l1:List Cmd):Option (Desk×Reply) :=
 ob (L42_3 l1 0 d1 (Desk.mk (Book.mk [] [] [] []) (A3Coll.mk (Coll.mk [] [] [] [] [] []) (Coll.mk [] [] [] [] [] []) (Coll.mk [] [] [] [] [] [])) [] (A6Device.mk (Device.mk 0 0 (Reply.mk 0 0 (Lease.mk 0 0 0 0 [] [] []))) (Device.mk 0 0 (Reply.mk 0 0 (Lease.mk 0 0 0 0 [] [] []))) (Device.mk 0 0 (Reply.mk 0 0 (Lease.mk 0 0 0 0 [] [] []))) (Device.mk 0 0 (Reply.mk 0 0 (Lease.mk 0 0 0 0 [] [] []))) (Device.mk 0 0 (Reply.mk 0 0 (Lease.mk 0 0 0 0 [] [] []))) (Device.mk 0 0 (Reply.mk 0 0 (Lease.mk 0 0 0 0 [] [] [])))) [] 0) (Reply.mk 0 0 (Lease.mk 0 0 0 0 [] [] [])) (Reply.mk 0 0 (Lease.mk 0 0 0 0 [] [] []))) fun y0 =>
 some (y0.1,y0.2.2.2)
def un_l13_do (p:Desk×(List Cmd)):Option (Desk×Reply):=l13_do p.1 p.2
def df_l13_do:DFn TL:=DFn.of (DA.cons (DT.agg dc_Desk) (DA.one (DT.one di_lCmd))) un_l13_do (DA.cons (DT.agg dc_Desk) (DA.one (DT.agg dc_Reply)))
theorem run_l13_do:DRun [] [(142003,sl_L42_3)] (envOf tab sl sh [(42,fd42)] []) 42 (DA.cons (DT.agg dc_Desk) (DA.one (DT.one di_lCmd))) un_l13_do (DA.cons (DT.agg dc_Desk) (DA.one (DT.agg dc_Reply))):=fun _=>by kernel_rfl
theorem ok_l13_do:DOK PR 42 .keep df_l13_do:=dok run_l13_do (envOK_of base (aC (st42.okl rfl (aC (lC ok_L42_3 rfl) aN)) aN) aN) (.inl rfl) st42.enters
def begun  : Option Desk :=
 ob (l13Begin) fun r0 =>
 ob (l13_do r0 [(Cmd.mk 1 0 0 1 0 [] []),(Cmd.mk 2 0 1 2 20 [(Want.mk s_a 4 3 5)] [])]) fun r1 =>
 some r1.1
def un_begun (_:Unit):Option Desk:=begun
def df_begun:DFn TL:=DFn.of (DA.nil) un_begun (DA.one (DT.agg dc_Desk))
theorem run_begun:DRun [(17,df_l13Begin),(42,df_l13_do)] [] (envOf tab sl sh [(20,fd20)] [(17,.keep),(42,.keep)]) 20 (DA.nil) un_begun (DA.one (DT.agg dc_Desk)):=fun _=>by kernel_rfl
theorem ok_begun:DOK PR 20 .keep df_begun:=dok run_begun (envOK_of base (aC (st20.okl rfl aN) aN) (aC (oD ok_l13Begin rfl) (aC (oD ok_l13_do rfl) aN))) (.inl rfl) st20.enters
def l13_step (i1:Int)(i2:Int)(i3:Int):Option Op :=
 some (Op.mk (Entry.mk 0 1 i1) 0 3 i2 s_a s_t i3 0 [])
def un_l13_step (p:Int×Int×Int):Option Op:=l13_step p.1 p.2.1 p.2.2
def df_l13_step:DFn TL:=DFn.of (DA.cons dI (DA.cons dI (DA.one dI))) un_l13_step (DA.one (DT.agg dc_Op))
theorem run_l13_step:DRun [] [] (envOf tab sl sh [(19,fd19)] []) 19 (DA.cons dI (DA.cons dI (DA.one dI))) un_l13_step (DA.one (DT.agg dc_Op)):=fun _=>by kernel_rfl
theorem ok_l13_step:DOK PR 19 .keep df_l13_step:=dok run_l13_step (envOK_of base (aC (st19.okl rfl aN) aN) aN) (.inl rfl) st19.enters
abbrev tY37:=(List Range)×Bool×Int
def step_L46_2 (l1:List Range)(b1:Bool)(i1:Int):Option ((tY37)⊕(((Bool)⊕(Bool)))) :=
 cond (decide (i1 < (l1.length:Int)))
 (cond (decide (0≤i1))
 (ob (l1[i1.toNat]?) fun e0 =>
 cond (decide (e0.from_ < 0))
 (some (.inr (.inr false)))
 (cond (decide (0≤i1))
 (ob (l1[i1.toNat]?) fun e1 =>
 cond (decide (0≤i1))
 (ob (l1[i1.toNat]?) fun e2 =>
 cond (decide (e1.from_≥e2.to_))
 (some (.inr (.inr false)))
 (cond (decide (0≤i1))
 (ob (l1[i1.toNat]?) fun e3 =>
 cond (decide (e3.to_ > 1073741824))
 (some (.inr (.inr false)))
 (cond (decide (i1 > 0))
 (cond (decide (0≤(w64 (i1 - 1))))
 (ob (l1[((w64 (i1 - 1))).toNat]?) fun e4 =>
 cond (decide (0≤i1))
 (ob (l1[i1.toNat]?) fun e5 =>
 cond (decide (e4.to_≥e5.from_))
 (some (.inr (.inr false)))
 (some (.inl (l1,b1,(w64 (i1+1))))))
 none)
 none)
 (some (.inl (l1,b1,(w64 (i1+1)))))))
 none))
 none)
 none))
 none)
 (some (.inr (.inl b1)))
def stp_L46_2 (p:tY37):Option ((tY37)⊕(((Bool)⊕(Bool)))):=step_L46_2 p.1 p.2.1 p.2.2
def L46_2 (l1:List Range)(b1:Bool)(i1:Int):Option (((Bool)⊕(Bool))):=iterO stp_L46_2 (((l1.length:Int) - i1).toNat+2) (l1,b1,i1)
def ch_L46_2:kT (tY37):=kO (kS 0 (kC (kF j_lRange) (kC kB (kC kI kN))) kN) (fun p=>(p.1.1,p.1.2.1,p.1.2.2.1)) (fun (x:tY37)=>((x.1,(x.2.1,(x.2.2,()))),())) (fun _=>rfl)
def sl_L46_2:SFn TL:=SFn.two ch_L46_2.dec (fun p=>L46_2 p.1 p.2.1 p.2.2) (.exit 0) .ret co0_L187_2.enc co0_L187_2.enc
def v_L46_2:Env:=envOf tab sl sh [] []
theorem v_L46_2_ok:EnvOK PR (mkD cZ sZ) v_L46_2:=envOK_of base aN aN
theorem run_L46_2 (x:tY37):Out.run (mkO cZ sZ) (evRound v_L46_2 12 20 fd46.an q_L46_2 (loopIn (loopsOf fd46.body) 2) (ch_L46_2.enc x)) (back2 ch_L46_2 co0_L187_2 co0_L187_2 (.exit 0) .ret)=stp_L46_2 x:=by kernel_rfl
theorem ok_L46_2:LoopOK PR (oneS sl_L46_2) nt46 q_L46_2 (loopIn (loopsOf fd46.body) 2) :=
  loop_two v_L46_2_ok (loops:=12) (k:=20) (an:=fd46.an) (by kernel_rfl) (FnSt.subl rfl st46.keys (aC (.inl (by kernel_rfl)) aN)) ch_L46_2 co0_L187_2 co0_L187_2 (.exit 0) .ret rfl rfl stp_L46_2 _ run_L46_2 (fun x y h=>⟨_,h⟩) (fun _=>below_iff.1 rfl)
def ref11Row (l1:List Range):Option Bool :=
 ob (L46_2 l1 false 0) fun y0 =>
 two y0 (fun _ =>
 some true) (fun b2 =>
 some b2)
def un_ref11Row (p:(List Range)):Option Bool:=ref11Row p
def df_ref11Row:DFn TL:=DFn.of (DA.one (DT.one di_lRange)) un_ref11Row (DA.one dB)
theorem run_ref11Row:DRun [] [(146002,sl_L46_2)] (envOf tab sl sh [(46,fd46)] []) 46 (DA.one (DT.one di_lRange)) un_ref11Row (DA.one dB):=fun _=>by kernel_rfl
theorem ok_ref11Row:DOK PR 46 .pure df_ref11Row:=dok run_ref11Row (envOK_of base (aC (st46.okl rfl (aC (lC ok_L46_2 rfl) aN)) aN) aN) (.inr rfl) st46.enters
def step_L47_2 (l1:List Int)(b1:Bool)(i1:Int):Option (((List Int)×Bool×Int)⊕(((Bool)⊕(Bool)))) :=
 cond (decide (i1 < (l1.length:Int)))
 (cond (decide (0≤(w64 (i1 - 1))))
 (ob (l1[((w64 (i1 - 1))).toNat]?) fun e0 =>
 cond (decide (0≤i1))
 (ob (l1[i1.toNat]?) fun e1 =>
 cond (decide (e0≥e1))
 (some (.inr (.inr false)))
 (some (.inl (l1,b1,(w64 (i1+1))))))
 none)
 none)
 (some (.inr (.inl b1)))
def stp_L47_2 (p:(List Int)×Bool×Int):Option (((List Int)×Bool×Int)⊕(((Bool)⊕(Bool)))):=step_L47_2 p.1 p.2.1 p.2.2
def L47_2 (l1:List Int)(b1:Bool)(i1:Int):Option (((Bool)⊕(Bool))):=iterO stp_L47_2 (((l1.length:Int) - i1).toNat+2) (l1,b1,i1)
def ch_L47_2:kT ((List Int)×Bool×Int):=kO (kS 0 (kC (kF j_lInt) (kC kB (kC kI kN))) kN) (fun p=>(p.1.1,p.1.2.1,p.1.2.2.1)) (fun (x:(List Int)×Bool×Int)=>((x.1,(x.2.1,(x.2.2,()))),())) (fun _=>rfl)
def sl_L47_2:SFn TL:=SFn.two ch_L47_2.dec (fun p=>L47_2 p.1 p.2.1 p.2.2) (.exit 0) .ret co0_L187_2.enc co0_L187_2.enc
def v_L47_2:Env:=envOf tab sl sh [] []
theorem v_L47_2_ok:EnvOK PR (mkD cZ sZ) v_L47_2:=envOK_of base aN aN
theorem run_L47_2 (x:(List Int)×Bool×Int):Out.run (mkO cZ sZ) (evRound v_L47_2 12 20 fd47.an q_L47_2 (loopIn (loopsOf fd47.body) 2) (ch_L47_2.enc x)) (back2 ch_L47_2 co0_L187_2 co0_L187_2 (.exit 0) .ret)=stp_L47_2 x:=by kernel_rfl
theorem ok_L47_2:LoopOK PR (oneS sl_L47_2) nt47 q_L47_2 (loopIn (loopsOf fd47.body) 2) :=
  loop_two v_L47_2_ok (loops:=12) (k:=20) (an:=fd47.an) (by kernel_rfl) (FnSt.subl rfl st47.keys (aC (.inl (by kernel_rfl)) aN)) ch_L47_2 co0_L187_2 co0_L187_2 (.exit 0) .ret rfl rfl stp_L47_2 _ run_L47_2 (fun x y h=>⟨_,h⟩) (fun _=>below_iff.1 rfl)
def ref12_rises (l1:List Int):Option Bool :=
 ob (L47_2 l1 false 1) fun y0 =>
 two y0 (fun _ =>
 some true) (fun b2 =>
 some b2)
def un_ref12_rises (p:(List Int)):Option Bool:=ref12_rises p
def df_ref12_rises:DFn TL:=DFn.of (DA.one (DT.one di_lInt)) un_ref12_rises (DA.one dB)
theorem run_ref12_rises:DRun [] [(147002,sl_L47_2)] (envOf tab sl sh [(47,fd47)] []) 47 (DA.one (DT.one di_lInt)) un_ref12_rises (DA.one dB):=fun _=>by kernel_rfl
theorem ok_ref12_rises:DOK PR 47 .pure df_ref12_rises:=dok run_ref12_rises (envOK_of base (aC (st47.okl rfl (aC (lC ok_L47_2 rfl) aN)) aN) aN) (.inr rfl) st47.enters
abbrev tY38:=Bool×(List (List Range))×Int×Book
def step_L48_4 (b1:Bool)(l1:List (List Range))(i1:Int)(bx1:Book):Option ((tY38)⊕(Bool×(List (List Range))×Book)) :=
 cond (decide (i1 < (bx1.leases.length:Int)))
 (cond (decide (0≤i1))
 (ob (bx1.leases[i1.toNat]?) fun e0 =>
 cond (fits ((l1++[e0.ids]).length))
 (some (.inl (b1,(l1++[e0.ids]),(w64 (i1+1)),bx1)))
 none)
 none)
 (some (.inr (b1,l1,bx1)))
def stp_L48_4 (p:tY38):Option ((tY38)⊕(Bool×(List (List Range))×Book)):=step_L48_4 p.1 p.2.1 p.2.2.1 p.2.2.2
def L48_4 (b1:Bool)(l1:List (List Range))(i1:Int)(bx1:Book):Option (Bool×(List (List Range))×Book):=iterO stp_L48_4 (1099511627776) (b1,l1,i1,bx1)
def ch_L48_4:kT (tY38):=kO (kS 2 (kC (kP 0 0) (kC kB (kC (Cod.xs (Cod.sc (kA 1))) (kC kI kN)))) (kC (Cod.var 0 29 cc_Book) (kC (kR 1 25 j_lLRange) kN))) (fun p=>(p.1.2.1,p.2.2.1,p.1.2.2.2.1,p.2.1)) (fun (x:tY38)=>(((),(x.1,((),(x.2.2.1,())))),(x.2.2.2,(x.2.1,())))) (fun _=>rfl)
def co0_L48_4:kT (Bool×(List (List Range))×Book):=kO (kS 4 (kC (kP 0 0) (kC kB (kC (Cod.xs (Cod.sc (kA 3))) kN))) (kC (Cod.var 0 29 cc_Book) (kC (kR 3 25 j_lLRange) kN))) (fun p=>(p.1.2.1,p.2.2.1,p.2.1)) (fun (x:Bool×(List (List Range))×Book)=>(((),(x.1,((),()))),(x.2.2,(x.2.1,())))) (fun _=>rfl)
def sl_L48_4:SFn TL:=SFn.one ch_L48_4.dec (fun p=>L48_4 p.1 p.2.1 p.2.2.1 p.2.2.2) (.exit 0) co0_L48_4.enc
def v_L48_4:Env:=envOf tab sl sh [] []
theorem v_L48_4_ok:EnvOK PR (mkD cZ sZ) v_L48_4:=envOK_of base aN aN
theorem run_L48_4 (x:tY38):Out.run (mkO cZ sZ) (evRound v_L48_4 12 20 fd48.an q_L48_4 (loopIn (loopsOf fd48.body) 4) (ch_L48_4.enc x)) (back ch_L48_4 co0_L48_4 fun e=>exE e (.exit 0))=stp_L48_4 x:=by kernel_rfl
theorem ok_L48_4:LoopOK PR (oneS sl_L48_4) nt48 q_L48_4 (loopIn (loopsOf fd48.body) 4) :=
  loop_one v_L48_4_ok (loops:=12) (k:=20) (an:=fd48.an) (by kernel_rfl) (FnSt.subl rfl st48.keys (aC (.inl (by kernel_rfl)) (aC (.inl (by kernel_rfl)) (aC (.inl (by kernel_rfl)) (aC (.inl (by kernel_rfl)) aN))))) ch_L48_4 co0_L48_4 (.exit 0) rfl stp_L48_4 _ run_L48_4 (fun x y h=>⟨_,h⟩) (fun _=>below_iff.1 rfl)
abbrev tY39:=(List Range)×(List Range)×Bool×Int×Int
def step_L95_5 (l1:List Range)(l2:List Range)(b1:Bool)(i1:Int)(i2:Int):Option ((tY39)⊕((((List Range)×(List Range)×Bool×Int)⊕((List Range)×(List Range)×Bool×Int)))) :=
 cond (decide (i2 < (l2.length:Int)))
 (cond (decide (0≤i1))
 (ob (l1[i1.toNat]?) fun e0 =>
 cond (decide (0≤i2))
 (ob (l2[i2.toNat]?) fun e1 =>
 cond (decide (e0.from_ < e1.to_))
 (cond (decide (0≤i2))
 (ob (l2[i2.toNat]?) fun e2 =>
 cond (decide (0≤i1))
 (ob (l1[i1.toNat]?) fun e3 =>
 cond (decide (e2.from_ < e3.to_))
 (some (.inr (.inr (l1,l2,true,i1))))
 (some (.inl (l1,l2,b1,i1,(w64 (i2+1))))))
 none)
 none)
 (some (.inl (l1,l2,b1,i1,(w64 (i2+1))))))
 none)
 none)
 (some (.inr (.inl (l1,l2,b1,i1))))
def stp_L95_5 (p:tY39):Option ((tY39)⊕((((List Range)×(List Range)×Bool×Int)⊕((List Range)×(List Range)×Bool×Int)))):=step_L95_5 p.1 p.2.1 p.2.2.1 p.2.2.2.1 p.2.2.2.2
def L95_5 (l1:List Range)(l2:List Range)(b1:Bool)(i1:Int)(i2:Int):Option ((((List Range)×(List Range)×Bool×Int)⊕((List Range)×(List Range)×Bool×Int))):=iterO stp_L95_5 (((l2.length:Int) - i2).toNat+2) (l1,l2,b1,i1,i2)
def ch_L95_5:kT (tY39):=kO (kS 0 (kC (kF j_lRange) (kC (kF j_lRange) (kC kB (kC kI (kC kI kN))))) kN) (fun ((z0,z1,z2,z3,z4,_),_)=>(z0,z1,z2,z3,z4)) (fun (x:tY39)=>((x.1,(x.2.1,(x.2.2.1,(x.2.2.2.1,(x.2.2.2.2,()))))),())) (fun _=>rfl)
def co0_L95_5:kT ((List Range)×(List Range)×Bool×Int):=kO (kS 0 (kC (kF j_lRange) (kC (kF j_lRange) (kC kB (kC kI kN)))) kN) (fun ((z0,z1,z2,z3,_),_)=>(z0,z1,z2,z3)) (fun (x:(List Range)×(List Range)×Bool×Int)=>((x.1,(x.2.1,(x.2.2.1,(x.2.2.2,())))),())) (fun _=>rfl)
def sl_L95_5:SFn TL:=SFn.two ch_L95_5.dec (fun p=>L95_5 p.1 p.2.1 p.2.2.1 p.2.2.2.1 p.2.2.2.2) (.exit 2) .ret co0_L95_5.enc co0_L95_5.enc
def v_L95_5:Env:=envOf tab sl sh [] []
theorem v_L95_5_ok:EnvOK PR (mkD cZ sZ) v_L95_5:=envOK_of base aN aN
theorem run_L95_5 (x:tY39):Out.run (mkO cZ sZ) (evRound v_L95_5 12 20 fd95.an q_L95_5 (loopIn (loopsOf fd95.body) 5) (ch_L95_5.enc x)) (back2 ch_L95_5 co0_L95_5 co0_L95_5 (.exit 2) .ret)=stp_L95_5 x:=by kernel_rfl
theorem ok_L95_5:LoopOK PR (oneS sl_L95_5) nt95 q_L95_5 (loopIn (loopsOf fd95.body) 5) :=
  loop_two v_L95_5_ok (loops:=12) (k:=20) (an:=fd95.an) (by kernel_rfl) (FnSt.subl rfl st95.keys (aC (.inl (by kernel_rfl)) (aC (.inl (by kernel_rfl)) aN))) ch_L95_5 co0_L95_5 co0_L95_5 (.exit 2) .ret rfl rfl stp_L95_5 _ run_L95_5 (fun x y h=>⟨_,h⟩) (fun _=>below_iff.1 rfl)
def step_L95_2 (l1:List Range)(l2:List Range)(b1:Bool)(i1:Int):Option (((List Range)×(List Range)×Bool×Int)⊕(((Bool)⊕(Bool)))) :=
 cond (decide (i1 < (l1.length:Int)))
 (ob (L95_5 l1 l2 b1 i1 0) fun y0 =>
 two y0 (fun a1 =>
 some (.inl (a1.1,a1.2.1,a1.2.2.1,(w64 (a1.2.2.2+1))))) (fun b2 =>
 some (.inr (.inr b2.2.2.1))))
 (some (.inr (.inl b1)))
def stp_L95_2 (p:(List Range)×(List Range)×Bool×Int):Option (((List Range)×(List Range)×Bool×Int)⊕(((Bool)⊕(Bool)))):=step_L95_2 p.1 p.2.1 p.2.2.1 p.2.2.2
def L95_2 (l1:List Range)(l2:List Range)(b1:Bool)(i1:Int):Option (((Bool)⊕(Bool))):=iterO stp_L95_2 (((l1.length:Int) - i1).toNat+2) (l1,l2,b1,i1)
def sl_L95_2:SFn TL:=SFn.two co0_L95_5.dec (fun p=>L95_2 p.1 p.2.1 p.2.2.1 p.2.2.2) (.exit 0) .ret co0_L187_2.enc co0_L187_2.enc
def ss_lL95_2:sL:=[(195005,sl_L95_5)]
def v_L95_2:Env:=envOf tab sl sh [] []
theorem v_L95_2_ok:EnvOK PR (mkD cZ ss_lL95_2) v_L95_2:=envOK_of base aN aN
theorem run_L95_2 (x:(List Range)×(List Range)×Bool×Int):Out.run (mkO cZ ss_lL95_2) (evRound v_L95_2 12 20 fd95.an q_L95_2 (loopIn (loopsOf fd95.body) 2) (co0_L95_5.enc x)) (back2 co0_L95_5 co0_L187_2 co0_L187_2 (.exit 0) .ret)=stp_L95_2 x:=by kernel_rfl
theorem ok_L95_2:LoopOK PR (oneS sl_L95_2) nt95 q_L95_2 (loopIn (loopsOf fd95.body) 2) :=
  loop_two v_L95_2_ok (loops:=12) (k:=20) (an:=fd95.an) (by kernel_rfl) (FnSt.subl rfl st95.keys (aC (.inl (by kernel_rfl)) (aC (.inr (lC ok_L95_5 rfl)) aN))) co0_L95_5 co0_L187_2 co0_L187_2 (.exit 0) .ret rfl rfl stp_L95_2 _ run_L95_2 (fun x y h=>⟨_,h⟩) (fun _=>below_iff.1 rfl)
def ref12_meet (l1:List Range)(l2:List Range):Option Bool :=
 ob (L95_2 l1 l2 false 0) fun y0 =>
 two y0 (fun _ =>
 some false) (fun b2 =>
 some b2)
def un_ref12_meet (p:(List Range)×(List Range)):Option Bool:=ref12_meet p.1 p.2
def df_ref12_meet:DFn TL:=DFn.of (DA.cons (DT.one di_lRange) (DA.one (DT.one di_lRange))) un_ref12_meet (DA.one dB)
theorem run_ref12_meet:DRun [] [(195002,sl_L95_2),(195005,sl_L95_5)] (envOf tab sl sh [(95,fd95)] []) 95 (DA.cons (DT.one di_lRange) (DA.one (DT.one di_lRange))) un_ref12_meet (DA.one dB):=fun _=>by kernel_rfl
theorem ok_ref12_meet:DOK PR 95 .pure df_ref12_meet:=dok run_ref12_meet (envOK_of base (aC (st95.okl rfl (aC (lC ok_L95_2 rfl) (aC (lC ok_L95_5 rfl) aN))) aN) aN) (.inr rfl) st95.enters
abbrev tY40:=Bool×(List (List Range))×Int×Int×Book
def step_L48_11 (b1:Bool)(l1:List (List Range))(i1:Int)(i2:Int)(bx1:Book):Option ((tY40)⊕(((tY38)⊕(tY38)))) :=
 cond (decide (i2 < i1))
 (cond (decide (0≤i1))
 (cond (decide (i1 < (l1.length:Int)))
 (ob (l1[i1.toNat]?) fun e0 =>
 cond (decide (0≤i2))
 (cond (decide (i2 < (l1.length:Int)))
 (ob (l1[i2.toNat]?) fun e1 =>
 ob (ref12_meet e0 e1) fun r2 =>
 cond (r2)
 (some (.inr (.inr (false,l1,i1,bx1))))
 (some (.inl (b1,l1,i1,(w64 (i2+1)),bx1))))
 none)
 none)
 none)
 none)
 (some (.inr (.inl (b1,l1,i1,bx1))))
def stp_L48_11 (p:tY40):Option ((tY40)⊕(((tY38)⊕(tY38)))):=step_L48_11 p.1 p.2.1 p.2.2.1 p.2.2.2.1 p.2.2.2.2
def L48_11 (b1:Bool)(l1:List (List Range))(i1:Int)(i2:Int)(bx1:Book):Option (((tY38)⊕(tY38))):=iterO stp_L48_11 ((i1 - i2).toNat+2) (b1,l1,i1,i2,bx1)
def ch_L48_11:kT (tY40):=kO (kS 2 (kC (kP 0 0) (kC kB (kC (Cod.xs (Cod.sc (kA 1))) (kC kI (kC kI kN))))) (kC (Cod.var 0 29 cc_Book) (kC (kR 1 25 j_lLRange) kN))) (fun p=>(p.1.2.1,p.2.2.1,p.1.2.2.2.1,p.1.2.2.2.2.1,p.2.1)) (fun (x:tY40)=>(((),(x.1,((),(x.2.2.1,(x.2.2.2.1,()))))),(x.2.2.2.2,(x.2.1,())))) (fun _=>rfl)
def co0_L48_11:kT (tY38):=kO (kS 4 (kC (kP 0 0) (kC kB (kC (Cod.xs (Cod.sc (kA 1))) (kC kI kN)))) (kC (Cod.var 0 29 cc_Book) (kC (kR 1 25 j_lLRange) kN))) (fun p=>(p.1.2.1,p.2.2.1,p.1.2.2.2.1,p.2.1)) (fun (x:tY38)=>(((),(x.1,((),(x.2.2.1,())))),(x.2.2.2,(x.2.1,())))) (fun _=>rfl)
def sl_L48_11:SFn TL:=SFn.two ch_L48_11.dec (fun p=>L48_11 p.1 p.2.1 p.2.2.1 p.2.2.2.1 p.2.2.2.2) (.exit 4) .ret co0_L48_11.enc co0_L48_11.enc
def cs_lL48_11:cL:=[(95,df_ref12_meet)]
def v_L48_11:Env:=envOf tab sl sh [] [(95,.pure)]
theorem v_L48_11_ok:EnvOK PR (mkD cs_lL48_11 sZ) v_L48_11:=envOK_of base aN (aC (oD ok_ref12_meet rfl) aN)
theorem run_L48_11 (x:tY40):Out.run (mkO cs_lL48_11 sZ) (evRound v_L48_11 12 20 fd48.an q_L48_11 (loopIn (loopsOf fd48.body) 11) (ch_L48_11.enc x)) (back2 ch_L48_11 co0_L48_11 co0_L48_11 (.exit 4) .ret)=stp_L48_11 x:=by kernel_rfl
theorem ok_L48_11:LoopOK PR (oneS sl_L48_11) nt48 q_L48_11 (loopIn (loopsOf fd48.body) 11) :=
  loop_two v_L48_11_ok (loops:=12) (k:=20) (an:=fd48.an) (by kernel_rfl) (FnSt.subl rfl st48.keys (aC (.inl (by kernel_rfl)) (aC (.inl (by kernel_rfl)) (aC (.inl (by kernel_rfl)) (aC (.inl (by kernel_rfl)) aN))))) ch_L48_11 co0_L48_11 co0_L48_11 (.exit 4) .ret rfl rfl stp_L48_11 _ run_L48_11 (fun x y h=>⟨_,h⟩) (fun _=>below_iff.1 rfl)
abbrev tY41:=(List Range)×Int×Bool×Int
def step_L94_2 (l1:List Range)(i1:Int)(b1:Bool)(i2:Int):Option ((tY41)⊕(((Bool)⊕(Bool)))) :=
 cond (decide (i2 < (l1.length:Int)))
 (cond (decide (0≤i2))
 (ob (l1[i2.toNat]?) fun e0 =>
 cond (decide (e0.from_≤i1))
 (cond (decide (0≤i2))
 (ob (l1[i2.toNat]?) fun e1 =>
 cond (decide (i1 < e1.to_))
 (some (.inr (.inr true)))
 (some (.inl (l1,i1,b1,(w64 (i2+1))))))
 none)
 (some (.inl (l1,i1,b1,(w64 (i2+1))))))
 none)
 (some (.inr (.inl b1)))
def stp_L94_2 (p:tY41):Option ((tY41)⊕(((Bool)⊕(Bool)))):=step_L94_2 p.1 p.2.1 p.2.2.1 p.2.2.2
def L94_2 (l1:List Range)(i1:Int)(b1:Bool)(i2:Int):Option (((Bool)⊕(Bool))):=iterO stp_L94_2 (((l1.length:Int) - i2).toNat+2) (l1,i1,b1,i2)
def ch_L94_2:kT (tY41):=kO (kS 0 (kC (kF j_lRange) (kC kI (kC kB (kC kI kN)))) kN) (fun ((z0,z1,z2,z3,_),_)=>(z0,z1,z2,z3)) (fun (x:tY41)=>((x.1,(x.2.1,(x.2.2.1,(x.2.2.2,())))),())) (fun _=>rfl)
def sl_L94_2:SFn TL:=SFn.two ch_L94_2.dec (fun p=>L94_2 p.1 p.2.1 p.2.2.1 p.2.2.2) (.exit 0) .ret co0_L187_2.enc co0_L187_2.enc
def v_L94_2:Env:=envOf tab sl sh [] []
theorem v_L94_2_ok:EnvOK PR (mkD cZ sZ) v_L94_2:=envOK_of base aN aN
theorem run_L94_2 (x:tY41):Out.run (mkO cZ sZ) (evRound v_L94_2 12 20 fd94.an q_L94_2 (loopIn (loopsOf fd94.body) 2) (ch_L94_2.enc x)) (back2 ch_L94_2 co0_L187_2 co0_L187_2 (.exit 0) .ret)=stp_L94_2 x:=by kernel_rfl
theorem ok_L94_2:LoopOK PR (oneS sl_L94_2) nt94 q_L94_2 (loopIn (loopsOf fd94.body) 2) :=
  loop_two v_L94_2_ok (loops:=12) (k:=20) (an:=fd94.an) (by kernel_rfl) (FnSt.subl rfl st94.keys (aC (.inl (by kernel_rfl)) aN)) ch_L94_2 co0_L187_2 co0_L187_2 (.exit 0) .ret rfl rfl stp_L94_2 _ run_L94_2 (fun x y h=>⟨_,h⟩) (fun _=>below_iff.1 rfl)
def ref11Has (l1:List Range)(i1:Int):Option Bool :=
 ob (L94_2 l1 i1 false 0) fun y0 =>
 two y0 (fun _ =>
 some false) (fun b2 =>
 some b2)
def un_ref11Has (p:(List Range)×Int):Option Bool:=ref11Has p.1 p.2
def df_ref11Has:DFn TL:=DFn.of (DA.cons (DT.one di_lRange) (DA.one dI)) un_ref11Has (DA.one dB)
theorem run_ref11Has:DRun [] [(194002,sl_L94_2)] (envOf tab sl sh [(94,fd94)] []) 94 (DA.cons (DT.one di_lRange) (DA.one dI)) un_ref11Has (DA.one dB):=fun _=>by kernel_rfl
theorem ok_ref11Has:DOK PR 94 .pure df_ref11Has:=dok run_ref11Has (envOK_of base (aC (st94.okl rfl (aC (lC ok_L94_2 rfl) aN)) aN) aN) (.inr rfl) st94.enters
def step_L48_16 (b1:Bool)(l1:List (List Range))(i1:Int)(i2:Int)(bx1:Book):Option ((tY40)⊕(((tY38)⊕(tY38)))) :=
 cond (decide (i2 < (bx1.bound.length:Int)))
 (cond (decide (0≤i1))
 (cond (decide (i1 < (l1.length:Int)))
 (ob (l1[i1.toNat]?) fun e0 =>
 cond (decide (0≤i2))
 (ob (bx1.bound[i2.toNat]?) fun e1 =>
 ob (ref11Has e0 e1) fun r2 =>
 cond (r2)
 (some (.inr (.inr (false,l1,i1,bx1))))
 (some (.inl (b1,l1,i1,(w64 (i2+1)),bx1))))
 none)
 none)
 none)
 (some (.inr (.inl (b1,l1,i1,bx1))))
def stp_L48_16 (p:tY40):Option ((tY40)⊕(((tY38)⊕(tY38)))):=step_L48_16 p.1 p.2.1 p.2.2.1 p.2.2.2.1 p.2.2.2.2
def L48_16 (b1:Bool)(l1:List (List Range))(i1:Int)(i2:Int)(bx1:Book):Option (((tY38)⊕(tY38))):=iterO stp_L48_16 (1099511627776) (b1,l1,i1,i2,bx1)
def sl_L48_16:SFn TL:=SFn.two ch_L48_11.dec (fun p=>L48_16 p.1 p.2.1 p.2.2.1 p.2.2.2.1 p.2.2.2.2) (.exit 6) .ret co0_L48_11.enc co0_L48_11.enc
def cs_lL48_16:cL:=[(94,df_ref11Has)]
def v_L48_16:Env:=envOf tab sl sh [] [(94,.pure)]
theorem v_L48_16_ok:EnvOK PR (mkD cs_lL48_16 sZ) v_L48_16:=envOK_of base aN (aC (oD ok_ref11Has rfl) aN)
theorem run_L48_16 (x:tY40):Out.run (mkO cs_lL48_16 sZ) (evRound v_L48_16 12 20 fd48.an q_L48_16 (loopIn (loopsOf fd48.body) 16) (ch_L48_11.enc x)) (back2 ch_L48_11 co0_L48_11 co0_L48_11 (.exit 6) .ret)=stp_L48_16 x:=by kernel_rfl
theorem ok_L48_16:LoopOK PR (oneS sl_L48_16) nt48 q_L48_16 (loopIn (loopsOf fd48.body) 16) :=
  loop_two v_L48_16_ok (loops:=12) (k:=20) (an:=fd48.an) (by kernel_rfl) (FnSt.subl rfl st48.keys (aC (.inl (by kernel_rfl)) (aC (.inl (by kernel_rfl)) (aC (.inl (by kernel_rfl)) (aC (.inl (by kernel_rfl)) aN))))) ch_L48_11 co0_L48_11 co0_L48_11 (.exit 6) .ret rfl rfl stp_L48_16 _ run_L48_16 (fun x y h=>⟨_,h⟩) (fun _=>below_iff.1 rfl)
def step_L48_8 (b1:Bool)(l1:List (List Range))(i1:Int)(bx1:Book):Option ((tY38)⊕(((Bool×Book×(List (List Range)))⊕(Bool×Book×(List (List Range)))))) :=
 cond (decide (i1 < (l1.length:Int)))
 (ob (L48_11 b1 l1 i1 0 bx1) fun y0 =>
 two y0 (fun a1 =>
 ob (L48_16 a1.1 a1.2.1 a1.2.2.1 0 a1.2.2.2) fun y3 =>
 two y3 (fun a4 =>
 some (.inl (a4.1,a4.2.1,(w64 (a4.2.2.1+1)),a4.2.2.2))) (fun b5 =>
 some (.inr (.inr (b5.1,b5.2.2.2,b5.2.1))))) (fun b2 =>
 some (.inr (.inr (b2.1,b2.2.2.2,b2.2.1)))))
 (some (.inr (.inl (b1,bx1,l1))))
def stp_L48_8 (p:tY38):Option ((tY38)⊕(((Bool×Book×(List (List Range)))⊕(Bool×Book×(List (List Range)))))):=step_L48_8 p.1 p.2.1 p.2.2.1 p.2.2.2
def L48_8 (b1:Bool)(l1:List (List Range))(i1:Int)(bx1:Book):Option (((Bool×Book×(List (List Range)))⊕(Bool×Book×(List (List Range))))):=iterO stp_L48_8 (((l1.length:Int) - i1).toNat+2) (b1,l1,i1,bx1)
def co0_L48_8:kT (Bool×Book×(List (List Range))):=kO (kS 4 (kC kB kN) (kC (Cod.var 0 29 cc_Book) (kC (kR 1 25 j_lLRange) kN))) (fun p=>(p.1.1,p.2.1,p.2.2.1)) (fun (x:Bool×Book×(List (List Range)))=>((x.1,()),(x.2.1,(x.2.2,())))) (fun _=>rfl)
def sl_L48_8:SFn TL:=SFn.two ch_L48_4.dec (fun p=>L48_8 p.1 p.2.1 p.2.2.1 p.2.2.2) (.exit 2) .ret co0_L48_8.enc co0_L48_8.enc
def ss_lL48_8:sL:=[(148011,sl_L48_11),(148016,sl_L48_16)]
def v_L48_8:Env:=envOf tab sl sh [] []
theorem v_L48_8_ok:EnvOK PR (mkD cZ ss_lL48_8) v_L48_8:=envOK_of base aN aN
theorem run_L48_8 (x:tY38):Out.run (mkO cZ ss_lL48_8) (evRound v_L48_8 12 20 fd48.an q_L48_8 (loopIn (loopsOf fd48.body) 8) (ch_L48_4.enc x)) (back2 ch_L48_4 co0_L48_8 co0_L48_8 (.exit 2) .ret)=stp_L48_8 x:=by kernel_rfl
theorem ok_L48_8:LoopOK PR (oneS sl_L48_8) nt48 q_L48_8 (loopIn (loopsOf fd48.body) 8) :=
  loop_two v_L48_8_ok (loops:=12) (k:=20) (an:=fd48.an) (by kernel_rfl) (FnSt.subl rfl st48.keys (aC (.inl (by kernel_rfl)) (aC (.inl (by kernel_rfl)) (aC (.inr (lC ok_L48_11 rfl)) (aC (.inr (lC ok_L48_16 rfl)) aN))))) ch_L48_4 co0_L48_8 co0_L48_8 (.exit 2) .ret rfl rfl stp_L48_8 _ run_L48_8 (fun x y h=>⟨_,h⟩) (fun _=>below_iff.1 rfl)
def ref12_apart (bx1:Book):Option Bool :=
 cond (fits (([]++[bx1.free]).length))
 (ob (L48_4 false ([]++[bx1.free]) 0 bx1) fun y0 =>
 ob (L48_8 y0.1 y0.2.1 0 y0.2.2) fun y1 =>
 two y1 (fun _ =>
 some true) (fun b3 =>
 some b3.1))
 none
def un_ref12_apart (p:Book):Option Bool:=ref12_apart p
def df_ref12_apart:DFn TL:=DFn.of (DA.one (DT.agg dc_Book)) un_ref12_apart (DA.one dB)
theorem run_ref12_apart:DRun [] [(148004,sl_L48_4),(148008,sl_L48_8),(148011,sl_L48_11),(148016,sl_L48_16)] (envOf tab sl sh [(48,fd48)] []) 48 (DA.one (DT.agg dc_Book)) un_ref12_apart (DA.one dB):=fun _=>by kernel_rfl
theorem ok_ref12_apart:DOK PR 48 .pure df_ref12_apart:=dok run_ref12_apart (envOK_of base (aC (st48.okl rfl (aC (lC ok_L48_4 rfl) (aC (lC ok_L48_8 rfl) (aC (lC ok_L48_11 rfl) (aC (lC ok_L48_16 rfl) aN))))) aN) aN) (.inr rfl) st48.enters
def step_L21_2 (b1:Bool)(i1:Int)(bx1:Book):Option ((Bool×Int×Book)⊕(((Bool×Book)⊕(Bool×Book)))) :=
 cond (decide (i1 < (bx1.counters.length:Int)))
 (cond (decide (0≤i1))
 (ob (bx1.counters[i1.toNat]?) fun e0 =>
 ob (ref12_counter e0) fun r1 =>
 cond (!r1)
 (some (.inr (.inr (false,bx1))))
 (ob (ref12_place bx1 e0.key) fun r2 =>
 cond (cond (r2 != i1) true (cond (decide (e0.up_ < 0)) true (cond (decide (e0.down_ < 0)) true (cond (decide (e0.up_ > 2199023255552)) true (decide (e0.down_ > 2199023255552))))))
 (some (.inr (.inr (false,bx1))))
 (some (.inl (b1,(w64 (i1+1)),bx1)))))
 none)
 (some (.inr (.inl (b1,bx1))))
def stp_L21_2 (p:Bool×Int×Book):Option ((Bool×Int×Book)⊕(((Bool×Book)⊕(Bool×Book)))):=step_L21_2 p.1 p.2.1 p.2.2
def L21_2 (b1:Bool)(i1:Int)(bx1:Book):Option (((Bool×Book)⊕(Bool×Book))):=iterO stp_L21_2 (1099511627776) (b1,i1,bx1)
def ch_L21_2:kT (Bool×Int×Book):=kO (kS 1 (kC (kP 0 0) (kC kB (kC kI kN))) (kC (Cod.var 0 29 cc_Book) kN)) (fun p=>(p.1.2.1,p.1.2.2.1,p.2.1)) (fun (x:Bool×Int×Book)=>(((),(x.1,(x.2.1,()))),(x.2.2,()))) (fun _=>rfl)
def co0_L21_2:kT (Bool×Book):=kO (kS 2 (kC (kP 0 0) (kC kB kN)) (kC (Cod.var 0 29 cc_Book) kN)) (fun p=>(p.1.2.1,p.2.1)) (fun (x:Bool×Book)=>(((),(x.1,())),(x.2,()))) (fun _=>rfl)
def sl_L21_2:SFn TL:=SFn.two ch_L21_2.dec (fun p=>L21_2 p.1 p.2.1 p.2.2) (.exit 0) .ret co0_L21_2.enc co0_L21_2.enc
def cs_lL21_2:cL:=[(43,df_ref12_counter),(44,df_ref12_place)]
def v_L21_2:Env:=envOf tab sl sh [] [(43,.pure),(44,.pure)]
theorem v_L21_2_ok:EnvOK PR (mkD cs_lL21_2 sZ) v_L21_2:=envOK_of base aN (aC (oD ok_ref12_counter rfl) (aC (oD ok_ref12_place rfl) aN))
theorem run_L21_2 (x:Bool×Int×Book):Out.run (mkO cs_lL21_2 sZ) (evRound v_L21_2 12 20 fd21.an q_L21_2 (loopIn (loopsOf fd21.body) 2) (ch_L21_2.enc x)) (back2 ch_L21_2 co0_L21_2 co0_L21_2 (.exit 0) .ret)=stp_L21_2 x:=by kernel_rfl
theorem ok_L21_2:LoopOK PR (oneS sl_L21_2) nt21 q_L21_2 (loopIn (loopsOf fd21.body) 2) :=
  loop_two v_L21_2_ok (loops:=12) (k:=20) (an:=fd21.an) (by kernel_rfl) (FnSt.subl rfl st21.keys (aC (.inl (by kernel_rfl)) (aC (.inl (by kernel_rfl)) (aC (.inl (by kernel_rfl)) aN)))) ch_L21_2 co0_L21_2 co0_L21_2 (.exit 0) .ret rfl rfl stp_L21_2 _ run_L21_2 (fun x y h=>⟨_,h⟩) (fun _=>below_iff.1 rfl)
abbrev tY42:=Bool×Int×Int×Book×Lease×Slice
def step_L45_8 (b1:Bool)(i1:Int)(i2:Int)(bx1:Book)(lx1:Lease)(sx1:Slice):Option ((tY42)⊕(((Bool×Int×Book×Lease×Slice)⊕(Bool×Int×Book×Lease×Slice)))) :=
 cond (decide (i2 < i1))
 (cond (decide (0≤i2))
 (ob (lx1.slices[i2.toNat]?) fun e0 =>
 cond (sEq e0.key sx1.key)
 (some (.inr (.inr (false,i1,bx1,lx1,sx1))))
 (some (.inl (b1,i1,(w64 (i2+1)),bx1,lx1,sx1))))
 none)
 (some (.inr (.inl (b1,i1,bx1,lx1,sx1))))
def stp_L45_8 (p:tY42):Option ((tY42)⊕(((Bool×Int×Book×Lease×Slice)⊕(Bool×Int×Book×Lease×Slice)))):=step_L45_8 p.1 p.2.1 p.2.2.1 p.2.2.2.1 p.2.2.2.2.1 p.2.2.2.2.2
def L45_8 (b1:Bool)(i1:Int)(i2:Int)(bx1:Book)(lx1:Lease)(sx1:Slice):Option (((Bool×Int×Book×Lease×Slice)⊕(Bool×Int×Book×Lease×Slice))):=iterO stp_L45_8 ((i1 - i2).toNat+2) (b1,i1,i2,bx1,lx1,sx1)
def cc_Slice:Cod (List (C TL)) Slice:=kO (kC kE (kC kJ (kC kJ (kC kJ (kC kJ kN))))) (fun (z0,z1,z2,z3,z4,_)=>(Slice.mk z0 z1 z2 z3 z4)) (fun (x:Slice)=>(x.key,(x.up_,(x.down_,(x.usedUp,(x.usedDown,())))))) (fun _=>rfl)
def ch_L45_8:kT (tY42):=kO (kS 3 (kC (kP 0 0) (kC (kP 1 0) (kC kB (kC kI (kC (kP 2 0) (kC kI kN)))))) (kC (Cod.var 0 29 cc_Book) (kC (Cod.var 1 43 cc_Lease) (kC (Cod.var 2 133 cc_Slice) kN)))) (fun ((_,_,z0,z1,_,z2,_),z3,z4,z5,_)=>(z0,z1,z2,z3,z4,z5)) (fun (x:tY42)=>(((),((),(x.1,(x.2.1,((),(x.2.2.1,())))))),(x.2.2.2.1,(x.2.2.2.2.1,(x.2.2.2.2.2,()))))) (fun _=>rfl)
def co0_L45_8:kT (Bool×Int×Book×Lease×Slice):=kO (kS 6 (kC (kP 0 0) (kC (kP 1 0) (kC kB (kC kI kN)))) (kC (Cod.var 0 29 cc_Book) (kC (Cod.var 1 43 cc_Lease) (kC (Cod.var 2 133 cc_Slice) kN)))) (fun p=>(p.1.2.2.1,p.1.2.2.2.1,p.2.1,p.2.2.1,p.2.2.2.1)) (fun (x:Bool×Int×Book×Lease×Slice)=>(((),((),(x.1,(x.2.1,())))),(x.2.2.1,(x.2.2.2.1,(x.2.2.2.2,()))))) (fun _=>rfl)
def sl_L45_8:SFn TL:=SFn.two ch_L45_8.dec (fun p=>L45_8 p.1 p.2.1 p.2.2.1 p.2.2.2.1 p.2.2.2.2.1 p.2.2.2.2.2) (.exit 2) .ret co0_L45_8.enc co0_L45_8.enc
def v_L45_8:Env:=envOf tab sl sh [] []
theorem v_L45_8_ok:EnvOK PR (mkD cZ sZ) v_L45_8:=envOK_of base aN aN
theorem run_L45_8 (x:tY42):Out.run (mkO cZ sZ) (evRound v_L45_8 12 20 fd45.an q_L45_8 (loopIn (loopsOf fd45.body) 8) (ch_L45_8.enc x)) (back2 ch_L45_8 co0_L45_8 co0_L45_8 (.exit 2) .ret)=stp_L45_8 x:=by kernel_rfl
theorem ok_L45_8:LoopOK PR (oneS sl_L45_8) nt45 q_L45_8 (loopIn (loopsOf fd45.body) 8) :=
  loop_two v_L45_8_ok (loops:=12) (k:=20) (an:=fd45.an) (by kernel_rfl) (FnSt.subl rfl st45.keys (aC (.inl (by kernel_rfl)) (aC (.inl (by kernel_rfl)) (aC (.inl (by kernel_rfl)) aN)))) ch_L45_8 co0_L45_8 co0_L45_8 (.exit 2) .ret rfl rfl stp_L45_8 _ run_L45_8 (fun x y h=>⟨_,h⟩) (fun _=>below_iff.1 rfl)
abbrev tY43:=Bool×Int×Book×Lease
def step_L45_2 (b1:Bool)(i1:Int)(bx1:Book)(lx1:Lease):Option ((tY43)⊕(((Bool×Book×Lease)⊕(Bool×Book×Lease)))) :=
 cond (decide (i1 < (lx1.slices.length:Int)))
 (cond (decide (0≤i1))
 (ob (lx1.slices[i1.toNat]?) fun e0 =>
 ob (ref12_place bx1 e0.key) fun r1 =>
 cond (cond (decide (r1 < 0)) true (cond (decide (e0.usedUp < 0)) true (cond (decide (e0.usedUp > e0.up_)) true (cond (decide (e0.usedDown < 0)) true (cond (decide (e0.usedDown > e0.down_)) true (cond (decide (e0.up_ > 2199023255552)) true (decide (e0.down_ > 2199023255552))))))))
 (some (.inr (.inr (false,bx1,lx1))))
 (ob (L45_8 b1 i1 0 bx1 lx1 e0) fun y2 =>
 two y2 (fun a3 =>
 some (.inl (a3.1,(w64 (a3.2.1+1)),a3.2.2.1,a3.2.2.2.1))) (fun b4 =>
 some (.inr (.inr (b4.1,b4.2.2.1,b4.2.2.2.1))))))
 none)
 (some (.inr (.inl (b1,bx1,lx1))))
def stp_L45_2 (p:tY43):Option ((tY43)⊕(((Bool×Book×Lease)⊕(Bool×Book×Lease)))):=step_L45_2 p.1 p.2.1 p.2.2.1 p.2.2.2
def L45_2 (b1:Bool)(i1:Int)(bx1:Book)(lx1:Lease):Option (((Bool×Book×Lease)⊕(Bool×Book×Lease))):=iterO stp_L45_2 (1099511627776) (b1,i1,bx1,lx1)
def ch_L45_2:kT (tY43):=kO (kS 2 (kC (kP 0 0) (kC (kP 1 0) (kC kB (kC kI kN)))) (kC (Cod.var 0 29 cc_Book) (kC (Cod.var 1 43 cc_Lease) kN))) (fun p=>(p.1.2.2.1,p.1.2.2.2.1,p.2.1,p.2.2.1)) (fun (x:tY43)=>(((),((),(x.1,(x.2.1,())))),(x.2.2.1,(x.2.2.2,())))) (fun _=>rfl)
def co0_L45_2:kT (Bool×Book×Lease):=kO (kS 4 (kC (kP 1 0) (kC kB kN)) (kC (Cod.var 0 29 cc_Book) (kC (Cod.var 1 43 cc_Lease) kN))) (fun p=>(p.1.2.1,p.2.1,p.2.2.1)) (fun (x:Bool×Book×Lease)=>(((),(x.1,())),(x.2.1,(x.2.2,())))) (fun _=>rfl)
def sl_L45_2:SFn TL:=SFn.two ch_L45_2.dec (fun p=>L45_2 p.1 p.2.1 p.2.2.1 p.2.2.2) (.exit 0) .ret co0_L45_2.enc co0_L45_2.enc
def cs_lL45_2:cL:=[(44,df_ref12_place)]
def ss_lL45_2:sL:=[(145008,sl_L45_8)]
def v_L45_2:Env:=envOf tab sl sh [] [(44,.pure)]
theorem v_L45_2_ok:EnvOK PR (mkD cs_lL45_2 ss_lL45_2) v_L45_2:=envOK_of base aN (aC (oD ok_ref12_place rfl) aN)
theorem run_L45_2 (x:tY43):Out.run (mkO cs_lL45_2 ss_lL45_2) (evRound v_L45_2 12 20 fd45.an q_L45_2 (loopIn (loopsOf fd45.body) 2) (ch_L45_2.enc x)) (back2 ch_L45_2 co0_L45_2 co0_L45_2 (.exit 0) .ret)=stp_L45_2 x:=by kernel_rfl
theorem ok_L45_2:LoopOK PR (oneS sl_L45_2) nt45 q_L45_2 (loopIn (loopsOf fd45.body) 2) :=
  loop_two v_L45_2_ok (loops:=12) (k:=20) (an:=fd45.an) (by kernel_rfl) (FnSt.subl rfl st45.keys (aC (.inl (by kernel_rfl)) (aC (.inr (lC ok_L45_8 rfl)) (aC (.inl (by kernel_rfl)) aN)))) ch_L45_2 co0_L45_2 co0_L45_2 (.exit 0) .ret rfl rfl stp_L45_2 _ run_L45_2 (fun x y h=>⟨_,h⟩) (fun _=>below_iff.1 rfl)
def step_L45_15 (b1:Bool)(i1:Int)(lx1:Lease):Option ((Bool×Int×Lease)⊕(((Bool×Lease)⊕(Bool×Lease)))) :=
 cond (decide (i1 < (lx1.used.length:Int)))
 (cond (decide (0≤i1))
 (ob (lx1.used[i1.toNat]?) fun e0 =>
 ob (ref11Has lx1.ids e0) fun r1 =>
 cond (!r1)
 (some (.inr (.inr (false,lx1))))
 (some (.inl (b1,(w64 (i1+1)),lx1))))
 none)
 (some (.inr (.inl (b1,lx1))))
def stp_L45_15 (p:Bool×Int×Lease):Option ((Bool×Int×Lease)⊕(((Bool×Lease)⊕(Bool×Lease)))):=step_L45_15 p.1 p.2.1 p.2.2
def L45_15 (b1:Bool)(i1:Int)(lx1:Lease):Option (((Bool×Lease)⊕(Bool×Lease))):=iterO stp_L45_15 (1099511627776) (b1,i1,lx1)
def ch_L45_15:kT (Bool×Int×Lease):=kO (kS 1 (kC (kP 0 0) (kC kB (kC kI kN))) (kC (Cod.var 0 43 cc_Lease) kN)) (fun p=>(p.1.2.1,p.1.2.2.1,p.2.1)) (fun (x:Bool×Int×Lease)=>(((),(x.1,(x.2.1,()))),(x.2.2,()))) (fun _=>rfl)
def co0_L45_15:kT (Bool×Lease):=kO (kS 2 (kC kB kN) (kC (Cod.var 0 43 cc_Lease) kN)) (fun p=>(p.1.1,p.2.1)) (fun (x:Bool×Lease)=>((x.1,()),(x.2,()))) (fun _=>rfl)
def sl_L45_15:SFn TL:=SFn.two ch_L45_15.dec (fun p=>L45_15 p.1 p.2.1 p.2.2) (.exit 4) .ret co0_L45_15.enc co0_L45_15.enc
def cs_lL45_15:cL:=[(94,df_ref11Has)]
def v_L45_15:Env:=envOf tab sl sh [] [(94,.pure)]
theorem v_L45_15_ok:EnvOK PR (mkD cs_lL45_15 sZ) v_L45_15:=envOK_of base aN (aC (oD ok_ref11Has rfl) aN)
theorem run_L45_15 (x:Bool×Int×Lease):Out.run (mkO cs_lL45_15 sZ) (evRound v_L45_15 12 20 fd45.an q_L45_15 (loopIn (loopsOf fd45.body) 15) (ch_L45_15.enc x)) (back2 ch_L45_15 co0_L45_15 co0_L45_15 (.exit 4) .ret)=stp_L45_15 x:=by kernel_rfl
theorem ok_L45_15:LoopOK PR (oneS sl_L45_15) nt45 q_L45_15 (loopIn (loopsOf fd45.body) 15) :=
  loop_two v_L45_15_ok (loops:=12) (k:=20) (an:=fd45.an) (by kernel_rfl) (FnSt.subl rfl st45.keys (aC (.inl (by kernel_rfl)) (aC (.inl (by kernel_rfl)) (aC (.inl (by kernel_rfl)) aN)))) ch_L45_15 co0_L45_15 co0_L45_15 (.exit 4) .ret rfl rfl stp_L45_15 _ run_L45_15 (fun x y h=>⟨_,h⟩) (fun _=>below_iff.1 rfl)
def ref12_lease (bx1:Book)(lx1:Lease):Option Bool :=
 ob (L45_2 false 0 bx1 lx1) fun y0 =>
 two y0 (fun a1 =>
 cond (decide (a1.2.2.device < 0))
 (some false)
 (cond (decide (a1.2.2.device≥6))
 (some false)
 (ob (ref11Row a1.2.2.ids) fun r3 =>
 cond (!r3)
 (some false)
 (ob (ref12_rises a1.2.2.used) fun r4 =>
 cond (!r4)
 (some false)
 (ob (L45_15 a1.1 0 a1.2.2) fun y5 =>
 two y5 (fun _ =>
 some true) (fun b7 =>
 some b7.1)))))) (fun b2 =>
 some b2.1)
def un_ref12_lease (p:Book×Lease):Option Bool:=ref12_lease p.1 p.2
def df_ref12_lease:DFn TL:=DFn.of (DA.cons (DT.agg dc_Book) (DA.one (DT.agg dc_Lease))) un_ref12_lease (DA.one dB)
theorem run_ref12_lease:DRun [(46,df_ref11Row),(47,df_ref12_rises)] [(145002,sl_L45_2),(145008,sl_L45_8),(145015,sl_L45_15)] (envOf tab sl sh [(45,fd45)] [(46,.pure),(47,.pure)]) 45 (DA.cons (DT.agg dc_Book) (DA.one (DT.agg dc_Lease))) un_ref12_lease (DA.one dB):=fun _=>by kernel_rfl
theorem ok_ref12_lease:DOK PR 45 .pure df_ref12_lease:=dok run_ref12_lease (envOK_of base (aC (st45.okl rfl (aC (lC ok_L45_2 rfl) (aC (lC ok_L45_8 rfl) (aC (lC ok_L45_15 rfl) aN)))) aN) (aC (oD ok_ref11Row rfl) (aC (oD ok_ref12_rises rfl) aN))) (.inr rfl) st45.enters
def step_L21_8 (b1:Bool)(i1:Int)(bx1:Book):Option ((Bool×Int×Book)⊕(((Bool×Book)⊕(Bool×Book)))) :=
 cond (decide (i1 < (bx1.leases.length:Int)))
 (cond (decide (0≤i1))
 (ob (bx1.leases[i1.toNat]?) fun e0 =>
 ob (ref12_lease bx1 e0) fun r1 =>
 cond (!r1)
 (some (.inr (.inr (false,bx1))))
 (cond (decide (i1 > 0))
 (cond (decide (0≤(w64 (i1 - 1))))
 (ob (bx1.leases[((w64 (i1 - 1))).toNat]?) fun e2 =>
 cond (decide (0≤i1))
 (ob (bx1.leases[i1.toNat]?) fun e3 =>
 cond (decide (e2.device≥e3.device))
 (some (.inr (.inr (false,bx1))))
 (some (.inl (b1,(w64 (i1+1)),bx1))))
 none)
 none)
 (some (.inl (b1,(w64 (i1+1)),bx1)))))
 none)
 (some (.inr (.inl (b1,bx1))))
def stp_L21_8 (p:Bool×Int×Book):Option ((Bool×Int×Book)⊕(((Bool×Book)⊕(Bool×Book)))):=step_L21_8 p.1 p.2.1 p.2.2
def L21_8 (b1:Bool)(i1:Int)(bx1:Book):Option (((Bool×Book)⊕(Bool×Book))):=iterO stp_L21_8 (1099511627776) (b1,i1,bx1)
def sl_L21_8:SFn TL:=SFn.two ch_L21_2.dec (fun p=>L21_8 p.1 p.2.1 p.2.2) (.exit 2) .ret co0_L21_2.enc co0_L21_2.enc
def cs_lL21_8:cL:=[(45,df_ref12_lease)]
def v_L21_8:Env:=envOf tab sl sh [] [(45,.pure)]
theorem v_L21_8_ok:EnvOK PR (mkD cs_lL21_8 sZ) v_L21_8:=envOK_of base aN (aC (oD ok_ref12_lease rfl) aN)
theorem run_L21_8 (x:Bool×Int×Book):Out.run (mkO cs_lL21_8 sZ) (evRound v_L21_8 12 20 fd21.an q_L21_8 (loopIn (loopsOf fd21.body) 8) (ch_L21_2.enc x)) (back2 ch_L21_2 co0_L21_2 co0_L21_2 (.exit 2) .ret)=stp_L21_8 x:=by kernel_rfl
theorem ok_L21_8:LoopOK PR (oneS sl_L21_8) nt21 q_L21_8 (loopIn (loopsOf fd21.body) 8) :=
  loop_two v_L21_8_ok (loops:=12) (k:=20) (an:=fd21.an) (by kernel_rfl) (FnSt.subl rfl st21.keys (aC (.inl (by kernel_rfl)) (aC (.inl (by kernel_rfl)) (aC (.inl (by kernel_rfl)) aN)))) ch_L21_2 co0_L21_2 co0_L21_2 (.exit 2) .ret rfl rfl stp_L21_8 _ run_L21_8 (fun x y h=>⟨_,h⟩) (fun _=>below_iff.1 rfl)
abbrev tY44:=ByteArray×Int×Int×Int×Int×Book×A6Int×Counter
abbrev tY45:=ByteArray×Int×Int×Int×Book×A6Int×Counter
def step_L35_10 (s1:ByteArray)(i1:Int)(i2:Int)(i3:Int)(i4:Int)(bx1:Book)(ax1:A6Int)(c1:Counter):Option ((tY44)⊕(tY45)) :=
 cond (decide (0≤i3))
 (ob (bx1.leases[i3.toNat]?) fun e0 =>
 cond (decide (i4 < (e0.slices.length:Int)))
 (cond (decide (0≤i3))
 (ob (bx1.leases[i3.toNat]?) fun e1 =>
 cond (decide (0≤i4))
 (ob (e1.slices[i4.toNat]?) fun e2 =>
 some (.inl (s1,(cond (sEq e2.key s1) (w64 ((w64 (i1+e2.up_)) - e2.usedUp)) i1),(cond (sEq e2.key s1) (w64 ((w64 (i2+e2.down_)) - e2.usedDown)) i2),i3,(w64 (i4+1)),bx1,ax1,c1)))
 none)
 none)
 (some (.inr (s1,i1,i2,i3,bx1,ax1,c1))))
 none
def stp_L35_10 (p:tY44):Option ((tY44)⊕(tY45)):=step_L35_10 p.1 p.2.1 p.2.2.1 p.2.2.2.1 p.2.2.2.2.1 p.2.2.2.2.2.1 p.2.2.2.2.2.2.1 p.2.2.2.2.2.2.2
def L35_10 (s1:ByteArray)(i1:Int)(i2:Int)(i3:Int)(i4:Int)(bx1:Book)(ax1:A6Int)(c1:Counter):Option tY45:=iterO stp_L35_10 (1099511627776) (s1,i1,i2,i3,i4,bx1,ax1,c1)
def cc_A6Int:Cod (List (C TL)) A6Int:=kO (kC kJ (kC kJ (kC kJ (kC kJ (kC kJ (kC kJ kN)))))) (fun (z0,z1,z2,z3,z4,z5,_)=>(A6Int.mk z0 z1 z2 z3 z4 z5)) (fun (x:A6Int)=>(x.a0,(x.a1,(x.a2,(x.a3,(x.a4,(x.a5,()))))))) (fun _=>rfl)
def cc_Counter:Cod (List (C TL)) Counter:=kO (kC kE (kC kJ (kC kJ (kC kJ (kC kJ (kC kJ (kC kJ kN))))))) (fun (z0,z1,z2,z3,z4,z5,z6,_)=>(Counter.mk z0 z1 z2 z3 z4 z5 z6)) (fun (x:Counter)=>(x.key,(x.coll,(x.lo,(x.hi,(x.start,(x.up_,(x.down_,())))))))) (fun _=>rfl)
def ch_L35_10:kT (tY44):=kO (kS 3 (kC (Cod.xs (Cod.sc kE)) (kC (kP 0 0) (kC (kP 1 0) (kC (kP 2 0) (kC kI (kC kI (kC kI (kC kI kN)))))))) (kC (Cod.var 0 29 cc_Book) (kC (Cod.var 1 88 cc_A6Int) (kC (Cod.var 2 65 cc_Counter) kN)))) (fun ((z0,_,_,_,z1,z2,z3,z4,_),z5,z6,z7,_)=>(z0,z1,z2,z3,z4,z5,z6,z7)) (fun (x:tY44)=>((x.1,((),((),((),(x.2.1,(x.2.2.1,(x.2.2.2.1,(x.2.2.2.2.1,())))))))),(x.2.2.2.2.2.1,(x.2.2.2.2.2.2.1,(x.2.2.2.2.2.2.2,()))))) (fun _=>rfl)
def co0_L35_10:kT (tY45):=kO (kS 6 (kC (Cod.xs (Cod.sc kE)) (kC (kP 0 0) (kC (kP 1 0) (kC (kP 2 0) (kC kI (kC kI (kC kI kN))))))) (kC (Cod.var 0 29 cc_Book) (kC (Cod.var 1 88 cc_A6Int) (kC (Cod.var 2 65 cc_Counter) kN)))) (fun ((z0,_,_,_,z1,z2,z3,_),z4,z5,z6,_)=>(z0,z1,z2,z3,z4,z5,z6)) (fun (x:tY45)=>((x.1,((),((),((),(x.2.1,(x.2.2.1,(x.2.2.2.1,()))))))),(x.2.2.2.2.1,(x.2.2.2.2.2.1,(x.2.2.2.2.2.2,()))))) (fun _=>rfl)
def sl_L35_10:SFn TL:=SFn.one ch_L35_10.dec (fun p=>L35_10 p.1 p.2.1 p.2.2.1 p.2.2.2.1 p.2.2.2.2.1 p.2.2.2.2.2.1 p.2.2.2.2.2.2.1 p.2.2.2.2.2.2.2) (.exit 2) co0_L35_10.enc
def v_L35_10:Env:=envOf tab sl sh [] []
theorem v_L35_10_ok:EnvOK PR (mkD cZ sZ) v_L35_10:=envOK_of base aN aN
theorem run_L35_10 (x:tY44):Out.run (mkO cZ sZ) (evRound v_L35_10 12 20 fd35.an q_L35_10 (loopIn (loopsOf fd35.body) 10) (ch_L35_10.enc x)) (back ch_L35_10 co0_L35_10 fun e=>exE e (.exit 2))=stp_L35_10 x:=by kernel_rfl
theorem ok_L35_10:LoopOK PR (oneS sl_L35_10) nt35 q_L35_10 (loopIn (loopsOf fd35.body) 10) :=
  loop_one v_L35_10_ok (loops:=12) (k:=20) (an:=fd35.an) (by kernel_rfl) (FnSt.subl rfl st35.keys (aC (.inl (by kernel_rfl)) (aC (.inl (by kernel_rfl)) aN))) ch_L35_10 co0_L35_10 (.exit 2) rfl stp_L35_10 _ run_L35_10 (fun x y h=>⟨_,h⟩) (fun _=>below_iff.1 rfl)
def step_L35_7 (s1:ByteArray)(i1:Int)(i2:Int)(i3:Int)(bx1:Book)(ax1:A6Int)(c1:Counter):Option ((tY45)⊕(Int×Int×Book×A6Int×Counter)) :=
 cond (decide (i3 < (bx1.leases.length:Int)))
 (ob (L35_10 s1 i1 i2 i3 0 bx1 ax1 c1) fun y0 =>
 some (.inl (y0.1,y0.2.1,y0.2.2.1,(w64 (y0.2.2.2.1+1)),y0.2.2.2.2.1,y0.2.2.2.2.2.1,y0.2.2.2.2.2.2)))
 (some (.inr (i1,i2,bx1,ax1,c1)))
def stp_L35_7 (p:tY45):Option ((tY45)⊕(Int×Int×Book×A6Int×Counter)):=step_L35_7 p.1 p.2.1 p.2.2.1 p.2.2.2.1 p.2.2.2.2.1 p.2.2.2.2.2.1 p.2.2.2.2.2.2
def L35_7 (s1:ByteArray)(i1:Int)(i2:Int)(i3:Int)(bx1:Book)(ax1:A6Int)(c1:Counter):Option (Int×Int×Book×A6Int×Counter):=iterO stp_L35_7 (1099511627776) (s1,i1,i2,i3,bx1,ax1,c1)
def ch_L35_7:kT (tY45):=kO (kS 3 (kC (Cod.xs (Cod.sc kE)) (kC (kP 0 0) (kC (kP 1 0) (kC (kP 2 0) (kC kI (kC kI (kC kI kN))))))) (kC (Cod.var 0 29 cc_Book) (kC (Cod.var 1 88 cc_A6Int) (kC (Cod.var 2 65 cc_Counter) kN)))) (fun ((z0,_,_,_,z1,z2,z3,_),z4,z5,z6,_)=>(z0,z1,z2,z3,z4,z5,z6)) (fun (x:tY45)=>((x.1,((),((),((),(x.2.1,(x.2.2.1,(x.2.2.2.1,()))))))),(x.2.2.2.2.1,(x.2.2.2.2.2.1,(x.2.2.2.2.2.2,()))))) (fun _=>rfl)
def co0_L35_7:kT (Int×Int×Book×A6Int×Counter):=kO (kS 6 (kC (kP 1 0) (kC (kP 2 0) (kC kI (kC kI kN)))) (kC (Cod.var 0 29 cc_Book) (kC (Cod.var 1 88 cc_A6Int) (kC (Cod.var 2 65 cc_Counter) kN)))) (fun p=>(p.1.2.2.1,p.1.2.2.2.1,p.2.1,p.2.2.1,p.2.2.2.1)) (fun (x:Int×Int×Book×A6Int×Counter)=>(((),((),(x.1,(x.2.1,())))),(x.2.2.1,(x.2.2.2.1,(x.2.2.2.2,()))))) (fun _=>rfl)
def sl_L35_7:SFn TL:=SFn.one ch_L35_7.dec (fun p=>L35_7 p.1 p.2.1 p.2.2.1 p.2.2.2.1 p.2.2.2.2.1 p.2.2.2.2.2.1 p.2.2.2.2.2.2) (.exit 0) co0_L35_7.enc
def ss_lL35_7:sL:=[(135010,sl_L35_10)]
def v_L35_7:Env:=envOf tab sl sh [] []
theorem v_L35_7_ok:EnvOK PR (mkD cZ ss_lL35_7) v_L35_7:=envOK_of base aN aN
theorem run_L35_7 (x:tY45):Out.run (mkO cZ ss_lL35_7) (evRound v_L35_7 12 20 fd35.an q_L35_7 (loopIn (loopsOf fd35.body) 7) (ch_L35_7.enc x)) (back ch_L35_7 co0_L35_7 fun e=>exE e (.exit 0))=stp_L35_7 x:=by kernel_rfl
theorem ok_L35_7:LoopOK PR (oneS sl_L35_7) nt35 q_L35_7 (loopIn (loopsOf fd35.body) 7) :=
  loop_one v_L35_7_ok (loops:=12) (k:=20) (an:=fd35.an) (by kernel_rfl) (FnSt.subl rfl st35.keys (aC (.inl (by kernel_rfl)) (aC (.inr (lC ok_L35_10 rfl)) aN))) ch_L35_7 co0_L35_7 (.exit 0) rfl stp_L35_7 _ run_L35_7 (fun x y h=>⟨_,h⟩) (fun _=>below_iff.1 rfl)
def ref12Totals (bx1:Book)(s1:ByteArray):Option A6Int :=
 ob (ref12_place bx1 s1) fun r0 =>
 cond (decide (r0 < 0))
 (some (A6Int.mk 0 0 0 0 0 0))
 (cond (decide (0≤r0))
 (ob (bx1.counters[r0.toNat]?) fun e1 =>
 ob (L35_7 s1 0 0 0 bx1 (A6Int.mk 0 0 0 0 0 0) e1) fun y2 =>
 some (A6Int.mk y2.2.2.2.2.up_ y2.1 (w64 ((w64 ((w64 (y2.2.2.2.2.hi - y2.2.2.2.2.start)) - y2.2.2.2.2.up_)) - y2.1)) y2.2.2.2.2.down_ y2.2.1 (w64 ((w64 ((w64 (y2.2.2.2.2.start - y2.2.2.2.2.lo)) - y2.2.2.2.2.down_)) - y2.2.1))))
 none)
def un_ref12Totals (p:Book×ByteArray):Option A6Int:=ref12Totals p.1 p.2
def df_ref12Totals:DFn TL:=DFn.of (DA.cons (DT.agg dc_Book) (DA.one (DT.one DI.str))) un_ref12Totals (DA.one (DT.agg dc_A6Int))
theorem run_ref12Totals:DRun [(44,df_ref12_place)] [(135007,sl_L35_7),(135010,sl_L35_10)] (envOf tab sl sh [(35,fd35)] [(44,.pure)]) 35 (DA.cons (DT.agg dc_Book) (DA.one (DT.one DI.str))) un_ref12Totals (DA.one (DT.agg dc_A6Int)):=fun _=>by kernel_rfl
theorem ok_ref12Totals:DOK PR 35 .pure df_ref12Totals:=dok run_ref12Totals (envOK_of base (aC (st35.okl rfl (aC (lC ok_L35_7 rfl) (aC (lC ok_L35_10 rfl) aN))) aN) (aC (oD ok_ref12_place rfl) aN)) (.inr rfl) st35.enters
def step_L21_13 (b1:Bool)(i1:Int)(bx1:Book):Option ((Bool×Int×Book)⊕(((Bool×Book)⊕(Bool×Book)))) :=
 cond (decide (i1 < (bx1.counters.length:Int)))
 (cond (decide (0≤i1))
 (ob (bx1.counters[i1.toNat]?) fun e0 =>
 ob (ref12Totals bx1 e0.key) fun r1 =>
 cond (cond (decide (r1.a2 < 0)) true (decide (r1.a5 < 0)))
 (some (.inr (.inr (false,bx1))))
 (some (.inl (b1,(w64 (i1+1)),bx1))))
 none)
 (some (.inr (.inl (b1,bx1))))
def stp_L21_13 (p:Bool×Int×Book):Option ((Bool×Int×Book)⊕(((Bool×Book)⊕(Bool×Book)))):=step_L21_13 p.1 p.2.1 p.2.2
def L21_13 (b1:Bool)(i1:Int)(bx1:Book):Option (((Bool×Book)⊕(Bool×Book))):=iterO stp_L21_13 (1099511627776) (b1,i1,bx1)
def sl_L21_13:SFn TL:=SFn.two ch_L21_2.dec (fun p=>L21_13 p.1 p.2.1 p.2.2) (.exit 4) .ret co0_L21_2.enc co0_L21_2.enc
def cs_lL21_13:cL:=[(35,df_ref12Totals)]
def v_L21_13:Env:=envOf tab sl sh [] [(35,.pure)]
theorem v_L21_13_ok:EnvOK PR (mkD cs_lL21_13 sZ) v_L21_13:=envOK_of base aN (aC (oD ok_ref12Totals rfl) aN)
theorem run_L21_13 (x:Bool×Int×Book):Out.run (mkO cs_lL21_13 sZ) (evRound v_L21_13 12 20 fd21.an q_L21_13 (loopIn (loopsOf fd21.body) 13) (ch_L21_2.enc x)) (back2 ch_L21_2 co0_L21_2 co0_L21_2 (.exit 4) .ret)=stp_L21_13 x:=by kernel_rfl
theorem ok_L21_13:LoopOK PR (oneS sl_L21_13) nt21 q_L21_13 (loopIn (loopsOf fd21.body) 13) :=
  loop_two v_L21_13_ok (loops:=12) (k:=20) (an:=fd21.an) (by kernel_rfl) (FnSt.subl rfl st21.keys (aC (.inl (by kernel_rfl)) (aC (.inl (by kernel_rfl)) (aC (.inl (by kernel_rfl)) aN)))) ch_L21_2 co0_L21_2 co0_L21_2 (.exit 4) .ret rfl rfl stp_L21_13 _ run_L21_13 (fun x y h=>⟨_,h⟩) (fun _=>below_iff.1 rfl)
def ref12Sound (bx1:Book):Option Bool :=
 ob (L21_2 false 0 bx1) fun y0 =>
 two y0 (fun a1 =>
 ob (L21_8 a1.1 0 a1.2) fun y3 =>
 two y3 (fun a4 =>
 ob (L21_13 a4.1 0 a4.2) fun y6 =>
 two y6 (fun a7 =>
 ob (ref11Row a7.2.free) fun r9 =>
 cond (r9)
 (ob (ref12_rises a7.2.bound) fun r10 =>
 cond (r10)
 (ob (ref12_apart a7.2) fun r11 =>
 some r11)
 (some false))
 (some false)) (fun b8 =>
 some b8.1)) (fun b5 =>
 some b5.1)) (fun b2 =>
 some b2.1)
def un_ref12Sound (p:Book):Option Bool:=ref12Sound p
def df_ref12Sound:DFn TL:=DFn.of (DA.one (DT.agg dc_Book)) un_ref12Sound (DA.one dB)
theorem run_ref12Sound:DRun [(46,df_ref11Row),(47,df_ref12_rises),(48,df_ref12_apart)] [(121002,sl_L21_2),(121008,sl_L21_8),(121013,sl_L21_13)] (envOf tab sl sh [(21,fd21)] [(46,.pure),(47,.pure),(48,.pure)]) 21 (DA.one (DT.agg dc_Book)) un_ref12Sound (DA.one dB):=fun _=>by kernel_rfl
theorem ok_ref12Sound:DOK PR 21 .pure df_ref12Sound:=dok run_ref12Sound (envOK_of base (aC (st21.okl rfl (aC (lC ok_L21_2 rfl) (aC (lC ok_L21_8 rfl) (aC (lC ok_L21_13 rfl) aN)))) aN) (aC (oD ok_ref11Row rfl) (aC (oD ok_ref12_rises rfl) (aC (oD ok_ref12_apart rfl) aN)))) (.inr rfl) st21.enters
abbrev tY46:=Int×(List Int)×Int×Int×Cmd
def step_L4_7 (i1:Int)(l1:List Int)(i2:Int)(i3:Int)(c1:Cmd):Option ((tY46)⊕(Int×(List Int)×Int×Cmd)) :=
 cond (decide (i3≤i1))
 (ob (l13_step (w64 (i2+1)) 4 1) fun r0 =>
 cond (fits ((c1.ops++[r0]).length))
 (some (.inl (i1,l1,(w64 (i2+1)),(w64 (i3+1)),(Cmd.mk c1.kind c1.device c1.epoch c1.req c1.n c1.wants (c1.ops++[r0])))))
 none)
 (some (.inr (i1,l1,i2,c1)))
def stp_L4_7 (p:tY46):Option ((tY46)⊕(Int×(List Int)×Int×Cmd)):=step_L4_7 p.1 p.2.1 p.2.2.1 p.2.2.2.1 p.2.2.2.2
def L4_7 (i1:Int)(l1:List Int)(i2:Int)(i3:Int)(c1:Cmd):Option (Int×(List Int)×Int×Cmd):=iterO stp_L4_7 ((i1 - i3).toNat+2) (i1,l1,i2,i3,c1)
def hc5_Cmd:Cod (List (Nat×En TL)) Cmd:=kO (kC (Cod.var 0 56 (kC kJ (kC kJ (kC kJ (kC kJ (kC kJ (kC (kA 1) (kC (kA 2) kN)))))))) (kC (kR 1 105 j_lWant) (kC (kR 2 61 j_lOp) kN))) (fun ((z0,z1,z2,z3,z4,_),z5,z6,_)=>(Cmd.mk z0 z1 z2 z3 z4 z5 z6)) (fun (x:Cmd)=>((x.kind,(x.device,(x.epoch,(x.req,(x.n,((),((),()))))))),(x.wants,(x.ops,())))) (fun _=>rfl)
def ch_L4_7:kT (tY46):=kO (kS 3 (kC kI (kC (kF j_lInt) (kC (kP 0 0) (kC kI (kC kI kN))))) hc5_Cmd) (fun ((z0,z1,_,z2,z3,_),z4)=>(z0,z1,z2,z3,z4)) (fun (x:tY46)=>((x.1,(x.2.1,((),(x.2.2.1,(x.2.2.2.1,()))))),x.2.2.2.2)) (fun _=>rfl)
def hc6_Cmd:Cod (List (Nat×En TL)) Cmd:=kO (kC (Cod.var 0 56 (kC kJ (kC kJ (kC kJ (kC kJ (kC kJ (kC (kA 1) (kC (kA 5) kN)))))))) (kC (kR 1 105 j_lWant) (kC (kR 5 61 j_lOp) kN))) (fun ((z0,z1,z2,z3,z4,_),z5,z6,_)=>(Cmd.mk z0 z1 z2 z3 z4 z5 z6)) (fun (x:Cmd)=>((x.kind,(x.device,(x.epoch,(x.req,(x.n,((),((),()))))))),(x.wants,(x.ops,())))) (fun _=>rfl)
def co0_L4_7:kT (Int×(List Int)×Int×Cmd):=kO (kS 6 (kC kI (kC (kF j_lInt) (kC (kP 0 0) (kC kI kN)))) hc6_Cmd) (fun p=>(p.1.1,p.1.2.1,p.1.2.2.2.1,p.2)) (fun (x:Int×(List Int)×Int×Cmd)=>((x.1,(x.2.1,((),(x.2.2.1,())))),x.2.2.2)) (fun _=>rfl)
def sl_L4_7:SFn TL:=SFn.one ch_L4_7.dec (fun p=>L4_7 p.1 p.2.1 p.2.2.1 p.2.2.2.1 p.2.2.2.2) (.exit 0) co0_L4_7.enc
def cs_lL4_7:cL:=[(19,df_l13_step)]
def v_L4_7:Env:=envOf tab sl sh [] [(19,.keep)]
theorem v_L4_7_ok:EnvOK PR (mkD cs_lL4_7 sZ) v_L4_7:=envOK_of base aN (aC (oD ok_l13_step rfl) aN)
theorem run_L4_7 (x:tY46):Out.run (mkO cs_lL4_7 sZ) (evRound v_L4_7 12 20 fd4.an q_L4_7 (loopIn (loopsOf fd4.body) 7) (ch_L4_7.enc x)) (back ch_L4_7 co0_L4_7 fun e=>exE e (.exit 0))=stp_L4_7 x:=by kernel_rfl
theorem ok_L4_7:LoopOK PR (oneS sl_L4_7) nt4 q_L4_7 (loopIn (loopsOf fd4.body) 7) :=
  loop_one v_L4_7_ok (loops:=12) (k:=20) (an:=fd4.an) (by kernel_rfl) (FnSt.subl rfl st4.keys (aC (.inl (by kernel_rfl)) (aC (.inl (by kernel_rfl)) aN))) ch_L4_7 co0_L4_7 (.exit 0) rfl stp_L4_7 _ run_L4_7 (fun x y h=>⟨_,h⟩) (fun _=>below_iff.1 rfl)
abbrev tY47:=Int×(List Int)×Int×Int×Int×Cmd×A5Bool
def step_L4_14 (i1:Int)(l1:List Int)(i2:Int)(i3:Int)(i4:Int)(c1:Cmd)(ax1:A5Bool):Option ((tY47)⊕(Int×Int×Int×Cmd×A5Bool)) :=
 cond (cond (decide (i4 < (l1.length:Int))) (decide (i4 < 5)) false)
 (cond (decide (0≤i4))
 (ob (l1[i4.toNat]?) fun e0 =>
 ob (within e0 5) fun r1 =>
 cond (decide (0≤r1) && decide (r1 < 5))
 (cond (!(cond (decide (r1=0)) ax1.a0 (cond (decide (r1=1)) ax1.a1 (cond (decide (r1=2)) ax1.a2 (cond (decide (r1=3)) ax1.a3 ax1.a4)))))
 (ob (l13_step (w64 (i2+1)) 5 r1) fun r2 =>
 cond (fits ((c1.ops++[r2]).length))
 (cond (decide (0≤r1) && decide (r1 < 5))
 (some (.inl (i1,l1,(w64 (i2+1)),(w64 (i3+1)),(w64 (i4+1)),(Cmd.mk c1.kind c1.device c1.epoch c1.req c1.n c1.wants (c1.ops++[r2])),(A5Bool.mk (cond (decide (r1=0)) true ax1.a0) (cond (decide (r1=1)) true ax1.a1) (cond (decide (r1=2)) true ax1.a2) (cond (decide (r1=3)) true ax1.a3) (cond (decide (r1=4)) true ax1.a4)))))
 none)
 none)
 (cond (decide (0≤r1) && decide (r1 < 5))
 (some (.inl (i1,l1,i2,i3,(w64 (i4+1)),c1,(A5Bool.mk (cond (decide (r1=0)) true ax1.a0) (cond (decide (r1=1)) true ax1.a1) (cond (decide (r1=2)) true ax1.a2) (cond (decide (r1=3)) true ax1.a3) (cond (decide (r1=4)) true ax1.a4)))))
 none))
 none)
 none)
 (some (.inr (i1,i2,i3,c1,ax1)))
def stp_L4_14 (p:tY47):Option ((tY47)⊕(Int×Int×Int×Cmd×A5Bool)):=step_L4_14 p.1 p.2.1 p.2.2.1 p.2.2.2.1 p.2.2.2.2.1 p.2.2.2.2.2.1 p.2.2.2.2.2.2
def L4_14 (i1:Int)(l1:List Int)(i2:Int)(i3:Int)(i4:Int)(c1:Cmd)(ax1:A5Bool):Option (Int×Int×Int×Cmd×A5Bool):=iterO stp_L4_14 (((l1.length:Int) - i4).toNat+2) (i1,l1,i2,i3,i4,c1,ax1)
def cc_A5Bool:Cod (List (C TL)) A5Bool:=kO (kC kD (kC kD (kC kD (kC kD (kC kD kN))))) (fun (z0,z1,z2,z3,z4,_)=>(A5Bool.mk z0 z1 z2 z3 z4)) (fun (x:A5Bool)=>(x.a0,(x.a1,(x.a2,(x.a3,(x.a4,())))))) (fun _=>rfl)
def ch_L4_14:kT (tY47):=kO (kS 4 (kC kI (kC (kF j_lInt) (kC (kP 0 0) (kC kI (kC (kP 1 0) (kC kI (kC kI kN))))))) (kC (Cod.var 0 56 (kC kJ (kC kJ (kC kJ (kC kJ (kC kJ (kC (kA 2) (kC (kA 3) kN)))))))) (kC (Cod.var 1 63 cc_A5Bool) (kC (kR 2 105 j_lWant) (kC (kR 3 61 j_lOp) kN))))) (fun ((z0,z1,_,z2,_,z3,z4,_),(z5,z6,z7,z8,z9,_),z10,z11,z12,_)=>(z0,z1,z2,z3,z4,(Cmd.mk z5 z6 z7 z8 z9 z11 z12),z10)) (fun (x:tY47)=>((x.1,(x.2.1,((),(x.2.2.1,((),(x.2.2.2.1,(x.2.2.2.2.1,()))))))),((x.2.2.2.2.2.1.kind,(x.2.2.2.2.2.1.device,(x.2.2.2.2.2.1.epoch,(x.2.2.2.2.2.1.req,(x.2.2.2.2.2.1.n,((),((),()))))))),(x.2.2.2.2.2.2,(x.2.2.2.2.2.1.wants,(x.2.2.2.2.2.1.ops,())))))) (fun _=>rfl)
def co0_L4_14:kT (Int×Int×Int×Cmd×A5Bool):=kO (kS 8 (kC kI (kC (kP 0 0) (kC kI (kC kI kN)))) (kC (Cod.var 0 56 (kC kJ (kC kJ (kC kJ (kC kJ (kC kJ (kC (kA 2) (kC (kA 7) kN)))))))) (kC (Cod.var 1 63 cc_A5Bool) (kC (kR 2 105 j_lWant) (kC (kR 7 61 j_lOp) kN))))) (fun ((z0,_,z1,z2,_),(z3,z4,z5,z6,z7,_),z8,z9,z10,_)=>(z0,z1,z2,(Cmd.mk z3 z4 z5 z6 z7 z9 z10),z8)) (fun (x:Int×Int×Int×Cmd×A5Bool)=>((x.1,((),(x.2.1,(x.2.2.1,())))),((x.2.2.2.1.kind,(x.2.2.2.1.device,(x.2.2.2.1.epoch,(x.2.2.2.1.req,(x.2.2.2.1.n,((),((),()))))))),(x.2.2.2.2,(x.2.2.2.1.wants,(x.2.2.2.1.ops,())))))) (fun _=>rfl)
def sl_L4_14:SFn TL:=SFn.one ch_L4_14.dec (fun p=>L4_14 p.1 p.2.1 p.2.2.1 p.2.2.2.1 p.2.2.2.2.1 p.2.2.2.2.2.1 p.2.2.2.2.2.2) (.exit 2) co0_L4_14.enc
def cs_lL4_14:cL:=[(16,df_within),(19,df_l13_step)]
def v_L4_14:Env:=envOf tab sl sh [] [(16,.pure),(19,.keep)]
theorem v_L4_14_ok:EnvOK PR (mkD cs_lL4_14 sZ) v_L4_14:=envOK_of base aN (aC (oD ok_within rfl) (aC (oD ok_l13_step rfl) aN))
theorem run_L4_14 (x:tY47):Out.run (mkO cs_lL4_14 sZ) (evRound v_L4_14 12 20 fd4.an q_L4_14 (loopIn (loopsOf fd4.body) 14) (ch_L4_14.enc x)) (back ch_L4_14 co0_L4_14 fun e=>exE e (.exit 2))=stp_L4_14 x:=by kernel_rfl
theorem ok_L4_14:LoopOK PR (oneS sl_L4_14) nt4 q_L4_14 (loopIn (loopsOf fd4.body) 14) :=
  loop_one v_L4_14_ok (loops:=12) (k:=20) (an:=fd4.an) (by kernel_rfl) (FnSt.subl rfl st4.keys (aC (.inl (by kernel_rfl)) (aC (.inl (by kernel_rfl)) aN))) ch_L4_14 co0_L4_14 (.exit 2) rfl stp_L4_14 _ run_L4_14 (fun x y h=>⟨_,h⟩) (fun _=>below_iff.1 rfl)
def deskLoses (i1:Int)(l1:List Int):Option Bool :=
 ob (known) fun r0 =>
 cond (!r0)
 (some false)
 (ob (within i1 5) fun r1 =>
 ob (L4_7 r1 l1 0 1 (Cmd.mk 3 0 1 0 0 [] [])) fun y2 =>
 ob (L4_14 y2.1 y2.2.1 y2.2.2.1 0 0 y2.2.2.2 (A5Bool.mk false false false false false)) fun y3 =>
 ob (begun) fun r4 =>
 ob (deskDo r4 y3.2.2.2.1) fun r5 =>
 ob (deskDo r5.1 (Cmd.mk 6 0 0 0 0 [] [])) fun r6 =>
 ob (l13_step (w64 (y3.2.1+1)) 1 0) fun r7 =>
 ob (deskDo r6.1 (Cmd.mk 3 0 1 0 0 [] [r7])) fun r8 =>
 ob (deskDo r6.1 (Cmd.mk 2 0 1 9 5 [] [])) fun r9 =>
 cond (r5.2.err == 0)
 (cond (r6.2.err == 0)
 (cond (r6.2.n == y3.2.1)
 (cond (r8.2.err == 16)
 (cond (r9.2.err == 16)
 (cond ((r6.1.book.leases.length:Int) == 0)
 (ob (r6.1.book.counters[0]?) fun e10 =>
 cond (e10.up_ == (w64 (10 - y3.1)))
 (ob (r6.1.book.counters[0]?) fun e11 =>
 cond (e11.down_ == 10)
 (cond ((r6.1.book.bound.length:Int) == y3.2.2.1)
 (cond ((r6.1.lost.length:Int) == 1)
 (ob (r6.1.lost[0]?) fun e12 =>
 cond (e12.seq == y3.2.1)
 (ob (ref12Sound r6.1.book) fun r13 =>
 some r13)
 (some false))
 (some false))
 (some false))
 (some false))
 (some false))
 (some false))
 (some false))
 (some false))
 (some false))
 (some false))
 (some false))
def un_deskLoses (p:Int×(List Int)):Option Bool:=deskLoses p.1 p.2
def df_deskLoses:DFn TL:=DFn.of (DA.cons dI (DA.one (DT.one di_lInt))) un_deskLoses (DA.one dB)
theorem run_deskLoses:DRun [(15,df_known),(16,df_within),(20,df_begun),(18,df_deskDo),(19,df_l13_step),(21,df_ref12Sound)] [(104007,sl_L4_7),(104014,sl_L4_14)] (envOf tab sl sh [(4,fd4)] [(15,.pure),(16,.pure),(20,.keep),(18,.keep),(19,.keep),(21,.pure)]) 4 (DA.cons dI (DA.one (DT.one di_lInt))) un_deskLoses (DA.one dB):=fun _=>by kernel_rfl
theorem ok_deskLoses:DOK PR 4 .pure df_deskLoses:=dok run_deskLoses (envOK_of base (aC (st4.okl rfl (aC (lC ok_L4_7 rfl) (aC (lC ok_L4_14 rfl) aN))) aN) (aC (oD ok_known rfl) (aC (oD ok_within rfl) (aC (oD ok_begun rfl) (aC (oD ok_deskDo rfl) (aC (oD ok_l13_step rfl) (aC (oD ok_ref12Sound rfl) aN))))))) (.inr rfl) st4.enters
end
end Go.Proofs.YtcjpeijiaojeiaaGreat
