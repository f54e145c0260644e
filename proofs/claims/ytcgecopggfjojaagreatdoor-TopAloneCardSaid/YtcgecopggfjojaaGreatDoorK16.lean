/- Part 16: the logic, the plain laws and the walks behind TopAlone (lemmas only; each says its own conditions). -/
import Derived.Test.YtcgecopggfjojaaGreatDoorK15
set_option maxRecDepth 100000
set_option linter.all false
set_option maxHeartbeats 0
namespace Go.Proofs.YtcgecopggfjojaaGreatDoor
open Go Go.RowKit Go.Proofs.Tryz E Fl Cf Od Bf Cr Rt Tr Gw Dg Au Wi
attribute [local irreducible] E.CW E.OW E.QW E.AW E.lJ E.blockK E.PV
def Ya(X:E.Sx)(s:Gw.S)(N:Nat)(pm:List Yb)(t:Int)(q:Gw.Rq)(S:Nat->Prop)(w0:World)(hS:(HP.si X s).bA S w0)(hb:∀k,S k->k<w0.heap.size)(hH:SH w0 (Fm w0 S) X pm)(hP:SP X)(hI:SI X.g.q s N)(hpr:ag X.g.q.ts t=true)(hqf:q.fit)(hk:q.kd=3):
  CF 131 #[.pointer (some ⟨X.B,0,.none⟩),J t,.agg q.cw.toArray] w0 S fun v Hn=>∃y:Rw,y.r=(aR Wi.ops (Cr.ev X.g.q t) s.f.tk (ai s.f t.toNat) (ak s t.toNat) q).2.2.1/\v=.tuple #[y.v,J (aR Wi.ops (Cr.ev X.g.q t) s.f.tk (ai s.f t.toNat) (ak s t.toNat) q).2.2.2]/\Hn=[HP.si X (after s t.toNat (aR Wi.ops (Cr.ev X.g.q t) s.f.tk (ai s.f t.toNat) (ak s t.toNat) q).1 (aR Wi.ops (Cr.ev X.g.q t) s.f.tk (ai s.f t.toNat) (ak s t.toNat) q).2.1),HP.ro y.mem]:=by
 have hq1:=hqf.pick;have hq2:=hqf.drop;have hq3:=hqf.num;obtain⟨ht0,htc,hta⟩:=hI.tc hpr;have hgr:=hH.hg;have hgf:=hP.gf;have hck:=hP.ck;have hgt:=hgr.t;refine Zp (HA.au hS hb) ?_;refine Zx (k:=Z3Q (k:=fun z hzq hzok=>?_));have hzf:=Si.qW hzq;have hzF:FI X.g.q z.f.q:=by rw[hzf];exact hI.fi
 have hzt:=Si.tk hzq;have hzc:=Si.cr hzq t.toNat;have hza:=Si.ac hzq t.toNat;have hzl:=Si.al hzq;have hzw:=hzok.1;have hzn:=Si.fl hzq;have hpt:Pr X.g.q t.toNat:=by unfold Pr;rw[af ht0];exact hpr
 have hzV:=Fe.cw hzF hpt;rw[af ht0] at hzV;have hT:=iF hck hpt;rw[af ht0] at hT;have htl:=gU hT;refine Z4y ?_;intros;refine CW.dV mixed [1,1,3] rfl ?_;iterate 14 refine Z4v ?_
 refine E.AW.first 14 rfl K0 K0 K0 rfl rfl rfl (PV.indexAddr (fun w hw=>Fe.rc (Si.rf (hw.aL (i:=2) rfl))) Ux Jx rfl rfl rfl (E.tn K1) (by first|(simp;done)|(simp;omega)|(rw[E.Fx.ct Cw.fx];done)|(rw[E.Fx.ct Cw.fx];omega)|(rw[E.Fx.iW Cw.fx];done)|(rw[E.Fx.iW Cw.fx];omega)) K1 K6) ?_
 refine E.AW.first 15 rfl K0 K0 K0 rfl rfl rfl (PV.eU Cw.fx (fun w hw=>Fe.rc (Si.rf (hw.aL (i:=2) rfl))) Gx rfl rfl K1) ?_;refine E.AW.first 16 rfl K0 K0 K0 rfl rfl rfl (PV.kv Cw.z Cw.fx (fun w hw=>Fe.rc (Si.rf (hw.aL (i:=2) rfl))) Ix rfl rfl K1 rfl K6) ?_;iterate 3 refine Z4v ?_
 refine E.AW.two 20 24 K0 rfl rfl ?_ ?_
 focus
  refine Z3Y (k:=Z4w ?_);iterate 7 refine Z4v ?_
  intro BF
 rotate_right
 focus
  refine Zo (k:=Z4w ?_);intros;refine E.AW.one 20 K0 rfl ?_;refine Z3Y (k:=Z4w ?_);iterate 6 refine Z4v ?_
 all_goals
  have hgo:res Od.O.z (kq (eY X.g t).q (bm z.f t.toNat).b.q q.num)=(res Od.O.z (kq (Cr.ev X.g.q t).m (ai s.f t.toNat).b q.num)):=by rw[jz];show res _ (kq _ (bm z.f t.toNat).q.b _)=_;rw[hzc];rfl
  refine Z4u ?_;rw[hgo];refine Z4J ?_;refine OW.kz (ey z [3,3,3,3,0] rfl (Si.oW hzq htc hta) hzok) ?_;refine OW.kz (qb (Rw.tz (r:={Gw.Rp.z with st:=(res Od.O.z (kq (Cr.ev X.g.q t).m (ai s.f t.toNat).b q.num)).1.st,dn:=(res Od.O.z (kq (Cr.ev X.g.q t).m (ai s.f t.toNat).b q.num)).1.dn}) rfl rfl)) ?_
  refine Zr (k:=Z3V (k:=?_));have e9:=adw (o:=Wi.ops) (e:=Cr.ev X.g.q t) (k:=s.f.tk) (w:=(ai s.f t.toNat)) (a:=(ak s t.toNat)) hk;rw[e9];exact⟨(Rw.of {Gw.Rp.z with st:=(res Od.O.z (kq (Cr.ev X.g.q t).m (ai s.f t.toNat).b q.num)).1.st,dn:=(res Od.O.z (kq (Cr.ev X.g.q t).m (ai s.f t.toNat).b q.num)).1.dn}),rfl,rfl,rfl⟩
def Wp(X:E.Sx)(s:Gw.S)(N:Nat)(pm:List Yb)(t:Int)(q:Gw.Rq)(S:Nat->Prop)(w0:World)(hS:(HP.si X s).bA S w0)(hb:∀k,S k->k<w0.heap.size)(hH:SH w0 (Fm w0 S) X pm)(hP:SP X)(hI:SI X.g.q s N)(hpr:ag X.g.q.ts t=true)(hqf:q.fit)(hk:q.kd=4):
  CF 132 #[.pointer (some ⟨X.B,0,.none⟩),J t,.agg q.cw.toArray] w0 S fun v Hn=>∃y:Rw,y.r=(aR Wi.ops (Cr.ev X.g.q t) s.f.tk (ai s.f t.toNat) (ak s t.toNat) q).2.2.1/\v=.tuple #[y.v,J (aR Wi.ops (Cr.ev X.g.q t) s.f.tk (ai s.f t.toNat) (ak s t.toNat) q).2.2.2]/\Hn=[HP.si X (after s t.toNat (aR Wi.ops (Cr.ev X.g.q t) s.f.tk (ai s.f t.toNat) (ak s t.toNat) q).1 (aR Wi.ops (Cr.ev X.g.q t) s.f.tk (ai s.f t.toNat) (ak s t.toNat) q).2.1),HP.ro y.mem]:=by
 have hq1:=hqf.pick;have hq2:=hqf.drop;have hq3:=hqf.num;obtain⟨ht0,htc,hta⟩:=hI.tc hpr;have hgr:=hH.hg;have hgf:=hP.gf;have hck:=hP.ck;refine Zp (HA.au hS hb) ?_;refine Zx (k:=Z3Q (k:=fun z hzq hzok=>?_));have hzf:=Si.qW hzq;have hzF:FI X.g.q z.f.q:=by rw[hzf];exact hI.fi
 have hzt:=Si.tk hzq;have hzc:=Si.cr hzq t.toNat;have hza:=Si.ac hzq t.toNat;have hzl:=Si.al hzq;have hzw:=hzok.1;have hzn:=Si.fl hzq;have hpt:Pr X.g.q t.toNat:=by unfold Pr;rw[af ht0];exact hpr
 have hzV:=Fe.cw hzF hpt;rw[af ht0] at hzV;have hT:=iF hck hpt;rw[af ht0] at hT;have htl:=gU hT;refine Z4y ?_;intros;refine CW.dV mixed [0,1,3] rfl ?_;iterate 11 refine Z4v ?_
 refine E.AW.first 11 rfl K0 K0 K0 rfl rfl rfl (PV.indexAddr (fun w hw=>Fe.rc (Si.rf (hw.aL (i:=2) rfl))) Ux Jx rfl rfl rfl (E.tn K1) (by first|(simp;done)|(simp;omega)|(rw[E.Fx.ct Cw.fx];done)|(rw[E.Fx.ct Cw.fx];omega)|(rw[E.Fx.iW Cw.fx];done)|(rw[E.Fx.iW Cw.fx];omega)) K1 K6) ?_
 refine E.AW.first 12 rfl K0 K0 K0 rfl rfl rfl (PV.nm Cw.z Cw.fx (fun w hw=>Fe.rc (Si.rf (hw.aL (i:=2) rfl))) Ix rfl rfl K1) ?_;iterate 5 refine Z4v ?_
 refine Z2a (k:=?_);refine OW.call Mx rfl rfl rfl rfl rfl rfl _ (fun w hw=>MA X.g t (bm z.f t.toNat) z.f.tk w (hw.lN hgr) hgf hT hzF.tk K67 hzV) ?_;rintro _ _ ⟨AV,cV,rfl,rfl⟩;refine Z4u ?_;rw[hzc];have hzb:((bm z.f t.toNat).b.q.q.length:Int)=(ai s.f t.toNat).b.q.length:=by rw[<-hzc];rfl
 rw[hzb];refine Z4J ?_;refine OW.kz (Gm [1,0,1,1,1,1] 1 rfl rfl (Rw.mk {Gw.Rp.z with jb:=(jZ (ai s.f t.toNat)),qd:=((ai s.f t.toNat).b.q.length:Int)} AV cV none 0).mem (fun p hp=>by simp only[Rw.mem,er,bg,or_false] at hp;rcases hp with rfl|rfl<;>first|exact .inr rfl|(left;simp))) ?_
 refine Z3Z (k:=Zr (k:=Z40 (k:=?_)));have e9:=ad0 (o:=Wi.ops) (e:=Cr.ev X.g.q t) (k:=s.f.tk) (w:=(ai s.f t.toNat)) (a:=(ak s t.toNat)) hk;rw[e9];exact⟨(Rw.mk {Gw.Rp.z with jb:=(jZ (ai s.f t.toNat)),qd:=((ai s.f t.toNat).b.q.length:Int)} AV cV none 0),rfl,rfl,rfl⟩
def YT(X:E.Sx)(s:Gw.S)(N:Nat)(pm:List Yb)(t:Int)(q:Gw.Rq)(S:Nat->Prop)(w0:World)(hS:(HP.si X s).bA S w0)(hb:∀k,S k->k<w0.heap.size)(hH:SH w0 (Fm w0 S) X pm)(hP:SP X)(hI:SI X.g.q s N)(hpr:ag X.g.q.ts t=true)(hqf:q.fit)(hk:q.kd=5):
  CF 133 #[.pointer (some ⟨X.B,0,.none⟩),J t,.agg q.cw.toArray] w0 S fun v Hn=>∃y:Rw,y.r=(aR Wi.ops (Cr.ev X.g.q t) s.f.tk (ai s.f t.toNat) (ak s t.toNat) q).2.2.1/\v=.tuple #[y.v,J (aR Wi.ops (Cr.ev X.g.q t) s.f.tk (ai s.f t.toNat) (ak s t.toNat) q).2.2.2]/\Hn=[HP.si X (after s t.toNat (aR Wi.ops (Cr.ev X.g.q t) s.f.tk (ai s.f t.toNat) (ak s t.toNat) q).1 (aR Wi.ops (Cr.ev X.g.q t) s.f.tk (ai s.f t.toNat) (ak s t.toNat) q).2.1),HP.ro y.mem]:=by
 have hq1:=hqf.pick;have hq2:=hqf.drop;have hq3:=hqf.num;obtain⟨ht0,htc,hta⟩:=hI.tc hpr;have hgr:=hH.hg;have hgf:=hP.gf;have hck:=hP.ck;refine Zp (HA.au hS hb) ?_;refine Ze (k:=Z3Q (k:=fun z hzq hzok=>?_));have hzf:=Si.qW hzq;have hzF:FI X.g.q z.f.q:=by rw[hzf];exact hI.fi
 have hzt:=Si.tk hzq;have hzc:=Si.cr hzq t.toNat;have hza:=Si.ac hzq t.toNat;have hzl:=Si.al hzq;have hzw:=hzok.1;have hzn:=Si.fl hzq;have hpt:Pr X.g.q t.toNat:=by unfold Pr;rw[af ht0];exact hpr
 have hzV:=Fe.cw hzF hpt;rw[af ht0] at hzV;have hT:=iF hck hpt;rw[af ht0] at hT;have htl:=gU hT;have hlg:(cv z t.toNat).lw.g=(ak s t.toNat).log:=aq Gw.Ac.log hza;have hlf:=(gI hI t.toNat).log;refine Z3 (k:=Z1i (k:=fun B1=>Z41 (k:=fun B2=>Zf (k:=Zi (k:=Zb (k:=Ze (k:=Z3 (k:=ZJ (k:=Z2O (k:=Z2q (k:=Z2Q (k:=Z4A ?_))))))))))));refine OW.pure rfl rfl rfl (PV.indexAddr (iH (i:=3) rfl) Ux Jx rfl rfl rfl (E.tn K1) (by first|(simp;done)|(simp;omega)|(rw[E.Fx.ct Aw.fx];done)|(rw[E.Fx.ct Aw.fx];omega)|(rw[E.Fx.iW Aw.fx];done)|(rw[E.Fx.iW Aw.fx];omega)) K1 K6) ?_
 refine OW.pure rfl rfl rfl (PV.eU Aw.fx (iH (i:=3) rfl) Gx rfl rfl K1) ?_;refine OW.pure rfl rfl rfl (PV.kv (vs:=(cv z t.toNat).lw.cells) Aw.z Aw.fx (iH (i:=3) rfl) Ix rfl rfl K1 rfl K6) ?_;refine Z4u ?_;intro BL;refine CW.bO 0 (HP.aw BL 130 (cv z t.toNat).lw.cells) rfl rfl ?_;refine Z4z ?_;iterate 3 refine Z4x ?_
 refine OW.put 20 ((cv z t.toNat).lw.v) rfl rfl ?_;refine OW.call Mx rfl rfl rfl rfl rfl rfl _ (fun w hw=>ND (cv z t.toNat).lw q.num w (by rw[hlg];exact hlf) (hzok.2 _ (nZ (show t.toNat<z.ws.length by omega))) hq3 (by first|exact(Si.ra (hw.aL (i:=1) rfl) (show t.toNat<z.ws.length by omega)).at 1 rfl|exact(Si.ra (hw.aL (i:=2) rfl) (show t.toNat<z.ws.length by omega)).at 1 rfl|exact(Si.ra (hw.aL (i:=3) rfl) (show t.toNat<z.ws.length by omega)).at 1 rfl|exact(Si.ra (hw.aL (i:=4) rfl) (show t.toNat<z.ws.length by omega)).at 1 rfl|exact(Si.ra (hw.aL (i:=5) rfl) (show t.toNat<z.ws.length by omega)).at 1 rfl|exact(Si.ra (hw.aL (i:=6) rfl) (show t.toNat<z.ws.length by omega)).at 1 rfl|exact(Si.ra (hw.aL (i:=7) rfl) (show t.toNat<z.ws.length by omega)).at 1 rfl|exact(Si.ra (hw.aL (i:=8) rfl) (show t.toNat<z.ws.length by omega)).at 1 rfl)) ?_;rintro _ _ ⟨AS,cS,rfl,rfl⟩
 refine Z4u ?_;rw[hlg];refine Z4z ?_;iterate 2 refine Z4x ?_
 refine OW.put 27 (O (ak s t.toNat).log.dF) rfl (by rw[<-hlg]) ?_
 refine Z4L ?_;refine OW.kz (Gm [1,0,2,2,2,2] 1 rfl rfl (Rw.mk {Gw.Rp.z with dF:=(ak s t.toNat).log.dF,kS:=(since (ak s t.toNat).log q.num).1} none 0 AS cS).mem (fun p hp=>by simp only[Rw.mem,er,bg,or_false] at hp;rcases hp with rfl|rfl<;>first|exact .inr rfl|(left;simp))) ?_
 refine Z3Z (k:=Zr (k:=Z40 (k:=?_)));have e9:=aeh (o:=Wi.ops) (e:=Cr.ev X.g.q t) (k:=s.f.tk) (w:=(ai s.f t.toNat)) (a:=(ak s t.toNat)) hk;rw[e9];exact⟨(Rw.mk {Gw.Rp.z with dF:=(ak s t.toNat).log.dF,kS:=(since (ak s t.toNat).log q.num).1} none 0 AS cS),rfl,rfl,rfl⟩
def aaa(X:E.Sx)(s:Gw.S)(N:Nat)(pm:List Yb)(t:Int)(q:Gw.Rq)(S:Nat->Prop)(w0:World)(hS:(HP.si X s).bA S w0)(hb:∀k,S k->k<w0.heap.size)(hH:SH w0 (Fm w0 S) X pm)(hP:SP X)(hI:SI X.g.q s N)(hpr:ag X.g.q.ts t=true)(hqf:q.fit)(hk:q.kd=6):
  CF 134 #[.pointer (some ⟨X.B,0,.none⟩),J t,.agg q.cw.toArray] w0 S fun v Hn=>∃y:Rw,y.r=(aR Wi.ops (Cr.ev X.g.q t) s.f.tk (ai s.f t.toNat) (ak s t.toNat) q).2.2.1/\v=.tuple #[y.v,J (aR Wi.ops (Cr.ev X.g.q t) s.f.tk (ai s.f t.toNat) (ak s t.toNat) q).2.2.2]/\Hn=[HP.si X (after s t.toNat (aR Wi.ops (Cr.ev X.g.q t) s.f.tk (ai s.f t.toNat) (ak s t.toNat) q).1 (aR Wi.ops (Cr.ev X.g.q t) s.f.tk (ai s.f t.toNat) (ak s t.toNat) q).2.1),HP.ro y.mem]:=by
 have hq1:=hqf.pick;have hq2:=hqf.drop;have hq3:=hqf.num;obtain⟨ht0,htc,hta⟩:=hI.tc hpr;have hgr:=hH.hg;have hgf:=hP.gf;have hck:=hP.ck;refine Zp (HA.au hS hb) ?_;refine Ze (k:=Z3Q (k:=fun z hzq hzok=>?_));have hzf:=Si.qW hzq;have hzF:FI X.g.q z.f.q:=by rw[hzf];exact hI.fi
 have hzt:=Si.tk hzq;have hzc:=Si.cr hzq t.toNat;have hza:=Si.ac hzq t.toNat;have hzl:=Si.al hzq;have hzw:=hzok.1;have hzn:=Si.fl hzq;have hpt:Pr X.g.q t.toNat:=by unfold Pr;rw[af ht0];exact hpr
 have hzV:=Fe.cw hzF hpt;rw[af ht0] at hzV;have hT:=iF hck hpt;rw[af ht0] at hT;have htl:=gU hT;refine Z3 (k:=Z1i (k:=fun B1=>Z41 (k:=fun B2=>Zf (k:=Zi (k:=Zb (k:=Z4I ?_))))));refine CW.dV mixed [1,1,1] rfl ?_
 all_goals
  refine Z1F (k:=?_)
 all_goals
  refine Z2G (k:=?_)
 all_goals
  refine Z2H (k:=?_)
 all_goals
  refine E.AW.first 3 rfl K0 K0 K0 rfl rfl rfl (PV.load (i:=1) Nx rfl rfl rfl rfl) ?_
 all_goals
  refine Z2F (k:=?_)
 all_goals
  refine E.AW.first 5 rfl K0 K0 K0 rfl rfl rfl (PV.indexAddr (iH (i:=2) rfl) Ux Jx rfl rfl rfl (E.tn K1) (by first|(simp;done)|(simp;omega)|(rw[E.Fx.ct Aw.fx];done)|(rw[E.Fx.ct Aw.fx];omega)|(rw[E.Fx.iW Aw.fx];done)|(rw[E.Fx.iW Aw.fx];omega)) K1 K6) ?_
 all_goals
  refine E.AW.first 6 rfl K0 K0 K0 rfl rfl rfl (PV.eU Aw.fx (iH (i:=2) rfl) Gx rfl rfl K1) ?_
 all_goals
  refine E.AW.first 7 rfl K0 K0 K0 rfl rfl rfl (PV.oZ Aw.z Aw.fx (iH (i:=2) rfl) Nx rfl rfl K1 rfl) ?_
 all_goals
  refine E.AW.first 8 rfl K0 K0 K0 rfl rfl rfl (PV.fieldAddr Ax rfl rfl) ?_
 all_goals
  refine E.AW.first 9 rfl K0 K0 K0 rfl rfl rfl (PV.load (i:=0) Nx rfl rfl rfl rfl) ?_
 all_goals
  refine Z4H ?_
 all_goals
  refine OW.call Mx rfl rfl rfl rfl rfl rfl _ (fun w hw=>Jh (cv z t.toNat).A (cv z t.toNat).c (cv z t.toNat).a.ring q.num w hq3 (by first|exact(Si.ra (hw.aL (i:=1) rfl) (show t.toNat<z.ws.length by omega)).at 0 rfl|exact(Si.ra (hw.aL (i:=2) rfl) (show t.toNat<z.ws.length by omega)).at 0 rfl|exact(Si.ra (hw.aL (i:=3) rfl) (show t.toNat<z.ws.length by omega)).at 0 rfl|exact(Si.ra (hw.aL (i:=4) rfl) (show t.toNat<z.ws.length by omega)).at 0 rfl|exact(Si.ra (hw.aL (i:=5) rfl) (show t.toNat<z.ws.length by omega)).at 0 rfl|exact(Si.ra (hw.aL (i:=6) rfl) (show t.toNat<z.ws.length by omega)).at 0 rfl|exact(Si.ra (hw.aL (i:=7) rfl) (show t.toNat<z.ws.length by omega)).at 0 rfl|exact(Si.ra (hw.aL (i:=8) rfl) (show t.toNat<z.ws.length by omega)).at 0 rfl)) ?_;rintro _ _ ⟨AV,cV,rfl,rfl⟩
 all_goals
  first|(refine E.AW.nil [1,1,1] rfl ?_)|(refine E.AW.nil [2,2,2] rfl ?_)|(refine E.AW.nil [3,3,3] rfl ?_)|(refine E.AW.nil [4,4,4] rfl ?_)|(refine E.AW.nil [5,5,5] rfl ?_)|(refine E.AW.nil [6,6,6] rfl ?_)|(refine E.AW.nil [7,7,7] rfl ?_)|(refine E.AW.nil [0,0,0] rfl ?_)|(refine E.AW.nil [0,0,0] rfl ?_)
 all_goals
  refine E.AW.first 11 rfl K0 K0 K0 rfl rfl rfl (PV.move rfl rfl) ?_
 all_goals
  refine E.AW.first 12 rfl K0 K0 K0 rfl rfl rfl (PV.extract rfl rfl rfl) ?_
 all_goals
  refine E.AW.first 13 rfl K0 K0 K0 rfl rfl rfl (PV.extract rfl rfl rfl) ?_
 all_goals
  refine E.AW.first 14 rfl K0 K0 K0 rfl rfl rfl (PV.assign rfl rfl) ?_
 all_goals
  refine E.AW.first 15 rfl K0 K0 K0 rfl rfl rfl (PV.assign rfl rfl) ?_
 all_goals
  refine Z4E ?_
 all_goals
  skip;refine Zb (k:=Ze (k:=Z4I ?_));rw[hza];refine Z3 (k:=ZJ (k:=Z37 (k:=Zi (k:=Z4B ?_))));refine CW.cond rfl (fun hc=>?_) (fun hc=>?_)
  ·simp only[bz,reduceCtorEq] at hc
   all_goals
    have he:(bT (ak s t.toNat).ring q.num).2=0:=by assumption
    refine Z3 (k:=ZJ (k:=Z2O (k:=Z2q (k:=?_))));refine OW.pure rfl rfl rfl (PV.load (i:=3) Nx rfl rfl rfl rfl) ?_;refine ZJ (k:=Z4A ?_);refine OW.pure rfl rfl rfl (PV.indexAddr (iH (i:=4) rfl) Ux Jx rfl rfl rfl (E.tn K1) (by first|(rw[E.Fx.ct Aw.fx];done)|(rw[E.Fx.ct Aw.fx];omega)) K1 K6) ?_
    refine OW.pure rfl rfl rfl (PV.eU Aw.fx (iH (i:=4) rfl) Gx rfl rfl K1) ?_;refine OW.kr (i:=4) (((cv z t.toNat).jv (bT (ak s t.toNat).ring q.num).1 AV cV)) Aw.z Aw.fx Js rfl rfl rfl rfl rfl rfl rfl (oM _) rfl rfl K1 ?_;refine Zi (k:=Zb (k:=Ze (k:=Z4z ?_)));refine OW.pure rfl rfl rfl (PV.build (ps:=[]) rfl rfl (fun w=>(mZ).h w)) ?_;refine ZJ (k:=Z2z (k:=Zf (k:=?_)));first|(refine OW.kz (dh [2,5,0,0,1,1] 2 rfl rfl (Si.mk z.f (z.ws.set t.toNat ((cv z t.toNat).jv (bT (ak s t.toNat).ring q.num).1 AV cV)) z.AO z.cO z.os).mem (Si.qg z K1 _ _ _)) ?_;refine OW.kz (ey (Si.mk z.f (z.ws.set t.toNat ((cv z t.toNat).jv (bT (ak s t.toNat).ring q.num).1 AV cV)) z.AO z.cO z.os) [3,2,2,0,0] rfl (Si.yg (ring:=(bT (ak s t.toNat).ring q.num).1) hzq htc (by rw[<-hza]<;>rfl)) (Si.QU hzok (show(cv z t.toNat).a.log.rs.length<=(cv z t.toNat).c2 from hzok.2 _ (nZ (show t.toNat<z.ws.length by omega))))) ?_)|refine OW.kz (ey z [3,3,3,3,0] rfl (Si.oW hzq htc hta) hzok) ?_
    refine Z3X (k:=Zi (k:=Zb (k:=Zm (k:=Z3V (k:=?_)))));have e9:=acp (o:=Wi.ops) (e:=Cr.ev X.g.q t) (k:=s.f.tk) (w:=(ai s.f t.toNat)) (a:=(ak s t.toNat)) hk;rw[e9];first|(rw[aa (show(Wi.ops.bT (ak s t.toNat).ring q.num).2=0 from(show(bT (ak s t.toNat).ring q.num).2=0 by assumption))];exact⟨(Rw.of Gw.Rp.z),rfl,rfl,rfl⟩)|(rw[ae (show¬(Wi.ops.bT (ak s t.toNat).ring q.num).2=0 from(show¬(bT (ak s t.toNat).ring q.num).2=0 by assumption))];exact⟨(Rw.of Gw.Rp.z),rfl,rfl,rfl⟩)
  simp only[bz,reduceCtorEq] at hc
  all_goals
   refine ZB (k:=Zb (k:=Ze (k:=Z4z ?_)));refine OW.pure rfl rfl rfl (PV.build (ps:=[]) rfl rfl (fun w=>(mZ).h w)) ?_;refine ZJ (k:=Z2y (k:=Zf (k:=?_)));first|(refine OW.kz (dh [2,5,0,0,1,1] 2 rfl rfl (Si.mk z.f (z.ws.set t.toNat ((cv z t.toNat).jv (bT (ak s t.toNat).ring q.num).1 AV cV)) z.AO z.cO z.os).mem (Si.qg z K1 _ _ _)) ?_;refine OW.kz (ey (Si.mk z.f (z.ws.set t.toNat ((cv z t.toNat).jv (bT (ak s t.toNat).ring q.num).1 AV cV)) z.AO z.cO z.os) [3,2,2,0,0] rfl (Si.yg (ring:=(bT (ak s t.toNat).ring q.num).1) hzq htc (by rw[<-hza]<;>rfl)) (Si.QU hzok (show(cv z t.toNat).a.log.rs.length<=(cv z t.toNat).c2 from hzok.2 _ (nZ (show t.toNat<z.ws.length by omega))))) ?_)|refine OW.kz (ey z [3,3,3,3,0] rfl (Si.oW hzq htc hta) hzok) ?_
   refine Z3X (k:=Zi (k:=Zb (k:=Zm (k:=Z3V (k:=?_)))));have e9:=acp (o:=Wi.ops) (e:=Cr.ev X.g.q t) (k:=s.f.tk) (w:=(ai s.f t.toNat)) (a:=(ak s t.toNat)) hk;rw[e9];first|(rw[aa (show(Wi.ops.bT (ak s t.toNat).ring q.num).2=0 from(show(bT (ak s t.toNat).ring q.num).2=0 by assumption))];exact⟨(Rw.of Gw.Rp.z),rfl,rfl,rfl⟩)|(rw[ae (show¬(Wi.ops.bT (ak s t.toNat).ring q.num).2=0 from(show¬(bT (ak s t.toNat).ring q.num).2=0 by assumption))];exact⟨(Rw.of Gw.Rp.z),rfl,rfl,rfl⟩)
def MY(X:E.Sx)(s:Gw.S)(N:Nat)(pm:List Yb)(x:Sw)(S:Nat->Prop)(w0:World)(hS:(HP.si X s).bA S w0)(hb:∀k,S k->k<w0.heap.size)(hH:SH w0 (Fm w0 S) X pm)(hP:SP X)(hI:SI X.g.q s N)(hN:N<=900000000)(hxf:x.fit)(hkd:x.x.kd=3):
  CF 55 #[.pointer (some ⟨X.B,0,.none⟩),x.v] w0 S fun v Hn=>∃e,v=J e/\Hn=[HP.si X (Gw.step Wi.ops X.g.q X.key s x.x)]:=by
 have hgr:=hH.hg;have hgf:=hP.gf;have hck:=hP.ck;refine Zp (HA.au hS hb) ?_;refine Zx (k:=Z3Q (k:=fun z hzq hzok=>?_));have hzf:=Si.qW hzq;have hzF:FI X.g.q z.f.q:=by rw[hzf];exact hI.fi
 have hzt:=Si.tk hzq;have hzl:=Si.al hzq;have hzw:=hzok.1;have hzn:=Si.fl hzq;have hzc:=Si.cr hzq x.x.tn.toNat;refine Z4y ?_;intros;refine Z23 (k:=?_);iterate 12 refine Z4v ?_
 refine E.AW.two 12 16 K0 rfl rfl ?_ ?_
 focus
  refine Z42 (k:=fun zf hzz=>Z4w ?_);iterate 7 refine Z4v ?_
  intro BF
 rotate_right
 focus
  refine Zo (k:=Z4w ?_);intros;refine Z1L (k:=Z42 (k:=fun zf hzz=>Z4w ?_));iterate 6 refine Z4v ?_
 all_goals
  refine Zc ?_ ?_
  ·intros;obtain⟨hpr,he⟩:=aaO K2;have hz2:=hzz ⟨hpr,he⟩;rw[hzc,hzf] at hz2;obtain⟨_,htc,hta⟩:=hI.tc hpr;refine Zy (k:=Zz (k:=Z43 (k:=?_)));refine Zl ?_;exact⟨_,rfl,rfl⟩
  refine Zx (k:=Z4J ?_);intros;refine Z43 (k:=?_);refine Zl ?_;exact⟨_,rfl,rfl⟩
def Te(X:E.Sx)(s:Gw.S)(N:Nat)(pm:List Yb)(x:Sw)(S:Nat->Prop)(w0:World)(hS:(HP.si X s).bA S w0)(hb:∀k,S k->k<w0.heap.size)(hH:SH w0 (Fm w0 S) X pm)(hP:SP X)(hI:SI X.g.q s N)(hN:N<=900000000)(hxf:x.fit)(hkd:x.x.kd=4):
  CF 56 #[.pointer (some ⟨X.B,0,.none⟩),x.v] w0 S fun v Hn=>∃e,v=J e/\Hn=[HP.si X (Gw.step Wi.ops X.g.q X.key s x.x)]:=by
 have hgr:=hH.hg;have hgf:=hP.gf;have hck:=hP.ck;refine Zp (HA.au hS hb) ?_;refine Zx (k:=Z3Q (k:=fun z hzq hzok=>?_));have hzf:=Si.qW hzq;have hzF:FI X.g.q z.f.q:=by rw[hzf];exact hI.fi
 have hzt:=Si.tk hzq;have hzl:=Si.al hzq;have hzw:=hzok.1;have hzn:=Si.fl hzq;have hza:=Si.ac hzq x.x.tn.toNat;refine Z4y ?_;intros;refine Z23 (k:=?_);iterate 6 refine Z4v ?_
 refine Z4N ?_;refine Zg @vg ?_;refine Zc ?_ ?_
 ·refine Zx (k:=Z4J ?_);intros;refine Z44 (k:=?_);refine Zl ?_;exact⟨_,rfl,rfl⟩
 refine Z4u ?_;intro hc;have hpr:ag X.g.q.ts x.x.tn=true:=by assumption
 obtain⟨ht0,htc,hta⟩:=hI.tc hpr;have htk:=(rp (l:=(cv z x.x.tn.toNat).a.ring) (key:=X.key) (tn:=x.x.tn) (aG:=x.x.aG) (now:=z.f.tk) hxf.role).tag;refine Z1x (k:=Zx (k:=Z1x (k:=?_)));iterate 19 refine Z4v ?_
 refine E.AW.two 19 24 K0 rfl rfl ?_ ?_
 focus
  refine Z45 (k:=fun AV cV=>Z1E (k:=Z1D (k:=Z46 (k:=Z47 (k:=Z48 (k:=?_))))));refine E.AW.one 24 K0 rfl ?_;refine OW.alloc (Jr) rfl rfl rfl rfl rfl (fun BT=>?_);refine Z1E (k:=?_);refine E.AW.first 25 rfl K0 K0 K0 rfl rfl rfl (PV.assign rfl rfl) ?_;refine Z49 (k:=?_);iterate 3 refine Z4v ?_
 rotate_right
 focus
  refine Zo (k:=Z4w ?_);intros;refine E.AW.one 19 K0 rfl ?_;refine Z45 (k:=fun AV cV=>Z1E (k:=Z1D (k:=Z46 (k:=Z47 (k:=Z48 (k:=?_))))));refine E.AW.first 25 rfl K0 K0 K0 rfl rfl rfl (PV.assign rfl rfl) ?_;refine Z49 (k:=?_);iterate 3 refine Z4v ?_
 all_goals
  refine Z4u ?_;rw[hza,hzt];refine Z4z ?_;iterate 5 refine Z4x ?_
  refine OW.put 53 (V s.f.tk) rfl (aq (Value.int .u64) hzt) ?_;refine Zc ?_ ?_
  ·intro _ hc;refine ZQ (k:=?_);iterate 5 refine Z4v ?_
   refine Z4G ?_;refine OW.kr (i:=5) (((cv z x.x.tn.toNat).jv (bX (ak s x.x.tn.toNat).ring X.key x.x.tn x.x.role x.x.aG s.f.tk).1 AV cV)) Aw.z Aw.fx Js rfl rfl rfl rfl rfl rfl rfl (oM _) rfl rfl K1 ?_;refine Z4w ?_;iterate 2 refine Z4v ?_
   first|refine E.AW.conv (dh [3,6,0,0,1,1,1] 2 rfl rfl (Si.mk z.f (z.ws.set x.x.tn.toNat ((cv z x.x.tn.toNat).jv (bX (ak s x.x.tn.toNat).ring X.key x.x.tn x.x.role x.x.aG s.f.tk).1 AV cV)) z.AO z.cO z.os).mem (Si.qg z K1 _ _ _)) ?_|refine E.AW.conv (dh [3,6,1,0,1,1,1] 2 rfl rfl (Si.mk z.f (z.ws.set x.x.tn.toNat ((cv z x.x.tn.toNat).jv (bX (ak s x.x.tn.toNat).ring X.key x.x.tn x.x.role x.x.aG s.f.tk).1 AV cV)) z.AO z.cO z.os).mem (Si.qg z K1 _ _ _)) ?_
   refine E.AW.conv (ey (Si.mk z.f (z.ws.set x.x.tn.toNat ((cv z x.x.tn.toNat).jv (bX (ak s x.x.tn.toNat).ring X.key x.x.tn x.x.role x.x.aG s.f.tk).1 AV cV)) z.AO z.cO z.os) [4,2,3,0,0,0] rfl (Si.yg (ring:=(bX (ak s x.x.tn.toNat).ring X.key x.x.tn x.x.role x.x.aG s.f.tk).1) hzq htc (by rw[<-hza]<;>rfl)) (Si.QU hzok (show(cv z x.x.tn.toNat).a.log.rs.length<=(cv z x.x.tn.toNat).c2 from hzok.2 _ (nZ (show x.x.tn.toNat<z.ws.length by omega))))) ?_
   refine Z4t ?_;refine OW.aU Mx rfl rfl rfl rfl rfl rfl _ 0 rfl (fun w S hw hs hb hc=>Cm X (after s x.x.tn.toNat (ai s.f x.x.tn.toNat) (bX (ak s x.x.tn.toNat).ring X.key x.x.tn x.x.role x.x.aG s.f.tk).1) x.x.tn (Rw.of (Gw.eQ s.f.tk 0 (bX (ak s x.x.tn.toNat).ring X.key x.x.tn x.x.role x.x.aG s.f.tk).2.1)) S w hs (fun k hk=>(hb k hk).1) (vi rfl rfl) (mu (rp hxf.role)) (by have:=hI.ol;first|omega|(show(s.outs++[]).length<=_;rw[bp];omega))) ?_;rintro _ _ rfl
   refine Zl ?_;first|exact⟨_,rfl,by rw[kN (o:=Wi.ops) hkd hpr (show(bX (ak s x.x.tn.toNat).ring X.key x.x.tn x.x.role x.x.aG s.f.tk).2.2=0 by assumption)];exact aq (fun q=>[HP.si X q]) rF⟩|exact⟨_,rfl,by rw[nP (o:=Wi.ops) hkd hpr (show(bX (ak s x.x.tn.toNat).ring X.key x.x.tn x.x.role x.x.aG s.f.tk).2.2=9 by assumption)];exact aq (fun q=>[HP.si X q]) (Bl htc hta)⟩
  refine Zc ?_ ?_
  ·intro _ hc hc;refine Z3 (k:=Z4x ?_);refine OW.put 67 (J 9) rfl (aq (Value.int .i64) K2) ?_;refine Z4L ?_;refine OW.kz (ey z [4,4,4,4,0,2] rfl hzq hzok) ?_;refine Z4t ?_;refine OW.aU Mx rfl rfl rfl rfl rfl rfl _ 0 rfl (fun w S hw hs hb hc=>Cm X s x.x.tn (Rw.of (Gw.eQ s.f.tk 9 Gw.Tk.z)) S w hs (fun k hk=>(hb k hk).1) (vi rfl rfl) (mu jd) (by have:=hI.ol;first|omega|(show(s.outs++[]).length<=_;rw[bp];omega))) ?_;rintro _ _ rfl
   refine Zl ?_;first|exact⟨_,rfl,by rw[kN (o:=Wi.ops) hkd hpr (show(bX (ak s x.x.tn.toNat).ring X.key x.x.tn x.x.role x.x.aG s.f.tk).2.2=0 by assumption)];exact aq (fun q=>[HP.si X q]) rF⟩|exact⟨_,rfl,by rw[nP (o:=Wi.ops) hkd hpr (show(bX (ak s x.x.tn.toNat).ring X.key x.x.tn x.x.role x.x.aG s.f.tk).2.2=9 by assumption)];exact aq (fun q=>[HP.si X q]) (Bl htc hta)⟩
  refine Zx (k:=Z4J ?_);intros;refine OW.kz (ey (s:=(Gw.step Wi.ops X.g.q X.key s x.x)) z [4,4,4,4] rfl (by rw[xL hI hkd hpr (show¬(bX (ak s x.x.tn.toNat).ring X.key x.x.tn x.x.role x.x.aG s.f.tk).2.2=0 by assumption) (show¬(bX (ak s x.x.tn.toNat).ring X.key x.x.tn x.x.role x.x.aG s.f.tk).2.2=9 by assumption)];exact hzq) hzok) ?_
  refine Zl ?_;exact⟨_,rfl,rfl⟩
def OG:E.Mk prog 268 5 267 (Value.int .u8) (Lit.int .u8) (fun a:Int=>0<=a/\a<256):=Vg Ux Ux
def adY(X:E.Sx)(s:Gw.S)(N:Nat)(pm:List Yb)(t:Int)(q:Gw.Rq)(w0:World)(F:Nat->Prop)(H:List HP)(hk:1<=q.kd/\q.kd<=6)(hH:SH w0 F X pm)(hP:SP X)(hI:SI X.g.q s N)(hpr:ag X.g.q.ts t=true)(hqf:q.fit):
  ∃f us,((E.eh (E.eh (E.eh (E.eh (E.eh (E.eh (fun _=>none) (1:Int) (.func (.func 129) #[.pointer (some ⟨X.B,0,.none⟩)] #[])) (2:Int) (.func (.func 130) #[.pointer (some ⟨X.B,0,.none⟩)] #[])) (3:Int) (.func (.func 131) #[.pointer (some ⟨X.B,0,.none⟩)] #[])) (4:Int) (.func (.func 132) #[.pointer (some ⟨X.B,0,.none⟩)] #[])) (5:Int) (.func (.func 133) #[.pointer (some ⟨X.B,0,.none⟩)] #[])) (6:Int) (.func (.func 134) #[.pointer (some ⟨X.B,0,.none⟩)] #[])) q.kd).getD .nilFunc=.func (.func f) (List.toArray us) #[]/\E.Nm prog f/\∀w S,HA w0 F (HP.si X s::H) w->(HP.si X s).bA S w->(∀k,S k->k<w.heap.size/\¬F k)->Calls prog f (us++([J t,.agg q.cw.toArray]:bi)).toArray w (bK w (Fm w S) fun v Hn=>∃y:Rw,y.r=(aR Wi.ops (Cr.ev X.g.q t) s.f.tk (ai s.f t.toNat) (ak s t.toNat) q).2.2.1/\v=.tuple #[y.v,J (aR Wi.ops (Cr.ev X.g.q t) s.f.tk (ai s.f t.toNat) (ak s t.toNat) q).2.2.2]/\Hn=[HP.si X (after s t.toNat (aR Wi.ops (Cr.ev X.g.q t) s.f.tk (ai s.f t.toNat) (ak s t.toNat) q).1 (aR Wi.ops (Cr.ev X.g.q t) s.f.tk (ai s.f t.toNat) (ak s t.toNat) q).2.1),HP.ro y.mem]):=by
 have h6:q.kd=1\/q.kd=2\/q.kd=3\/q.kd=4\/q.kd=5\/q.kd=6:=K1;rcases h6 with h|h|h|h|h|h
 ·exact⟨129,[.pointer (some ⟨X.B,0,.none⟩)],by rw[h];rfl,Mx,fun w S hw hs hb=>YY X s N pm t q S w hs (fun k h=>(hb k h).1) (hH.fD hw hb) hP hI hpr hqf h⟩
 ·exact⟨130,[.pointer (some ⟨X.B,0,.none⟩)],by rw[h];rfl,Mx,fun w S hw hs hb=>YZ X s N pm t q S w hs (fun k h=>(hb k h).1) (hH.fD hw hb) hP hI hpr hqf h⟩
 ·exact⟨131,[.pointer (some ⟨X.B,0,.none⟩)],by rw[h];rfl,Mx,fun w S hw hs hb=>Ya X s N pm t q S w hs (fun k h=>(hb k h).1) (hH.fD hw hb) hP hI hpr hqf h⟩
 ·exact⟨132,[.pointer (some ⟨X.B,0,.none⟩)],by rw[h];rfl,Mx,fun w S hw hs hb=>Wp X s N pm t q S w hs (fun k h=>(hb k h).1) (hH.fD hw hb) hP hI hpr hqf h⟩
 ·exact⟨133,[.pointer (some ⟨X.B,0,.none⟩)],by rw[h];rfl,Mx,fun w S hw hs hb=>YT X s N pm t q S w hs (fun k h=>(hb k h).1) (hH.fD hw hb) hP hI hpr hqf h⟩
 exact⟨134,[.pointer (some ⟨X.B,0,.none⟩)],by rw[h];rfl,Mx,fun w S hw hs hb=>aaa X s N pm t q S w hs (fun k h=>(hb k h).1) (hH.fD hw hb) hP hI hpr hqf h⟩
end Go.Proofs.YtcgecopggfjojaaGreatDoor
