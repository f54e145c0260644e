/- Part 17: the logic, the plain laws and the walks behind TopAlone (lemmas only; each says its own conditions). -/
import Derived.Test.YtcgecopggfjojaaGreatDoorK16
set_option maxRecDepth 100000
set_option linter.all false
set_option maxHeartbeats 0
namespace Go.Proofs.YtcgecopggfjojaaGreatDoor
open Go Go.RowKit Go.Proofs.Tryz E Fl Cf Od Bf Cr Rt Tr Gw Dg Au Wi
attribute [local irreducible] E.CW E.OW E.QW E.AW E.lJ E.blockK E.PV
def Xi(X:E.Sx)(s:Gw.S)(N:Nat)(pm:List Yb)(t:Int)(A:am)(d:Nat)(fr:ap)(S:Nat->Prop)(w0:World)(hS:(HP.si X s).bA S w0)(hb:∀k,S k->k<w0.heap.size)(hH:SH w0 (Fm w0 S) X pm)(hP:SP X)(hI:SI X.g.q s N)(hpr:ag X.g.q.ts t=true)(hc8:fr.length<=d)(hl:fr.length<=8192)(hX:Rd w0 (Fm w0 S) A (aA fr)):
  CF 91 #[.pointer (some ⟨X.B,0,.none⟩),J t,.slice A fr.length d] w0 S fun v Hn=>∃y:Rw,y.r=(pD X.g.q X.key t s fr)/\v=y.v/\Hn=[HP.si X (mz X.g.q X.key t s fr),HP.ro y.mem]:=by
 obtain⟨ht0,htc,hta⟩:=hI.tc hpr;have hgr:=hH.hg;have hgf:=hP.gf;have hck:=hP.ck;have hqf:=uF fr;refine Zp (HA.au hS hb) ?_;refine Ze (k:=Z3Q (k:=fun z hzq hzok=>?_));have hzf:=Si.qW hzq;have hzF:FI X.g.q z.f.q:=by rw[hzf];exact hI.fi
 have hzt:=Si.tk hzq;have hzc:=Si.cr hzq t.toNat;have hza:=Si.ac hzq t.toNat;have hzl:=Si.al hzq;have hzw:=hzok.1;have hzn:=Si.fl hzq;have hpt:Pr X.g.q t.toNat:=by unfold Pr;rw[af ht0];exact hpr
 have hzV:=Fe.cw hzF hpt;rw[af ht0] at hzV;have hT:=iF hck hpt;rw[af ht0] at hT;have htl:=gU hT;have hlg:(cv z t.toNat).a.log=(ak s t.toNat).log:=aq Gw.Ac.log hza;have hzs:t.toNat<z.ws.length:=K1;refine Z4z ?_;refine OW.alloc (Jr) rfl rfl rfl rfl rfl (fun BR=>?_);refine Zi (k:=Zb (k:=Ze (k:=Z3 (k:=ZJ (k:=Z2O (k:=Z2q (k:=Z2r (k:=Z4A ?_))))))));refine OW.pure rfl rfl rfl (PV.indexAddr (iH (i:=2) rfl) Ux Jx rfl rfl rfl (E.tn K1) (by first|(rw[E.Fx.ct Aw.fx];done)|(rw[E.Fx.ct Aw.fx];omega)) K1 K6) ?_
 refine Zf (k:=Zi (k:=Zb (k:=Ze (k:=Z3 (k:=ZJ (k:=Z2O (k:=Z2q (k:=Z2q (k:=Z2r (k:=?_))))))))));refine OW.put 25 (V s.f.tk) rfl (aq (Value.int .u64) hzt) ?_;refine Zf (k:=Zi (k:=Zb (k:=Ze (k:=Ze (k:=Z3 (k:=Z4A ?_))))));refine OW.pure rfl rfl rfl (PV.jh Aw.fx (iH (i:=2) rfl) rfl rfl K1) ?_;refine OW.pure rfl rfl rfl (PV.eU Aw.fx (iH (i:=2) rfl) Gx rfl rfl K1) ?_;refine OW.pure rfl rfl rfl (PV.Ex Aw.fx (iH (i:=2) rfl) Gx rfl rfl K1 rfl) ?_;refine Zc ?_ ?_
 ·refine Z4u ?_;intros;have hfull:(ak s t.toNat).log.dF=4294967295:=by rw[<-hlg];assumption
  refine Z4J ?_;refine OW.kz (ey (s:=(mz X.g.q X.key t s fr)) z [1,1,1,1,0] rfl (by rw[(qa htc hta hfull).1];exact hzq) hzok) ?_
  refine OW.kz (qb (Rw.tz (r:={Gw.Rp.z with cd:=9,tk:=s.f.tk}) rfl rfl)) ?_
  refine Z4t ?_;refine KR.we [1,0] rfl (rv.cell Ix rfl (dU 2 rfl) rfl) rfl ?_;exact⟨Rw.of {Gw.Rp.z with cd:=9,tk:=s.f.tk},(qa htc hta hfull).2.symm,rfl,rfl⟩
 refine Z4u ?_;intro hc;have hnf:¬(ak s t.toNat).log.dF=4294967295:=by rw[<-hlg];assumption
 refine Zg @U3 ?_;intro BT;refine ZJ (k:=Z2P (k:=Z2P (k:=?_)));refine OW.alloc (Jr) rfl rfl rfl rfl rfl (fun BQ=>?_);refine Z2x (k:=Zf (k:=Zi (k:=Z4B ?_)));refine CW.cut [0,1,2,6,7,8,9,10] 2 rfl rfl (fun mods Hm=>mods=[(11,J (lQ Wi.ops X.key t s.f.tk (ak s t.toNat) fr))]/\Hm=[HP.aw BT 58 (Rw.of {Gw.Rp.z with kd:=Rn fr}).cells,HP.aw BQ 263 (dT fr).1.cw]/\True) ?_ ?_
 ·refine Zc ?_ ?_
  ·refine Zx (k:=Z4y ?_);intros;refine CW.dV mixed [1,2,2] rfl ?_;refine Z4v ?_;refine E.AW.first 1 rfl K0 K0 K0 rfl rfl rfl (PV.jh Aw.fx (iH (i:=2) rfl) rfl rfl K1) ?_;refine E.AW.first 2 rfl K0 K0 K0 rfl rfl rfl (PV.eU Aw.fx (iH (i:=2) rfl) Gx rfl rfl K1) ?_;refine E.AW.first 3 rfl K0 K0 K0 rfl rfl rfl (PV.oZ Aw.z Aw.fx (iH (i:=2) rfl) Nx rfl rfl K1 rfl) ?_;iterate 10 refine Z4v ?_
   refine E.AW.put 54 ((dT fr).1.tok.v) rfl (by unfold Gw.Tk.v;rw[Gw.Tk.pf hqf.tok.tag];rfl) ?_
   refine Z2p (k:=?_);refine OW.call Mx rfl rfl rfl rfl rfl rfl _ (fun w hw=>Uw (cv z t.toNat).A (cv z t.toNat).c (cv z t.toNat).a.ring X.K X.kc X.key t (dT fr).1.tok (dT fr).1.kd s.f.tk pm w hqf.tok (by first|exact(Si.ra (hw.aL (i:=1) rfl) (show t.toNat<z.ws.length by omega)).at 0 rfl|exact(Si.ra (hw.aL (i:=2) rfl) (show t.toNat<z.ws.length by omega)).at 0 rfl|exact(Si.ra (hw.aL (i:=3) rfl) (show t.toNat<z.ws.length by omega)).at 0 rfl|exact(Si.ra (hw.aL (i:=4) rfl) (show t.toNat<z.ws.length by omega)).at 0 rfl|exact(Si.ra (hw.aL (i:=5) rfl) (show t.toNat<z.ws.length by omega)).at 0 rfl|exact(Si.ra (hw.aL (i:=6) rfl) (show t.toNat<z.ws.length by omega)).at 0 rfl|exact(Si.ra (hw.aL (i:=7) rfl) (show t.toNat<z.ws.length by omega)).at 0 rfl|exact(Si.ra (hw.aL (i:=8) rfl) (show t.toNat<z.ws.length by omega)).at 0 rfl) (hw.rd hH.hk) (hw.rd hH.hc) (hw.aam hH.hp)) ?_;rintro _ _ ⟨rfl,rfl⟩
   refine Z4t ?_;refine⟨[(11,_)],[0,0,0,0,0,0,0],[_,_],?_,rfl,(by rw[Iv (by assumption),<-hza]),(by rw[show Rn fr=(dT fr).1.kd from aa (by assumption)]<;>rfl),trivial⟩;exact Kc
  refine Z4t ?_;intros;refine⟨[(11,_)],[1,0,0,0,0,0,0],[_,_],?_,rfl,(by rw[Iu (by assumption)]),(by rw[show Rn fr=0 from ae (by assumption)]<;>rfl),trivial⟩;exact Kc
 rintro _ _ ⟨rfl,rfl,_⟩;refine CW.cut [2,6,7,8,9] 7 rfl rfl (fun mods Hm=>∃y:Rw,mods=[(11,J (Gw.lK X.g.q X.key t s fr).2.2)]/\Hm=[HP.aw BT 58 y.cells,HP.aw BQ 263 (dT fr).1.cw,HP.aw BR 58 (Rw.of Gw.Rp.z).cells,HP.si X (Gw.lK X.g.q X.key t s fr).1,HP.ro y.mem]/\y.r=(Gw.lK X.g.q X.key t s fr).2.1) ?_ ?_
 ·refine Z4u ?_;refine CW.conv (ey z [3,3,3,3,0,0,0] rfl hzq hzok) ?_;refine CW.conv (qb (Rw.tz (r:={Gw.Rp.z with kd:=Rn fr}) rfl rfl)) ?_
  refine Zc ?_ ?_
  ·refine Z4u ?_;intro hc;have he1:(lQ Wi.ops X.key t s.f.tk (ak s t.toNat) fr)=0:=by assumption
   refine Z4t ?_;refine OW.zx OG rfl rfl rfl rfl (fun BM=>?_);refine Zr (k:=Z4a (k:=Zr (k:=Z4a (k:=Zr (k:=Z4a (k:=Zr (k:=Z4a (k:=Zr (k:=Z4a (k:=Zr (k:=Z4a (k:=Z4t ?_))))))))))));refine OW.pure rfl rfl rfl (PV.vx (i:=0) OG Jx rfl rfl rfl rfl K28) ?_;refine Z4t ?_;refine OW.L0 rfl rfl rfl rfl rfl rfl _ 2 rfl (adY X s N pm t (dT fr).1 w0 _ _ (Jy he1) hH hP hI hpr hqf) ?_;rintro _ _ ⟨y0,hy0,rfl,rfl⟩;refine Zc ?_ ?_
   ·refine Z4t ?_;intros;refine⟨[(11,_)],[0,4,4,0,2],[_,_,_,_,_],?_,rfl,(Rw.of {Gw.Rp.z with kd:=(dT fr).1.kd}),(by rw[nw he1]),(by rw[nw he1]<;>rfl),(QL he1 K2).symm⟩;exact Kc
   refine Z4t ?_;intros;refine⟨[(11,_)],[0,4,4,0,0],[_,_,_,_,_],?_,rfl,(Rw.mk {y0.r with kd:=(dT fr).1.kd} y0.A y0.c y0.A2 y0.c2),(by rw[nw he1]),(by rw[nw he1]<;>rfl),(by rw[OZ he1 (by assumption),<-hy0])⟩;exact Kc
  refine Z4t ?_;intros;refine⟨[(11,_)],[2,2,2,1,0],[_,_,_,_,_],?_,rfl,(Rw.of {Gw.Rp.z with kd:=Rn fr}),K68,K68,K68⟩;exact Kc
 rintro _ _ ⟨y,rfl,rfl,hy⟩;refine Zx (k:=Z4y ?_);refine CW.CY 3 rfl (fun z2 hzq2 hzok2=>?_);have hI2:=Of (key:=X.key) (fr:=fr) hck hI hpr;have hza2:=Si.ac hzq2 t.toNat;have hzl2:=Si.al hzq2;have hal2:=hI2.al;have hal1:=hI.al;have hz2t:t.toNat<z2.ws.length:=K1;have hlg2:(cv z2 t.toNat).lw.g=(ak (Gw.lK X.g.q X.key t s fr).1 t.toNat).log:=aq Gw.Ac.log hza2;have hlf2:=(gI hI2 t.toNat).log;have hlm:=TP (g:=X.g.q) (key:=X.key) (fr:=fr) hta;have hrk:(rep X.g.q X.key t s fr).kd=y.r.kd:=by rw[hy];rfl
 refine CW.dV mixed [1,3] rfl ?_;refine Z4v ?_;refine E.AW.first 1 rfl K0 K0 K0 rfl rfl rfl (PV.jh Aw.fx (iH (i:=0) rfl) rfl rfl K1) ?_;refine E.AW.first 2 rfl K0 K0 K0 rfl rfl rfl (PV.eU Aw.fx (iH (i:=0) rfl) Gx rfl rfl K1) ?_;refine E.AW.first 3 rfl K0 K0 K0 rfl rfl rfl (PV.kv (vs:=(cv z2 t.toNat).lw.cells) Aw.z Aw.fx (iH (i:=0) rfl) Ix rfl rfl K1 rfl K6) ?_;iterate 6 refine Z4v ?_
 refine E.AW.put 99 ((cv z2 t.toNat).lw.v) rfl rfl ?_;refine E.AW.two 10 14 K0 rfl rfl ?_ ?_
 focus
  refine Z4b (k:=fun AL cL=>Z4w ?_);iterate 7 refine Z4v ?_
  intro BL
 rotate_right
 focus
  refine Zo (k:=Z4w ?_);intros;refine E.AW.put 99 ((cv z2 t.toNat).lw.v) rfl rfl ?_;refine ZT (k:=Z4b (k:=fun AL cL=>Z4w ?_));iterate 6 refine Z4v ?_
 all_goals
  refine Z4u ?_;rw[hlg2];refine CW.wh 1 rfl (fun hcl=>?_);refine Zc ?_ ?_
  ·intros;have hap:(app (ak (Gw.lK X.g.q X.key t s fr).1 t.toNat).log s.f.tk y.r.kd (Gw.lK X.g.q X.key t s fr).2.2 fr).2=0:=by assumption
   refine Z4t ?_;refine OW.kr (i:=3) (((cv z2 t.toNat).ue (app (ak (Gw.lK X.g.q X.key t s fr).1 t.toNat).log s.f.tk y.r.kd (Gw.lK X.g.q X.key t s fr).2.2 fr).1 AL cL)) Aw.z Aw.fx Js rfl rfl rfl rfl rfl rfl rfl (oM _) rfl rfl K1 ?_;refine OW.kz (dh [2,4,0,1,1,1,2,2] 2 rfl rfl (Si.mk z2.f (z2.ws.set t.toNat ((cv z2 t.toNat).ue (app (ak (Gw.lK X.g.q X.key t s fr).1 t.toNat).log s.f.tk y.r.kd (Gw.lK X.g.q X.key t s fr).2.2 fr).1 AL cL)) z2.AO z2.cO z2.os).mem (Si.TN z2 hz2t _ _ _)) ?_;refine OW.kz (ey (s:=(mz X.g.q X.key t s fr)) (Si.mk z2.f (z2.ws.set t.toNat ((cv z2 t.toNat).ue (app (ak (Gw.lK X.g.q X.key t s fr).1 t.toNat).log s.f.tk y.r.kd (Gw.lK X.g.q X.key t s fr).2.2 fr).1 AL cL)) z2.AO z2.cO z2.os) [2,1,1,0,0,0,0] rfl (by rw[vO htc hta hnf,hrk,<-hlm,aa (show(app _ _ _ (rep X.g.q X.key t s fr).cd _).2=0 from hap)];exact Si.Tc hzq2 (by rw[<-hza2]<;>rfl)) (Si.QU hzok2 (by show(app (ak (Gw.lK X.g.q X.key t s fr).1 t.toNat).log s.f.tk y.r.kd (Gw.lK X.g.q X.key t s fr).2.2 fr).1.rs.length<=cL;exact hcl))) ?_
   refine Zx (k:=Z4c (k:=Zr (k:=Z1f (k:=?_))));exact⟨⟨{y.r with cd:=(Gw.lK X.g.q X.key t s fr).2.2,tk:=s.f.tk},y.A,y.c,y.A2,y.c2⟩,by rw[zY hnf];unfold rep;rw[<-hy],rfl,rfl⟩
  refine Z4u ?_;intros;refine Z4c (k:=Zr (k:=Z1f (k:=?_)));exact⟨⟨{y.r with cd:=(Gw.lK X.g.q X.key t s fr).2.2,tk:=s.f.tk},y.A,y.c,y.A2,y.c2⟩,by rw[zY hnf];unfold rep;rw[<-hy],rfl,rfl⟩
def Sv(X:E.Sx)(s:Gw.S)(N:Nat)(pm:List Yb)(x:Sw)(S:Nat->Prop)(w0:World)(hS:(HP.si X s).bA S w0)(hb:∀k,S k->k<w0.heap.size)(hH:SH w0 (Fm w0 S) X pm)(hP:SP X)(hI:SI X.g.q s N)(hN:N<=900000000)(hxf:x.fit)(hkd:x.x.kd=2)(hX:Rd w0 (Fm w0 S) x.A (aA x.x.bs)):
  CF 54 #[.pointer (some ⟨X.B,0,.none⟩),x.v] w0 S fun v Hn=>∃e,v=J e/\Hn=[HP.si X (Gw.step Wi.ops X.g.q X.key s x.x)]:=by
 have hgr:=hH.hg;have hgf:=hP.gf;have hck:=hP.ck;refine Zp (HA.au hS hb) ?_;refine Zx (k:=Z3Q (k:=fun z hzq hzok=>?_));have hzf:=Si.qW hzq;have hzF:FI X.g.q z.f.q:=by rw[hzf];exact hI.fi
 have hzt:=Si.tk hzq;have hzl:=Si.al hzq;have hzw:=hzok.1;have hzn:=Si.fl hzq;have hza:=Si.ac hzq x.x.tn.toNat;have hpd:(cv z x.x.tn.toNat).a.fm=(ak s x.x.tn.toNat).fm:=aq Gw.Ac.fm hza;have hpl:=(gI hI x.x.tn.toNat).fm;have hpl2:(cv z x.x.tn.toNat).a.fm.length<=4160:=by rw[hpd];exact hpl
 refine Z4y ?_;intros;refine Z23 (k:=?_);iterate 6 refine Z4v ?_
 refine Z4N ?_;refine Zg @vg ?_;refine Zc ?_ ?_
 ·refine Zx (k:=Z4J ?_);intros;refine Z44 (k:=?_);refine Zl ?_;exact⟨_,rfl,rfl⟩
 refine Z4u ?_;intro hc;have hpr:ag X.g.q.ts x.x.tn=true:=by assumption
 obtain⟨ht0,htc,hta⟩:=hI.tc hpr;refine Zc ?_ ?_
 ·refine Zx (k:=Z4J ?_);intros;refine OW.kz (ey (s:=(Gw.step Wi.ops X.g.q X.key s x.x)) z [1,1,1,1] rfl (by rw[nI hkd hI hpr (.inl K1)];exact hzq) hzok) ?_
  refine Zl ?_;exact⟨_,rfl,rfl⟩
 refine Z4u ?_;intro hc;refine Z1x (k:=?_);iterate 6 refine Z4v ?_
 refine E.AW.first 6 rfl K0 K0 K0 rfl rfl rfl (PV.indexAddr (iH (i:=2) rfl) Ux Jx rfl rfl rfl (E.tn K1) (by rw[E.Fx.ct Aw.fx];omega) K1 K6) ?_
 refine Zx (k:=Z1b (k:=Z4v ?_));refine E.AW.first 1 rfl K0 K0 K0 rfl rfl rfl (PV.jh Aw.fx (iH (i:=1) rfl) rfl rfl K1) ?_;refine E.AW.first 2 rfl K0 K0 K0 rfl rfl rfl (PV.eU Aw.fx (iH (i:=1) rfl) Gx rfl rfl K1) ?_;refine E.AW.first 3 rfl K0 K0 K0 rfl rfl rfl (PV.oZ Aw.z Aw.fx (iH (i:=1) rfl) Nx rfl rfl K1 rfl) ?_;iterate 2 refine Z4v ?_
 refine ZR (k:=?_);refine OW.call Mx rfl rfl rfl rfl rfl rfl _ (fun w hw=>fF _ _ (cv z x.x.tn.toNat).a.fm w K1 (by first|exact(Si.ra (hw.aL (i:=1) rfl) (show x.x.tn.toNat<z.ws.length by omega)).at 2 rfl|exact(Si.ra (hw.aL (i:=2) rfl) (show x.x.tn.toNat<z.ws.length by omega)).at 2 rfl|exact(Si.ra (hw.aL (i:=3) rfl) (show x.x.tn.toNat<z.ws.length by omega)).at 2 rfl|exact(Si.ra (hw.aL (i:=4) rfl) (show x.x.tn.toNat<z.ws.length by omega)).at 2 rfl|exact(Si.ra (hw.aL (i:=5) rfl) (show x.x.tn.toNat<z.ws.length by omega)).at 2 rfl|exact(Si.ra (hw.aL (i:=6) rfl) (show x.x.tn.toNat<z.ws.length by omega)).at 2 rfl|exact(Si.ra (hw.aL (i:=7) rfl) (show x.x.tn.toNat<z.ws.length by omega)).at 2 rfl|exact(Si.ra (hw.aL (i:=8) rfl) (show x.x.tn.toNat<z.ws.length by omega)).at 2 rfl)) ?_;rintro _ _ ⟨AK,cK,rfl,rfl⟩
 refine Zj (k:=Z4O ?_);refine OW.iP (i:=0) Ux Jx rfl rfl rfl rfl rfl rfl rfl rfl rfl (oh hX) K3 (fun A2 c2=>?_);refine Zj (k:=Z4D ?_);refine Zg @Nc ?_;refine Z4u ?_;intro ys _ _ _ _ hys hyc _ hzl4;rw[hpd] at hys hzl4⊢;refine Zc ?_ ?_
 ·refine Zx (k:=Z4J ?_);intros;refine OW.kz (ey (s:=(Gw.step Wi.ops X.g.q X.key s x.x)) z [5,5,5,5] rfl (by rw[nI hkd hI hpr (.inr (by assumption))];exact hzq) hzok) ?_
  refine Zl ?_;exact⟨_,rfl,rfl⟩
 refine Z4u ?_;intro hc;have hse:(Wi.split ((ak s x.x.tn.toNat).fm++x.x.bs)).2.2=0:=by assumption
 refine CW.conv (ey z [5,5,5,5,0,0,0,1] rfl hzq hzok) ?_;refine Z4t ?_;refine CW.av [0,3,5,7,46,47] 1 rfl rfl (fun mm mods Hm=>∃k:Nat,mm=ys.length-k/\mods=[(48,J k)]/\Hm=[HP.si X (rG X.g.q X.key x.x.tn s ((ys.take k).map Yb.l))]/\k<=ys.length/\SI X.g.q (rG X.g.q X.key x.x.tn s ((ys.take k).map Yb.l)) (N+k)) (ys.length) ?_ ?_
 ·exact⟨[(48,_)],Kc,0,rfl,rfl,rfl,K1,hI⟩
 rintro _ _ _ ⟨k,rfl,rfl,rfl,hk,hIk⟩;refine Zc ?_ ?_
 ·refine Z4u ?_;intro hc;have hym:(ys.getD k Yb.z)∈ys:=Yb.mem K1;have hyk:=hyc _ hym;refine Z4z ?_;refine OW.pure rfl rfl rfl (PV.aY (iH (i:=1) rfl) Ux Jx rfl rfl rfl rfl (by first|(rw[E.Fx.ct Yb.fx];done)|(rw[E.Fx.ct Yb.fx];omega)) K1) ?_
  refine OW.pure rfl rfl rfl (PV.yJ (k:=k) (iH (i:=1) rfl) Nx rfl rfl K1) ?_;refine Z4u ?_;refine CW.dV mixed [4] rfl ?_;iterate 7 refine Z4v ?_
  refine Z4O ?_;refine OW.aU Mx rfl rfl rfl rfl rfl rfl _ 0 rfl (fun w S hw hs hb hc=>Xi X (rG X.g.q X.key x.x.tn s ((ys.take k).map Yb.l)) (N+k) pm x.x.tn (ys.getD k Yb.z).A (ys.getD k Yb.z).c (ys.getD k Yb.z).l S w hs (fun k hk=>(hb k hk).1) (hH.fD hw hb) hP hIk hpr hyk.1 K1 (by first|exact(ez hc (i:=1) rfl).mem (cm.2 ⟨_,hym,rfl⟩)|exact(ez hc (i:=2) rfl).mem (cm.2 ⟨_,hym,rfl⟩)|exact(ez hc (i:=3) rfl).mem (cm.2 ⟨_,hym,rfl⟩)|exact(ez hc (i:=4) rfl).mem (cm.2 ⟨_,hym,rfl⟩))) ?_;rintro _ _ ⟨yR,hyR,rfl,rfl⟩
  refine Zj (k:=Z4D ?_);refine OW.aU Mx rfl rfl rfl rfl rfl rfl _ 0 rfl (fun w S hw hs hb hc=>Cm X (mz X.g.q X.key x.x.tn (rG X.g.q X.key x.x.tn s ((ys.take k).map Yb.l)) (ys.getD k Yb.z).l) x.x.tn yR S w hs (fun k hk=>(hb k hk).1) (ez hc (i:=0) rfl) (by rw[hyR];exact BA hck hIk hpr _) (by have:=(tH (key:=X.key) hck hIk hpr (ys.getD k Yb.z).l).ol;omega)) ?_;rintro _ _ rfl
  refine Z4t ?_;refine⟨_,[(48,_)],[0,1,1,1,1],[_],?_,Kc,rfl,k+1,rfl,rfl,(by rw[Gw.iy K1,DH];unfold said;rw[<-hyR]),K1,(by rw[Gw.iy K1,DH];exact yp (tH hck hIk hpr _) _ _)⟩
  omega
 refine Zg @fF ?_;intro _ AP cP;refine OW.CY 1 rfl (fun z2 hzq2 hzok2=>?_);have hzl2:=Si.al hzq2;have hal2:=hIk.al;have hal1:=hI.al;have hza2:=Si.ac hzq2 x.x.tn.toNat;have hz2t:x.x.tn.toNat<z2.ws.length:=K1;have hke:ys.take k=ys:=bU K1;refine Z4t ?_;refine OW.kr (i:=1) (((cv z2 x.x.tn.toNat).uY (Wi.split ((ak s x.x.tn.toNat).fm++x.x.bs)).2.1 AP cP)) Aw.z Aw.fx Js rfl rfl rfl rfl rfl rfl rfl (oM _) rfl rfl K1 ?_;refine OW.kz (dh [4,3,0,0,0] 2 rfl rfl (Si.mk z2.f (z2.ws.set x.x.tn.toNat ((cv z2 x.x.tn.toNat).uY (Wi.split ((ak s x.x.tn.toNat).fm++x.x.bs)).2.1 AP cP)) z2.AO z2.cO z2.os).mem (Si.Qr z2 hz2t _ _ _)) ?_;refine OW.kz (ey (s:=(Gw.step Wi.ops X.g.q X.key s x.x)) (Si.mk z2.f (z2.ws.set x.x.tn.toNat ((cv z2 x.x.tn.toNat).uY (Wi.split ((ak s x.x.tn.toNat).fm++x.x.bs)).2.1 AP cP)) z2.AO z2.cO z2.os) [2,1,1,0] rfl (by rw[vL hkd hI hpr K1 hse,<-hys,<-hke];exact Si.SO hzq2 (by rw[<-hza2]<;>rfl)) (Si.QU hzok2 (show(cv z2 x.x.tn.toNat).a.log.rs.length<=(cv z2 x.x.tn.toNat).c2 from hzok2.2 _ (nZ hz2t)))) ?_
 refine Zl ?_;exact⟨_,rfl,rfl⟩
def UR(X:E.Sx)(s:Gw.S)(N:Nat)(pm:List Yb)(x:Sw)(S:Nat->Prop)(w0:World)(hS:(HP.si X s).bA S w0)(hb:∀k,S k->k<w0.heap.size)(hH:SH w0 (Fm w0 S) X pm)(hP:SP X)(hI:SI X.g.q s N)(hN:N<=900000000)(hxf:x.fit)(hkd:x.x.kd=1):
  CF 53 #[.pointer (some ⟨X.B,0,.none⟩),x.v] w0 S fun v Hn=>∃e,v=J e/\Hn=[HP.si X (Gw.step Wi.ops X.g.q X.key s x.x)]:=by
 have hgr:=hH.hg;have hgf:=hP.gf;have hck:=hP.ck;refine Zp (HA.au hS hb) ?_;refine Zx (k:=Z3Q (k:=fun z hzq hzok=>?_));have hzf:=Si.qW hzq;have hzF:FI X.g.q z.f.q:=by rw[hzf];exact hI.fi
 have hzt:=Si.tk hzq;have hzl:=Si.al hzq;have hzw:=hzok.1;have hzn:=Si.fl hzq;refine Zc ?_ ?_
 ·refine Z4u ?_;intro _ hc;have hlast:z.f.tk=4611686018427387904:=by assumption
  have hl3:=Fe.lim hck;have hal:=hI.al;have hn3:X.nA<=3:=K1;refine Z4J ?_;refine OW.kz (ey (s:=(kA X.g.q s 0)) z [1,1,1,1,0] rfl (by rw[YM];exact hzq) hzok) ?_
  refine Z4t ?_;refine CW.av [0,21] 1 rfl rfl (fun mm mods Hm=>∃k:Nat,mm=X.nA-k/\mods=[(22,J k)]/\Hm=[HP.si X (kA X.g.q s k)]/\k<=X.nA) (X.nA) ?_ ?_
  ·exact⟨[(22,_)],Kc,0,rfl,rfl,rfl,K1⟩
  rintro _ _ _ ⟨k,rfl,rfl,rfl,hk⟩;refine Zc ?_ ?_
  ·refine Zx (k:=Z4y ?_);intro hc;refine CW.CY 0 rfl (fun z2 hzq2 hzok2=>?_);refine Z4t ?_;refine OW.call Mx rfl rfl rfl rfl rfl rfl _ (fun w hw=>vg X.g (k:Int) w hck (hw.lN hgr) hgf) ?_;rintro _ _ ⟨rfl,rfl⟩;refine Zc ?_ ?_
   ·intro hc;refine CW.conv (ey z2 [0,0,0,0,0] rfl hzq2 hzok2) ?_;refine Z4t ?_;refine OW.aU Mx rfl rfl rfl rfl rfl rfl _ 0 rfl (fun w S hw hs hb hc=>Cm X (kA X.g.q s k) (k:Int) (Rw.of aaJ) S w hs (fun k hk=>(hb k hk).1) (vi rfl rfl) eW.of (by have:=GK hI k;omega)) ?_;rintro _ _ rfl
    refine Zx (k:=Z4d (k:=Z4t ?_));refine⟨_,[(22,_)],[0,0],[_],?_,Kc,rfl,k+1,rfl,rfl,(by rw[NG (by assumption)]<;>rfl),K1⟩
    omega
   refine Z4u ?_;intros;refine Z4d (k:=Z4t ?_);refine⟨_,[(22,_)],[0,0],[_],?_,Kc,rfl,k+1,rfl,rfl,(by rw[R4 (by assumption)]),K1⟩
   omega
  refine Zl ?_;intros;exact⟨_,rfl,by rw[qz hkd (by rw[<-hzt];exact hlast),show s.ac.length=k by omega]⟩
 refine Z4u ?_;intro _ hc;refine ZQ (k:=?_);iterate 8 refine Z4v ?_
 refine E.AW.two 8 13 K0 rfl rfl ?_ ?_
 focus
  refine Z4e (k:=fun zf AF cF hzf2=>Z4w ?_);iterate 9 refine Z4v ?_
  intro BF
 rotate_right
 focus
  refine Zo (k:=Z4w ?_);intros;refine ZZ (k:=Z4e (k:=fun zf AF cF hzf2=>Z4w ?_));iterate 8 refine Z4v ?_
 all_goals
  refine Zx (k:=Zy (k:=Z4y ?_));rw[hzf] at hzf2⊢;have hzt2:zf.tk=s.f.tk+1:=aq Tr.F.tk hzf2;have hlL:(Tr.step X.g.q s.f).2.length<=3*z.f.cs.length:=by rw[<-hzf];have:=(GW hck hzF z.f.cs.length (bb _)).2;rw[<-Fe.len] at this;rw[<-Fe.len];exact this
  have hl3:=Fe.lim hck;have hl4:=Fe.ln hzF;refine CW.conv (dh [2,6,0,0,0,0,0,0] 2 rfl rfl (Si.mk zf z.ws z.AO z.cO z.os).mem (Si.Qb z zf)) ?_;refine CW.conv (ey (s:=(lT X.g.q s 0)) (Si.mk zf z.ws z.AO z.cO z.os) [1,4,4,0,0,0,0] rfl (Si.RC hzq hzf2) hzok) ?_;refine Z4t ?_;refine CW.av [0,6,56,57] 1 rfl rfl (fun mm mods Hm=>∃j:Nat,mm=(Tr.step X.g.q s.f).2.length-j/\mods=[(58,J j)]/\Hm=[HP.si X (lT X.g.q s j)]/\j<=(Tr.step X.g.q s.f).2.length) ((Tr.step X.g.q s.f).2.length) ?_ ?_
  ·exact⟨[(58,_)],Kc,0,rfl,rfl,rfl,K1⟩
  rintro _ _ _ ⟨j,rfl,rfl,rfl,hj⟩;refine Zc ?_ ?_
  ·refine Zx (k:=Z4y ?_);intro hc _;refine Z4z ?_;iterate 5 refine Z4x ?_
   refine OW.put 66 (V (s.f.tk+1)) rfl (aq (Value.int .u64) hzt2) ?_;refine Z4t ?_;refine OW.aU Mx rfl rfl rfl rfl rfl rfl _ 1 rfl (fun w S hw hs hb hc=>Cm X (lT X.g.q s j) ((Tr.step X.g.q s.f).2.getD j Tr.Fin.z).1 (Rw.of (YB s.f.tk ((Tr.step X.g.q s.f).2.getD j Tr.Fin.z))) S w hs (fun k hk=>(hb k hk).1) (vi rfl rfl) eW.of (by have:=Hb hI j;omega)) ?_;rintro _ _ rfl
   refine Z4t ?_;refine⟨_,[(58,_)],[0,1,1,1],[_],?_,Kc,rfl,j+1,rfl,rfl,(by rw[Kx K1]<;>rfl),K1⟩
   omega
  refine Zl ?_;intros;exact⟨_,rfl,by rw[rE hkd (by rw[<-hzt];assumption) (k:=j) K1]⟩
def NN:E.Mk prog 140 5 89 (Value.int .u8) (Lit.int .u8) (fun a:Int=>0<=a/\a<256):=Vg Ux Ux
def KP(X:E.Sx)(k:Int):((E.eh (E.eh (E.eh (E.eh (fun _=>none) (1:Int) (.func (.func 53) #[.pointer (some ⟨X.B,0,.none⟩)] #[])) (2:Int) (.func (.func 54) #[.pointer (some ⟨X.B,0,.none⟩)] #[])) (3:Int) (.func (.func 55) #[.pointer (some ⟨X.B,0,.none⟩)] #[])) (4:Int) (.func (.func 56) #[.pointer (some ⟨X.B,0,.none⟩)] #[])) k).isSome=decide (1<=k/\k<=4):=by
 unfold E.eh;by_cases h4:k=4
 ·subst h4;rfl
 by_cases h3:k=3
 ·subst h3;rfl
 by_cases h2:k=2
 ·subst h2;rfl
 by_cases h1:k=1
 ·subst h1;rfl
 rw[ae h4,ae h3,ae h2,ae h1];exact(aV K1).symm
def abO(X:E.Sx)(s:Gw.S)(N:Nat)(pm:List Yb)(x:Sw)(w0:World)(F:Nat->Prop)(H:List HP)(hk:1<=x.x.kd/\x.x.kd<=4)(hH:SH w0 F X pm)(hP:SP X)(hI:SI X.g.q s N)(hN:N<=900000000)(hxf:x.fit)(hX:Rd w0 F x.A (aA x.x.bs)):
  ∃f us,((E.eh (E.eh (E.eh (E.eh (fun _=>none) (1:Int) (.func (.func 53) #[.pointer (some ⟨X.B,0,.none⟩)] #[])) (2:Int) (.func (.func 54) #[.pointer (some ⟨X.B,0,.none⟩)] #[])) (3:Int) (.func (.func 55) #[.pointer (some ⟨X.B,0,.none⟩)] #[])) (4:Int) (.func (.func 56) #[.pointer (some ⟨X.B,0,.none⟩)] #[])) x.x.kd).getD .nilFunc=.func (.func f) (List.toArray us) #[]/\E.Nm prog f/\∀w S,HA w0 F (HP.si X s::H) w->(HP.si X s).bA S w->(∀k,S k->k<w.heap.size/\¬F k)->Calls prog f (us++([x.v]:bi)).toArray w (bK w (Fm w S) fun v Hn=>∃e,v=J e/\Hn=[HP.si X (Gw.step Wi.ops X.g.q X.key s x.x)]):=by
 have h6:x.x.kd=1\/x.x.kd=2\/x.x.kd=3\/x.x.kd=4:=K1;rcases h6 with h|h|h|h
 ·exact⟨53,[.pointer (some ⟨X.B,0,.none⟩)],by rw[h];rfl,Mx,fun w S hw hs hb=>UR X s N pm x S w hs (fun k h=>(hb k h).1) (hH.fD hw hb) hP hI hN hxf h⟩
 ·exact⟨54,[.pointer (some ⟨X.B,0,.none⟩)],by rw[h];rfl,Mx,fun w S hw hs hb=>Sv X s N pm x S w hs (fun k h=>(hb k h).1) (hH.fD hw hb) hP hI hN hxf h (hw.fD hX hb)⟩
 ·exact⟨55,[.pointer (some ⟨X.B,0,.none⟩)],by rw[h];rfl,Mx,fun w S hw hs hb=>MY X s N pm x S w hs (fun k h=>(hb k h).1) (hH.fD hw hb) hP hI hN hxf h⟩
 exact⟨56,[.pointer (some ⟨X.B,0,.none⟩)],by rw[h];rfl,Mx,fun w S hw hs hb=>Te X s N pm x S w hs (fun k h=>(hb k h).1) (hH.fD hw hb) hP hI hN hxf h⟩
def acC(X:E.Sx)(s:Gw.S)(N:Nat)(pm:List Yb)(x:Sw)(S:Nat->Prop)(w0:World)(hS:(HP.si X s).bA S w0)(hb:∀k,S k->k<w0.heap.size)(hH:SH w0 (Fm w0 S) X pm)(hP:SP X)(hI:SI X.g.q s N)(hN:N<=900000000)(hxf:x.fit)(hX:Rd w0 (Fm w0 S) x.A (aA x.x.bs)):
  CF 29 #[.pointer (some ⟨X.B,0,.none⟩),x.v] w0 S fun v Hn=>∃e,v=J e/\Hn=[HP.si X (Gw.step Wi.ops X.g.q X.key s x.x)]:=by
 refine Zp (HA.au hS hb) ?_;refine Z4t ?_;intros;refine OW.zx NN rfl rfl rfl rfl (fun B2=>?_);refine Zr (k:=Z4f (k:=Zr (k:=Z4f (k:=Zr (k:=Z4f (k:=Zr (k:=Z4f (k:=Z4t ?_))))))));refine OW.pure rfl rfl rfl (PV.No (i:=0) NN Jx rfl rfl rfl rfl K38) ?_;iterate 4 refine Z4x ?_
 refine OW.put 22 (v:=.bool ((E.eh (E.eh (E.eh (E.eh (fun _=>none) (1:Int) (.func (.func 53) #[.pointer (some ⟨X.B,0,.none⟩)] #[])) (2:Int) (.func (.func 54) #[.pointer (some ⟨X.B,0,.none⟩)] #[])) (3:Int) (.func (.func 55) #[.pointer (some ⟨X.B,0,.none⟩)] #[])) (4:Int) (.func (.func 56) #[.pointer (some ⟨X.B,0,.none⟩)] #[])) x.x.kd).isSome) (.bool (decide (1<=x.x.kd/\x.x.kd<=4))) rfl (by rw[KP]) ?_
 refine Zc ?_ ?_
 ·refine Z4t ?_;intros;refine KR.one [2] rfl rfl rfl ?_;exact⟨_,rfl,by rw[Gw.mH K1]⟩
 refine Z4u ?_;intros;have hk4:1<=x.x.kd/\x.x.kd<=4:=K1;refine Z4t ?_;refine OW.L0 rfl rfl rfl rfl rfl rfl _ 2 rfl (abO X s N pm x w0 _ _ hk4 hH hP hI hN hxf hX) ?_;rintro _ _ ⟨e9,rfl,rfl⟩;refine Zl ?_;exact⟨_,rfl,rfl⟩
def Uy(g:aP)(K:am)(kc:Nat)(key:ap)(f:Fe)(AW:am)(cW n:Nat)(S:Nat->Prop)(w0:World)(hS:(HP.ro f.mem).bA S w0)(hb:∀k,S k->k<w0.heap.size)(hn:n<=100)(hX:Rd w0 (Fm w0 S) AW (fl Aw.cells (List.replicate n Aw.z))):
  CF 28 #[.agg #[J g.a,J g.b,.slice g.A g.l.length g.c,.slice g.A1 g.s.length g.c1,.slice g.A2 g.ts.length g.c2,V g.st,.slice K key.length kc,.slice f.A f.cs.length f.c,.slice f.A2 f.cl.length f.c2,V f.tk,.slice AW n cW]] w0 S fun v Hn=>∃X:E.Sx,(X.g=g/\X.K=K/\X.kc=kc/\X.key=key)/\v=.pointer (some ⟨X.B,0,.none⟩)/\Hn=[HP.si X (⟨f.q,List.replicate n Gw.Ac.z,[]⟩:Gw.S)]:=by
 refine Zp (HA.au hS hb) ?_;refine Zx (k:=Z4y ?_);intros;refine Z4z ?_;iterate 6 refine Z4x ?_
 refine OW.pure rfl rfl rfl (PV.build (ps:=[(0,.tmp 7),(1,.tmp 9),(2,.tmp 11)]) rfl rfl (fun w=>(BE).h w)) ?_;refine Z4u ?_;intro BS;refine CW.bM 132 36 ?_;refine Z4t ?_;refine CW.sels [1,0,1,0] rfl ?_;refine CW.av [3,15,16] 3 rfl rfl (fun mm mods Hm=>∃k:Nat,∃ws:List Aw,∃A:am,∃c:Nat,mm=n-k/\mods=[(17,J k)]/\Hm=[HP.aw BS 91 (Si.cells (E.Sx.mk BS g K kc key A c ws.length) (Si.mk f ws none 0 [])),HP.row 132 36 A ws.length c (fl Aw.cells ws),HP.ro (f.mem++yK ws)]/\k<=n/\ws.length=k/\∀x∈ws,x.a=Gw.Ac.z) (n) ?_ ?_
 ·exact⟨[(17,_)],Kc,0,[],none,0,rfl,rfl,(by rw[show yK []=[] from rfl,bp]<;>rfl),K1,rfl,fun x hx=>by cases hx⟩
 rintro _ _ _ ⟨k,ws,A,c,rfl,rfl,rfl,hk,hwl,hwa⟩;refine Zc ?_ ?_
 ·refine Z4t ?_;intros;refine OW.pure rfl rfl rfl (PV.indexAddr (oh hX) Ux Jx rfl rfl rfl rfl (by first|(rw[E.Fx.ct Aw.fx,eZ];done)|(rw[E.Fx.ct Aw.fx,eZ];omega)) K1 K6) ?_
  refine OW.pure rfl rfl rfl (PV.nm (k:=k) Aw.z Aw.fx (oh hX) Ix rfl rfl (by rw[eZ];omega)) ?_;refine OW.put 20 (.agg Aw.z.cells.toArray) rfl (by rw[WY]) ?_
  refine Z4t ?_;intros;refine OW.call Mx rfl rfl rfl rfl rfl rfl _ (fun w hw=>EV none 0 [] w K7 Rd.nil) ?_;rintro _ _ ⟨AM,cM,rfl,rfl⟩;refine Z4t ?_;refine OW.call Mx rfl rfl rfl rfl rfl rfl _ (fun w hw=>Hx none 0 [] w K7 Rd.nil) ?_;rintro _ _ ⟨AR,cR,rfl,rfl⟩;refine Z4t ?_;refine OW.call Mx rfl rfl rfl rfl rfl rfl _ (fun w hw=>fF none 0 [] w K7 Rd.nil) ?_;rintro _ _ ⟨AU,cU,rfl,rfl⟩;refine Z4u ?_;refine CW.gx (T:=[10]) mixed [0,3] rfl ?_;iterate 6 refine Z4v ?_
  refine Z4N ?_;refine OW.buildSlice (Et:=132) (sz:=36) (cs:=fl Aw.cells [(Aw.mk Gw.Ac.z AM cM AR cR AU cU)]) (ps:=[(0,.tmp 40)]) rfl rfl rfl rfl rfl rfl K4 (fun w=>J3 w) (fun AN=>?_);refine Zj (k:=Z4O ?_);refine OW.dJ (j:=0) (i:=5) Aw.fx Ux Jx rfl rfl rfl rfl rfl rfl rfl rfl rfl rfl K3 K3 (fun A5 c5=>?_);refine Z4w ?_;iterate 2 refine Z4v ?_
  refine Z1M (k:=Zo (k:=Z4w ?_));refine E.AW.conv (dh [3,3,3,3,0,0,1] 4 rfl rfl (f.mem++yK (ws++[(Aw.mk Gw.Ac.z AM cM AR cR AU cU)])) (J0 f.mem ws _ _ _ _ _ _)) ?_;refine Z4t ?_;refine⟨_,[(17,_)],[1,1,0,0],[_,_,_],?_,Kc,rfl,k+1,ws++[(Aw.mk Gw.Ac.z AM cM AR cR AU cU)],A5,c5,rfl,rfl,rfl,K1,(by rw[aF];simp[hwl]),(fun x hx=>(aN.1 hx).elim (hwa x) (fun h=>by rw[bw.1 h]))⟩
  omega
 refine Z4u ?_;intros;refine CW.bM 50 3 ?_;refine CW.conv (dh [3,0,0,0] 1 rfl rfl (Si.mk f ws none 0 []).mem (by simp[Si.mem,j2])) ?_
 obtain rfl:k=n:=K1;refine CW.conv (ey (X:=(E.Sx.mk BS g K kc key A c ws.length)) (s:=(⟨f.q,List.replicate k Gw.Ac.z,[]⟩:Gw.S)) (Si.mk f ws none 0 []) [2,2,1,0] rfl (by unfold Si.q;rw[RT hwl hwa];rfl) (E.zP rfl hwa)) ?_
 refine Zl ?_;exact⟨(E.Sx.mk BS g K kc key A c ws.length),⟨rfl,rfl,rfl,rfl⟩,rfl,rfl⟩
def Sc(A:am)(c:Nat)(b:ap)(K:am)(kc:Nat)(key:ap)(g0:Cf.C)(w0:World)(hc8:b.length<=c)(hl:b.length<=100000)(hd:Cf.dec b=(g0,0))(hck:Cf.check g0=0)(hsr:fV g0=0)(hX:ce w0 A (aA b))(hY:ce w0 K (aA key)):
  CO 27 #[.slice A b.length c,.slice K key.length kc] w0 fun v Hn=>(keyed key=true/\∃g:aP,∃K2 kc2,∃f:Fe,∃AW cW,(g.q=g0/\g.q.fit/\f.q=Tr.new g0)/\v=.tuple #[.agg #[J g.a,J g.b,.slice g.A g.l.length g.c,.slice g.A1 g.s.length g.c1,.slice g.A2 g.ts.length g.c2,V g.st,.slice K2 key.length kc2,.slice f.A f.cs.length f.c,.slice f.A2 f.cl.length f.c2,V f.tk,.slice AW g.ts.length cW],J 0]/\Hn=[HP.cfg g,HP.row 5 1 K2 (key).length kc2 (aA (key)),HP.ro f.mem,HP.row 132 36 AW g.ts.length cW (fl Aw.cells (List.replicate g.ts.length Aw.z))])\/(keyed key=false/\v=.tuple #[.agg #[J 0,J 0,.slice none 0 0,.slice none 0 0,.slice none 0 0,V 0,.slice none 0 0,.slice none 0 0,.slice none 0 0,V 0,.slice none 0 0],J 2]/\Hn=[]):=by
 refine Zq ?_;refine Zg @acL ?_;refine Z4u ?_;intro BW gD hgD hfD _;have hgq:gD.q=g0:=by rw[hgD,hd]
 refine CW.put 7 (J 0) rfl (by rw[hd]<;>rfl) ?_
 refine Zs ?_ ?_
 all_goals
  refine Zd ?_ ?_
  ·try exact⟨⟩
   all_goals
    refine Zk ?_;intros;exact .inr ⟨by unfold keyed;rw[k8];simp only[ay,ax,ne_eq];omega,rfl,rfl⟩
  try exact⟨⟩
  all_goals
   refine Z4u ?_;intros;have hk64:1<=key.length/\key.length<=64:=K1;have hgl:=aP.eJ gD;have hg3:=(dw (az hck).2.2.1).2;rw[<-hgq] at hg3;refine Zg @Pc ?_;refine Z4u ?_;refine CW.put 8 (J 0) rfl (by rw[hgq,hsr]) ?_
   refine Z4t ?_;refine OW.call Mx rfl rfl rfl rfl rfl rfl _ (fun w hw=>UZ gD w (by rw[hgq];exact hck) (by rw[hgq];exact hsr) (by first|exact hw.iY (i:=1) rfl|exact hw.iY (i:=2) rfl|exact hw.iY (i:=3) rfl|exact hw.iY (i:=4) rfl|exact hw.iY (i:=5) rfl) hfD) ?_;rintro _ _ ⟨zf,hzf,rfl,rfl⟩
   refine Zx (k:=Z4y ?_);intros;refine CW.gx (T:=[9]) mixed [0,1] rfl ?_;iterate 6 refine Z4v ?_
   refine E.AW.two 2 7 K0 rfl rfl ?_ ?_
   focus
    refine Zg @fF ?_;refine Z4w ?_;intro AK cK;refine Z1a (k:=Z4g (k:=fun AR=>Z4w ?_));refine E.AW.fT 8 rfl K0 K0 K0 rfl rfl rfl (PV.build (ps:=[(0,.tmp 43),(1,.tmp 45),(2,.tmp 46),(3,.tmp 50)]) rfl rfl (fun w=>(nY).h w)) ?_;refine E.AW.jK 9 K0 rfl K0 ?_;refine Zo (k:=Zj (k:=Za (k:=Z4h (k:=Z4v ?_))))
   rotate_right
   focus
    refine Z4g (k:=fun AR=>Zj (k:=Z10 (k:=?_)));refine Zg @fF ?_;refine Z4w ?_;intro AK cK;refine E.AW.fT 8 rfl K0 K0 K0 rfl rfl rfl (PV.build (ps:=[(0,.tmp 43),(1,.tmp 45),(2,.tmp 46),(3,.tmp 50)]) rfl rfl (fun w=>(nY).h w)) ?_;refine E.AW.jK 9 K0 rfl K0 ?_;refine Zo (k:=Zj (k:=Za (k:=Z4h (k:=Z4v ?_))))
   all_goals
    refine Z4t ?_;refine KR.kR [1,1,1,1] rfl (rv.cell Ix rfl (dU 0 rfl) rfl) rfl rfl ?_;exact .inl ⟨qH.2 hk64,gD,AK,cK,zf,AR,_,⟨hgq,hfD,by rw[hzf,hgq]⟩,rfl,rfl⟩
def HH(A:am)(c:Nat)(b:ap)(K:am)(kc:Nat)(key:ap)(AL:am)(cL:Nat)(l:List Sw)(pm:List Yb)(g0:Cf.C)(w0:World)(hc8:b.length<=c)(hl:b.length<=100000)(hd:Cf.dec b=(g0,0))(hck:Cf.check g0=0)(hsr:fV g0=0)(hst:0<=g0.st/\g0.st<=last)(hX:ce w0 A (aA b))(hY:ce w0 K (aA key))(hL:ce w0 AL (fl Sw.cells l))(hll:l.length<=1000)(hsw:∀y∈l,y.fit/\ce w0 y.A (aA y.x.bs))(hK:ce w0 (some ⟨1,0,.none⟩) (dm ks))(hP:Pm w0 (Old w0) pm):
  CO 10 #[.slice A b.length c,.slice K key.length kc,.slice AL l.length cL] w0 fun v Hn=>(keyed key=true/\∃os:List Ow,∃AO cO,os.map Ow.o=(Gw.run Wi.ops g0 key (Gw.new g0) (l.map Sw.x)).outs/\v=.tuple #[.slice AO os.length cO,J 0]/\Hn=[HP.row 50 3 AO os.length cO (fl Ow.cells os),HP.ro (j2 os)])\/(keyed key=false/\v=.tuple #[.slice none 0 0,J 2]/\Hn=[]):=by
 refine Zq ?_;refine Z4t ?_;refine OW.call Mx rfl rfl rfl rfl rfl rfl _ (fun w hw=>Sc A c b K kc key g0 w hc8 hl hd hck hsr (hw.rd hX) (hw.rd hY)) ?_;rintro _ _ (⟨hky,gR,K2,kc2,fR,AW,cW,⟨hgq,hgf,hfq⟩,rfl,rfl⟩|⟨hky,rfl,rfl⟩)
 all_goals
  refine Zd ?_ ?_
  ·try exact⟨⟩
   all_goals
    refine Zk ?_;intros;exact .inr ⟨hky,rfl,rfl⟩
  try exact⟨⟩
  all_goals
   have hg3:=(dw (az hck).2.2.1).2;have hgl:=aP.eJ gR;refine Zx (k:=Z4y ?_);intros;rw[<-hgq] at hg3;refine Z4t ?_;refine OW.aU Mx rfl rfl rfl rfl rfl rfl _ 3 rfl (fun w S hw hs hb hc=>Uy gR K2 kc2 key fR AW cW gR.ts.length S w hs (fun k hk=>(hb k hk).1) K1 ((ez hc (i:=3) rfl).at 0 rfl)) ?_;rintro _ _ ⟨⟨XB,Xg,XK,Xkc,Xkey,XA,XC,Xn⟩,⟨hXg,hXK,hXkc,hXk⟩,rfl,rfl⟩;obtain rfl:gR=Xg:=hXg.symm;obtain rfl:K2=XK:=hXK.symm;obtain rfl:kc2=Xkc:=hXkc.symm;obtain rfl:key=Xkey:=hXk.symm;refine Z4t ?_;refine CW.av [10,27,28] 1 rfl rfl (fun mm mods Hm=>∃k:Nat,mm=l.length-k/\mods=[(29,J k)]/\Hm=[HP.si (E.Sx.mk XB gR K2 kc2 key XA XC Xn) (Gw.run Wi.ops g0 key (Gw.new g0) ((l.take k).map Sw.x))]/\k<=l.length/\SI gR.q (Gw.run Wi.ops g0 key (Gw.new g0) ((l.take k).map Sw.x)) (5000*k)) (l.length) ?_ ?_
   ·exact⟨[(29,_)],Kc,0,rfl,rfl,(by rw[hfq,<-hgq];show _=[HP.si _ (Gw.new gR.q)];unfold Gw.new;first|(rw[hgl];done)|(rw[<-hgl];done)|(rw[hgl];rfl)),K1,(by rw[hgq];exact Eo hck hst)⟩
   rintro _ _ _ ⟨k,rfl,rfl,rfl,hk,hIk⟩;refine Zc ?_ ?_
   ·refine Z4u ?_;intro hc;have hmk:(l.getD k Sw.z)∈l:=Pa K1;refine Z4t ?_;intros;refine OW.aU Mx rfl rfl rfl rfl rfl rfl _ 1 rfl (fun w S hw hs hb hc=>acC (E.Sx.mk XB gR K2 kc2 key XA XC Xn) (Gw.run Wi.ops g0 key (Gw.new g0) ((l.take k).map Sw.x)) (5000*k) pm (l.getD k Sw.z) S w hs (fun k hk=>(hb k hk).1) ⟨aP.abC (ez hc (i:=2) rfl),(ez hc (i:=3) rfl).at 0 rfl,hw.fD hK hb,⟨hw.fD hP.r hb,fun y hy=>hw.fD (hP.m y hy) hb,hP.e⟩⟩ ⟨by rw[hgq];exact hck,hgf⟩ hIk K1 (hsw _ hmk).1 (hw.fD (hsw _ hmk).2 hb)) ?_;rintro _ _ ⟨e9,rfl,rfl⟩
    refine Z4t ?_;refine⟨_,[(29,_)],[0,1,1,1,1],[_],?_,Kc,rfl,k+1,rfl,rfl,(by rw[sS K1,Cu,<-hgq]),K1,(by rw[sS K1,Cu];have:=zQ (key:=key) (by rw[hgq];exact hck) hIk (l.getD k Sw.z).x;rw[<-hgq] at this⊢;exact this.more K1)⟩
    omega
   refine Z4u ?_;intros;obtain rfl:k=l.length:=K1;refine Z3Q (k:=fun z hzq hzok=>?_);refine CW.conv (dh [3,0,1] 1 rfl rfl (j2 z.os) (fun p hp=>by simp[Si.mem,hp])) ?_
   refine Z4t ?_;refine KR.two [2,0] rfl rfl rfl rfl ?_;exact .inl ⟨hky,z.os,z.AO,z.cO,by rw[Si.abN hzq,bJ],rfl,rfl⟩
namespace E
theorem YR{os:List Ow}{x y:Ou}(h:os.map Ow.o=[x,y]):∃A1 c1 A2 c2,os=[⟨x,A1,c1⟩,⟨y,A2,c2⟩]:=by
 match os,h with
 |[],h=>cases h
 |[_],h=>cases h
 |[a,b],h=>
  obtain⟨a,A1,c1⟩:=a;obtain⟨b,A2,c2⟩:=b;simp_all
 |_::_::_::_,h=>cases h
theorem C9{ps os:List Ow}{t:Int}(h:ps.map Ow.o=port (os.map Ow.o) t):ps.length<=os.length/\∀n,(∀x∈os,x.o.bs.length<=n)->∀x∈ps,x.o.bs.length<=n:=by
 constructor
 ·grind [List.length_filter_le,port]
 intro n hn x hx;have h1:x.o∈port (os.map Ow.o) t:=by grind
 obtain⟨y,hy,he⟩:=cm.1 (gN.1 h1).1;rw[<-he];exact hn y hy
end E
namespace Gw
section
variable{g:Cf.C}{key:ap}
theorem O6(hck:Cf.check g=0):∀(l:List St) (s:S) (n:Nat),SI g s n->SI g (run Wi.ops g key s l) (n+5000*l.length)
 |[],_,_,h=>h
 |x::l,s,n,h=>(O6 hck l _ _ (zQ hck h x)).more (by grind)
noncomputable def w6(g:Cf.C)(key:ap)(l:List St):List Ou:=if keyed key=true then(run Wi.ops g key (new g) l).outs else[]
theorem R9(hck:Cf.check g=0)(hst:0<=g.st/\g.st<=last){l:List St}(hr:∀x∈l,0<=x.role/\x.role<256):(run Wi.ops g key (new g) l).outs.length<=5000*l.length/\OB (run Wi.ops g key (new g) l).outs:=
 ⟨by have:=(O6 (key:=key) hck l _ _ (Eo hck hst)).ol;omega,QH hck l _ _ (Eo hck hst) OB.nil hr⟩
end
structure xO(g:Cf.C)(t:Int):Prop where
 ck:Cf.check g=0
 st:0<=g.st/\g.st<=last
 on:lI g t=(Cf.only g t,0)
 za:Cf.check (Cf.only g t)=0
 so2:fV (Cf.only g t)=0
 st2:0<=(Cf.only g t).st/\(Cf.only g t).st<=last
 al:∀key l,w6 (Cf.only g t) key (eA l t)=port (w6 g key l) t
theorem top{g:Cf.C}{t:Int}(hf:0<=g.st)(h1:(lI g t).2=0)(h2:fV g=0):xO g t:=by
 obtain⟨hT,hon⟩:=JY h1;have hst:0<=g.st/\g.st<=last:=⟨hf,(az hT.c).2.2.2⟩;refine⟨hT.c,hst,hon,dP hT.c hT.p,(FJ hT).2 (Ej hT.c h2 hT.p),hst,fun key l=>?_⟩;have ht:=hT.iF.1;unfold w6;by_cases hk:keyed key=true
 ·rw[aa hk,aa hk];have:=alone (o:=Wi.ops) hT.c (t:=t.toNat) (by grind [Pr,fB.p]) hst key l
  grind
 rw[ae hk,ae hk];rfl
theorem xO.dec{g:Cf.C}{t:Int}(h:xO g t):Cf.dec (kZ g).1=(g,0):=by rw[yd h.ck];exact GP h.ck h.st.1
theorem xO.aem{g:Cf.C}{t:Int}(h:xO g t):Cf.dec (kZ (Cf.only g t)).1=(Cf.only g t,0):=by rw[yd h.za];exact GP h.za h.st2.1
theorem nN{g:Cf.C}(h:Cf.check g=0):(kZ g).1.length<=100000/\(kZ g).2=0:=by
 grind [yd,Cf.jP]
end Gw
instance(a:Int):CB 48 #[(0,U a)] ((.agg #[U a,J 0,J 0,U 0,V 0,.slice none 0 0])):=⟨fun _=>K0⟩
instance(a b c d:Int):CB 48 #[(0,U a),(1,J b),(3,U c),(4,V d)] ((.agg #[U a,J b,J 0,U c,V d,.slice none 0 0])):=⟨fun _=>K0⟩
instance(a b c:Int):CB 48 #[(0,U a),(3,U b),(4,V c)] ((.agg #[U a,J 0,J 0,U b,V c,.slice none 0 0])):=⟨fun _=>K0⟩
def qh{a:Int}{b:Int}{c:Int}{d:Int}{e:Int}{f:am}{g h:Nat}{i:Int}{j:Int}{k:Int}{l:Int}{m:Int}{n:am}{o p:Nat}{q:Int}{r:Int}{s:Int}{t:Int}{u:Int}{v:am}{x y:Nat}{z:Int}{A:Int}{B:Int}{C:Int}{D:Int}{F:am}{G H:Nat}{I:Int}{L:Int}{M:Int}{N:Int}{P:Int}{Q:am}{R S:Nat}(w:World):(Instr.buildSlice 29 5 #[(0,.agg #[U a,J b,J c,U d,V e,.slice f g h]),(1,.agg #[U i,J j,J k,U l,V m,.slice n o p]),(2,.agg #[U q,J r,J s,U t,V u,.slice v x y]),(3,.agg #[U z,J A,J B,U C,V D,.slice F G H]),(4,.agg #[U I,J L,J M,U N,V P,.slice Q R S])]).run prog w=.ok (.slice (some ⟨w.heap.size,0,none⟩) 5 5) (w.alloc (.cells #[U a,J b,J c,U d,V e,.slice f g h,U i,J j,J k,U l,V m,.slice n o p,U q,J r,J s,U t,V u,.slice v x y,U z,J A,J B,U C,V D,.slice F G H,U I,J L,J M,U N,V P,.slice Q R S] 48)):=K0
end Go.Proofs.YtcgecopggfjojaaGreatDoor
