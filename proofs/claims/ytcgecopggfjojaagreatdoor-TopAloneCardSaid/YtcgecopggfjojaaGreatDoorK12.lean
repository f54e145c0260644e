/- Part 12: the logic, the plain laws and the walks behind TopAlone (lemmas only; each says its own conditions). -/
import Derived.Test.YtcgecopggfjojaaGreatDoorK11
set_option maxRecDepth 100000
set_option linter.all false
set_option maxHeartbeats 0
namespace Go.Proofs.YtcgecopggfjojaaGreatDoor
open Go Go.RowKit Go.Proofs.Tryz E Fl Cf Od Bf Cr Rt Tr Gw Dg Au Wi
attribute [local irreducible] E.CW E.OW E.QW E.AW E.lJ E.blockK E.PV
theorem kF(g:aP)(t:Int)(y:Cw)(tick:Int)(w0:World)(hg:g.rd w0 (Old w0))(hgf:g.q.fit)(hT:fB g.q t)(htk:0<=tick/\tick<=last)(hmem:E.dc w0 (Old w0) y.mem)(hV:Cr.V (Cr.ev g.q t) tick y.q):
  CO 120 #[g.v,J t,y.v,V tick] w0 fun v Hn=>∃z:Cw,z.q=eD (Cr.ev g.q t) tick y.q/\v=.tuple #[z.v,J 0]/\Hn=[HP.ro z.mem]:=by
 refine Zq ?_;refine Zx (k:=Z4y ?_);intros;refine Z3t (k:=?_);iterate 4 refine Z4v ?_
 refine E.AW.two 4 11 K0 rfl rfl ?_ ?_
 focus
  refine Zg @mL ?_;refine Z4w ?_;intro AP;refine E.AW.two 5 11 K0 rfl rfl ?_ ?_
  focus
   refine Z3u (k:=Z4w ?_);refine E.AW.two 6 11 K0 rfl rfl ?_ ?_
   focus
    refine Zg @abL ?_;refine Z4w ?_;iterate 9 refine Z4v ?_
    intro s9 AR cR hs9 _
   rotate_right
   focus
    refine Zo (k:=Z4w ?_);intros;refine Z4N ?_;refine Zg @abL ?_;refine Z4w ?_;iterate 8 refine Z4v ?_
    intro s9 AR cR hs9
  rotate_right
  focus
   refine Zo (k:=Z4w ?_);intros;refine Z4G ?_;refine OW.cut (i:=1) (h:=3) Ux Jx rfl rfl rfl rfl rfl rfl rfl K1 ?_;refine Zj (k:=Z4N ?_);refine Zg @abL ?_;refine Z4w ?_;iterate 8 refine Z4v ?_
   intro s9 AR cR hs9
 rotate_right
 focus
  refine Zo (k:=Z4w ?_);intros;refine ZR (k:=?_);refine Zg @mL ?_;refine Z4w ?_;intro AP;refine ZS (k:=Z3u (k:=Zj (k:=Z4N ?_)));refine Zg @abL ?_;refine Z4w ?_;iterate 8 refine Z4v ?_
  intro s9 AR cR hs9
 all_goals
  refine Zx (k:=Z3v (k:=Zr (k:=Z4Q ?_)));exact⟨(Cw.mk s9.rs AR cR s9.b s9.mv),hs9.eq,rfl,rfl⟩
def UA(g:aP)(t:Int)(y:Cw)(tick:Int)(w0:World)(hg:g.rd w0 (Old w0))(hgf:g.q.fit)(hT:fB g.q t)(htk:0<=tick/\tick<=last)(hmem:E.dc w0 (Old w0) y.mem)(hV:Cr.V (Cr.ev g.q t) tick y.q)(hlt:tick<4611686018427387904):
  CO 122 #[g.v,J t,y.v,V tick] w0 fun v Hn=>∃z:Cw,∃A2 c2,z.q=(cx (Cr.ev g.q t) tick y.q).1/\v=.tuple #[z.v,.slice A2 (cx (Cr.ev g.q t) tick y.q).2.length c2,J 0]/\Hn=[HP.row 246 6 z.A z.rs.length z.c (fl Cr.R.cs z.rs),HP.ro [(z.b.A1,fl Od.O.cs z.b.q.os),(z.b.A2,ints z.b.q.q)],HP.row 3 1 A2 (cx (Cr.ev g.q t) tick y.q).2.length c2 (ints (cx (Cr.ev g.q t) tick y.q).2)]:=by
 refine Zq ?_;refine Zx (k:=Z4y ?_);intros;refine Z3t (k:=?_);iterate 4 refine Z4v ?_
 refine ZR (k:=?_);refine Zg @mL ?_;refine Z4w ?_;intro AP;refine Z4G ?_;refine OW.pure rfl rfl rfl (PV.aaU (lo:=3) (hi:=4) Ux Jx rfl rfl rfl rfl K1 K1) ?_;refine OW.put 16 (.slice (fu AP 6 3) 1 3) rfl rfl ?_;refine Zj (k:=Z4N ?_);refine OW.call Mx rfl rfl rfl rfl rfl rfl _ (fun w hw=>abm g t y tick w (hw.lN hg) hgf hT htk (hw.sy hmem) hV hlt (fu AP 6 3) 3 (by first|exact sI (k:=3) (m:=1) (hw.bh (i:=0) rfl) (by decide) (by decide)|exact sI (k:=3) (m:=1) (hw.bh (i:=1) rfl) (by decide) (by decide))) ?_;rintro _ _ ⟨s9,AR,cR,hs9,rfl,rfl⟩
 refine Z4t ?_;refine KR.wa [1,1,1] rfl (rv.cell Ix rfl (dU 0 rfl) rfl) rfl rfl rfl ?_;exact⟨(Cw.mk s9.rs AR cR s9.b s9.mv),s9.A2,s9.c2,hs9.eq,by rw[<-hs9.ed]<;>rfl,by rw[<-hs9.ed]⟩
def MC(g:aP)(t:Int)(y:Cw)(tick:Int)(w0:World)(hg:g.rd w0 (Old w0))(hgf:g.q.fit)(hT:fB g.q t)(htk:0<=tick/\tick<=last)(hmem:E.dc w0 (Old w0) y.mem)(hV:Cr.V (Cr.ev g.q t) tick y.q)(hlt:tick<4611686018427387904):
  CO 123 #[g.v,J t,y.v,V tick] w0 fun v Hn=>∃z:Cw,z.q=iI (Cr.ev g.q t) tick y.q/\v=.tuple #[z.v,J 0]/\Hn=[HP.ro z.mem]:=by
 refine Zq ?_;refine Zx (k:=Z4y ?_);intros;refine Z3t (k:=?_);iterate 4 refine Z4v ?_
 refine E.AW.two 4 11 K0 rfl rfl ?_ ?_
 focus
  refine Zg @mL ?_;refine Z4w ?_;intro AP;refine E.AW.two 5 11 K0 rfl rfl ?_ ?_
  focus
   refine OW.pure rfl rfl rfl (PV.D4 (lo:=4) Ux Jx rfl rfl rfl K6) ?_;refine OW.put 19 (.slice (fu AP 6 4) 2 2) rfl rfl ?_;refine Z4w ?_;refine E.AW.two 6 11 K0 rfl rfl ?_ ?_
   focus
    refine Z3w (k:=fun s9 AR cR hs9=>Z4w ?_);iterate 9 refine Z4v ?_
    intros
   rotate_right
   focus
    refine Zo (k:=Z4w ?_);intros;refine Z15 (k:=Z3w (k:=fun s9 AR cR hs9=>Z4w ?_));iterate 8 refine Z4v ?_
  rotate_right
  focus
   refine Zo (k:=Z4w ?_);intros;refine Z4G ?_;refine OW.pure rfl rfl rfl (PV.D4 (lo:=4) Ux Jx rfl rfl rfl K6) ?_;refine OW.put 19 (.slice (fu AP 6 4) 2 2) rfl rfl ?_;refine Zj (k:=Z15 (k:=Z3w (k:=fun s9 AR cR hs9=>Z4w ?_)));iterate 8 refine Z4v ?_
 rotate_right
 focus
  refine Zo (k:=Z4w ?_);intros;refine ZR (k:=?_);refine Zg @mL ?_;refine Z4w ?_;intro AP;refine Z4G ?_;refine OW.pure rfl rfl rfl (PV.D4 (lo:=4) Ux Jx rfl rfl rfl K6) ?_;refine OW.put 19 (.slice (fu AP 6 4) 2 2) rfl rfl ?_;refine Zj (k:=Z15 (k:=Z3w (k:=fun s9 AR cR hs9=>Z4w ?_)));iterate 8 refine Z4v ?_
 all_goals
  refine Zx (k:=Z3v (k:=Zr (k:=Z4Q ?_)));exact⟨(Cw.mk s9.rs AR cR s9.b s9.mv),hs9.eq,rfl,rfl⟩
def PY(g:aP)(t:Int)(y:Cw)(n tick:Int)(w0:World)(hg:g.rd w0 (Old w0))(hgf:g.q.fit)(hT:fB g.q t)(htk:0<=tick/\tick<=last)(hmem:E.dc w0 (Old w0) y.mem)(hV:Cr.V (Cr.ev g.q t) tick y.q)(hn:0<=n/\n<y.rs.length)(hgo:(Cr.goal (Cr.ev g.q t) y.b.q n.toNat (Cr.at_ y.rs n.toNat)).2=true):
  CV 194 #[g.v,J t,y.v,J n,V tick] w0 (.tuple #[J (Cr.goal (Cr.ev g.q t) y.b.q n.toNat (Cr.at_ y.rs n.toNat)).1,J 0]):=by
 obtain⟨hrl,hol,hql⟩:=Cw.small hT hV;have htl:=gU hT;have htm:=hg.tm hT;refine Zq ?_;refine Zg @Ni ?_;refine Z4u ?_;intro _ _ BD AD cD bD hbD;have hsk:=Sh.GJ (A:=AD) (c:=cD) (dn:=[]) (A2:=.none) (c2:=0) hT hgf htk hV hbD;refine Z24 (k:=?_);have hhl:=da y.rs;refine Z3x (k:=Zy (k:=Z4y ?_));intro hc;refine Z4z ?_;iterate 5 refine Z4x ?_
 refine OW.put 43 (.slice AD y.rs.length cD) rfl rfl ?_;refine Z4t ?_;refine OW.call Mx rfl rfl rfl rfl rfl rfl _ (fun w hw=>sU BD (Sh.mk g t (eY g t) tick y.rs AD cD bD y.mv [] .none 0) (Cr.ev g.q t) n.toNat w (hw.Co (i:=1) (j:=0) (k:=2) rfl rfl rfl hg htm) hsk.em hsk.bk (show n.toNat<y.rs.length by omega) hsk.len) ?_;rintro _ _ ⟨rfl,rfl⟩
 refine Z4L ?_;refine OW.put 14 (J (Cr.goal (Cr.ev g.q t) y.b.q n.toNat (Cr.at_ y.rs n.toNat)).1) rfl (by show J (Cr.goal (Cr.ev g.q t) bD.q n.toNat (Cr.at_ y.rs n.toNat)).1=_;rw[hbD]) ?_
 refine OW.put 15 (.bool true) rfl (by show Value.bool (Cr.goal (Cr.ev g.q t) bD.q n.toNat (Cr.at_ y.rs n.toNat)).2=_;rw[hbD,hgo]) ?_
 refine Zk ?_;exact⟨rfl,rfl⟩
def Jo(g:aP)(t:Int)(y:Cw)(n tick:Int)(w0:World)(hg:g.rd w0 (Old w0))(hgf:g.q.fit)(hT:fB g.q t)(htk:0<=tick/\tick<=last)(hmem:E.dc w0 (Old w0) y.mem)(hV:Cr.V (Cr.ev g.q t) tick y.q):
  CO 138 #[g.v,J t,y.v,J n,V tick] w0 fun v Hn=>((0<=n/\n<y.rs.length)/\∃z:Cw,z.q=Cr.due y.q n.toNat/\v=.tuple #[z.v,J 0]/\Hn=[HP.ro z.mem])\/(¬(0<=n/\n<y.rs.length)/\v=.tuple #[Cw.z.v,J 2]/\Hn=[]):=by
 obtain⟨hrl,hol,hql⟩:=Cw.small hT hV;have htl:=gU hT;have htm:=hg.tm hT;refine Zq ?_;refine Zg @Ni ?_;refine Z4u ?_;intro _ _ _ BD AD cD bD hbD;refine Z24 (k:=?_);have hhl:=da y.rs;refine Z3x (k:=?_);refine Zs ?_ ?_;all_goals first|(iterate 5 refine Z4x ?_;intros)|intros
 all_goals first|(refine OW.put 34 (.slice AD y.rs.length cD) rfl rfl ?_)|skip
 all_goals
  refine Zd ?_ ?_
  ·try exact⟨⟩
   all_goals
    refine Zk ?_;intros;exact .inr ⟨K1,rfl,rfl⟩
  try exact⟨⟩
  all_goals
   intros;refine ZB (k:=Z4B ?_);refine CW.cut [10,12] 4 rfl rfl (fun mods Hm=>∃s2:Sh,mods=[]/\Hm=[HP.sh BD s2]/\s2.g=g/\s2.m=eY g t/\s2.q=Cr.due y.q n.toNat) ?_ ?_
   ·refine Zx (k:=Z4z ?_);iterate 4 refine Z4x ?_
    refine OW.put 42 (.slice AD y.rs.length cD) rfl rfl ?_;refine Zg @lD ?_;refine OW.put 46 (.bool (held (Cr.at_ y.rs n.toNat))) rfl K62 ?_;refine Zn (k:=?_);refine CW.fk (Sh.mk g t (eY g t) tick y.rs AD cD bD y.mv [] .none 0) 1 0 0 0 rfl rfl rfl rfl rfl rfl rfl ?_;refine Zc ?_ ?_
    ·intros;refine Z24 (k:=Z3x (k:=?_));refine CW.curr (rs:=y.rs) 0 n.toNat (Cr.at_ y.rs n.toNat) rfl K1 rfl ?_;refine Z4J ?_;refine OW.fk (Sh.mk g t (eY g t) tick (y.rs.set n.toNat ⟨(Cr.at_ y.rs n.toNat).pl,(Cr.at_ y.rs n.toNat).st,(Cr.at_ y.rs n.toNat).od,(Cr.at_ y.rs n.toNat).lf,(Cr.at_ y.rs n.toNat).sl,true⟩) AD cD bD y.mv [] .none 0) 1 0 0 0 rfl rfl rfl rfl K31 K32 (aq (fl Hd.cs) lF) ?_;refine Z4t ?_;first|(refine⟨[],[0,0,0,0],[_],?_,rfl,(Sh.mk g t (eY g t) tick (y.rs.set n.toNat ⟨(Cr.at_ y.rs n.toNat).pl,(Cr.at_ y.rs n.toNat).st,(Cr.at_ y.rs n.toNat).od,(Cr.at_ y.rs n.toNat).lf,(Cr.at_ y.rs n.toNat).sl,true⟩) AD cD bD y.mv [] .none 0),rfl,rfl,rfl,rfl,by rw[QY (w:=y.q) (n:=n.toNat) K2];exact aq (fun b=>(⟨_,b,_⟩:Cr.W)) hbD⟩;exact Kc)|(refine⟨[],[0,0,0,0],[_],?_,rfl,(Sh.mk g t (eY g t) tick y.rs AD cD bD y.mv [] .none 0),rfl,rfl,rfl,rfl,by rw[Hs (w:=y.q) (n:=n.toNat) K2];exact aq (fun b=>(⟨y.rs,b,y.mv⟩:Cr.W)) hbD⟩;exact Kc)
    refine Z4t ?_;intros;first|(refine⟨[],[0,0,0,0],[_],?_,rfl,(Sh.mk g t (eY g t) tick (y.rs.set n.toNat ⟨(Cr.at_ y.rs n.toNat).pl,(Cr.at_ y.rs n.toNat).st,(Cr.at_ y.rs n.toNat).od,(Cr.at_ y.rs n.toNat).lf,(Cr.at_ y.rs n.toNat).sl,true⟩) AD cD bD y.mv [] .none 0),rfl,rfl,rfl,rfl,by rw[QY (w:=y.q) (n:=n.toNat) K2];exact aq (fun b=>(⟨_,b,_⟩:Cr.W)) hbD⟩;exact Kc)|(refine⟨[],[0,0,0,0],[_],?_,rfl,(Sh.mk g t (eY g t) tick y.rs AD cD bD y.mv [] .none 0),rfl,rfl,rfl,rfl,by rw[Hs (w:=y.q) (n:=n.toNat) K2];exact aq (fun b=>(⟨y.rs,b,y.mv⟩:Cr.W)) hbD⟩;exact Kc)
   rintro _ _ ⟨s2,rfl,rfl,hsg,hsm,hsq⟩
   have hsl:s2.rs.length<=3:=by
     have h9:s2.q.rs.length<=3:=by rw[hsq,U4];exact hrl
     exact h9
   refine Z4t ?_;refine OW.call Mx rfl rfl rfl rfl rfl rfl _ (fun w hw=>ve BD s2 w (hw.aa2 (i:=0) rfl (by rw[hsg];exact hg) (by rw[hsm];exact htm)) hsl) ?_;rintro _ _ ⟨AC,cC,rfl,rfl⟩
   refine Z4L ?_;refine OW.open 2 rfl ?_;refine OW.gT [5,2,3] 2 rfl rfl (Cw.mk s2.rs AC cC s2.b s2.mv).mem K48 ?_;refine Zl ?_;exact .inl ⟨K1,(Cw.mk s2.rs AC cC s2.b s2.mv),hsq,rfl,rfl⟩
def Fq(g:aP)(t:Int)(y:Cw)(n tick:Int)(w0:World)(hg:g.rd w0 (Old w0))(hgf:g.q.fit)(hT:fB g.q t)(htk:0<=tick/\tick<=last)(hmem:E.dc w0 (Old w0) y.mem)(hV:Cr.V (Cr.ev g.q t) tick y.q):
  CO 212 #[g.v,J t,y.v,J n,V tick] w0 fun v Hn=>(∃b,(Od.move y.b.q n 5 0)=.ok b/\∃z:Cw,z.q={y.q with b:=b}/\v=.tuple #[z.v,J 0]/\Hn=[HP.ro z.mem])\/(∃e,(Od.move y.b.q n 5 0)=.error e/\v=.tuple #[Cw.z.v,J e]/\Hn=[]):=by
 obtain⟨hrl,hol,hql⟩:=Cw.small hT hV;have htl:=gU hT;have htm:=hg.tm hT;refine Zq ?_;refine Zg @Ni ?_;refine Zx (k:=Z4y ?_);intro _ _ _ BD AD cD bD hbD;have hsk:=Sh.GJ (A:=AD) (c:=cD) (dn:=[]) (A2:=.none) (c2:=0) hT hgf htk hV hbD;have hbk:Ok (eY g t).q bD.q:=hsk.bk;refine Z24 (k:=Z4R ?_);iterate 9 refine Z4v ?_
 refine E.AW.two 9 13 K0 rfl rfl ?_ ?_
 focus
  refine Zg @rD ?_;refine Z4w ?_;iterate 7 refine Z4v ?_
  intro b3 hb3 _
 rotate_right
 focus
  refine Zo (k:=Z4w ?_);intros;refine Z1d (k:=?_);refine OW.call Mx rfl rfl rfl rfl rfl rfl _ (fun w hw=>rD (eY g t) bD n w (hw.oP htm) ⟨K46,K47⟩ hbk) ?_;rintro _ _ ⟨b3,rfl,hb3,rfl⟩;refine Z4w ?_;iterate 6 refine Z4v ?_
 all_goals
  refine Zc ?_ ?_
  ·refine Zk ?_;intros;exact .inr ⟨_,by rw[<-hbD];exact NP K2,rfl,rfl⟩
  refine Z4t ?_;intros;refine Z3y (k:=fun AC cC=>Zo (k:=Z3z (k:=?_)));refine Zl ?_;exact .inl ⟨b3.q,by rw[hb3,<-hbD];exact O1 (fun e h=>vo h) K2,(Cw.mk y.rs AC cC b3 y.mv),rfl,rfl,rfl⟩
def D3(g:aP)(t:Int)(y:Cw)(pick drop tick:Int)(w0:World)(hg:g.rd w0 (Old w0))(hgf:g.q.fit)(hT:fB g.q t)(htk:0<=tick/\tick<=last)(hmem:E.dc w0 (Old w0) y.mem)(hV:Cr.V (Cr.ev g.q t) tick y.q):
  CO 210 #[g.v,J t,y.v,J pick,J drop,V tick] w0 fun v Hn=>(∃b,(dH (bQ g.q t) y.b.q pick drop tick)=.ok b/\∃z:Cw,z.q={y.q with b:=b}/\v=.tuple #[z.v,J b.os.length,J 0]/\Hn=[HP.ro z.mem])\/(∃e,(dH (bQ g.q t) y.b.q pick drop tick)=.error e/\v=.tuple #[Cw.z.v,J 0,J e]/\Hn=[]):=by
 obtain⟨hrl,hol,hql⟩:=Cw.small hT hV;have htl:=gU hT;have htm:=hg.tm hT;refine Zq ?_;refine Zg @Ni ?_;refine Zx (k:=Z4y ?_);intro _ _ _ BD AD cD bD hbD;have hsk:=Sh.GJ (A:=AD) (c:=cD) (dn:=[]) (A2:=.none) (c2:=0) hT hgf htk hV hbD;have hbk:Ok (eY g t).q bD.q:=hsk.bk;refine Z24 (k:=Z4R ?_);iterate 11 refine Z4v ?_
 refine E.AW.two 11 16 K0 rfl rfl ?_ ?_
 focus
  refine Z3A (k:=fun b3 hb3=>Z4w ?_);iterate 9 refine Z4v ?_
 rotate_right
 focus
  refine Zo (k:=Z4w ?_);intros;refine ZU (k:=Z3A (k:=fun b3 hb3=>Z4w ?_));iterate 8 refine Z4v ?_
 all_goals
  refine Zc ?_ ?_
  ·refine Zk ?_;intros;exact .inr ⟨_,by rw[<-hbD,<-jz];exact NP K2,rfl,rfl⟩
  refine Z4t ?_;intros;refine Z3y (k:=fun AC cC=>Zo (k:=Z3z (k:=?_)));refine Zl ?_;exact .inl ⟨b3.q,by rw[hb3,<-hbD,<-jz];exact O1 (fun e h=>vS h) K2,(Cw.mk y.rs AC cC b3 y.mv),rfl,rfl,rfl⟩
def MA(g:aP)(t:Int)(y:Cw)(tick:Int)(w0:World)(hg:g.rd w0 (Old w0))(hgf:g.q.fit)(hT:fB g.q t)(htk:0<=tick/\tick<=last)(hmem:E.dc w0 (Old w0) y.mem)(hV:Cr.V (Cr.ev g.q t) tick y.q):
  CO 182 #[g.v,J t,y.v,V tick] w0 fun v Hn=>∃A c,v=.tuple #[.slice A (jZ y.q).length c,J y.b.q.q.length,J 0]/\Hn=[HP.row 220 3 A (jZ y.q).length c (fl Sg.cs (jZ y.q))]:=by
 obtain⟨hrl,hol,hql⟩:=Cw.small hT hV;have htl:=gU hT;have htm:=hg.tm hT;refine Zq ?_;refine Zg @Ni ?_;refine Zx (k:=Z4y ?_);intro _ _ _ AD cD bD hbD;refine Z24 (k:=?_);have hhl:=da y.rs;refine Z3x (k:=?_);refine CW.bM 220 3 ?_;refine Z4z ?_;iterate 4 refine Z4x ?_
 refine OW.put 28 (.slice AD y.rs.length cD) rfl rfl ?_;refine Z4t ?_;refine CW.av [11,29] 1 rfl rfl (fun mm mods Hm=>∃k:Nat,∃A:am,∃c:Nat,mm=y.rs.length-k/\mods=[(30,J k),(8,.slice A (VE (y.rs.take k)).length c)]/\Hm=[HP.row 220 3 A (VE (y.rs.take k)).length c (fl Sg.cs (VE (y.rs.take k)))]/\k<=y.rs.length) (y.rs.length) ?_ ?_
 ·exact⟨[(30,_),(8,_)],Kc,0,.none,0,rfl,rfl,rfl,K1⟩
 rintro _ _ _ ⟨k,A,c,rfl,rfl,rfl,hk⟩;refine Zc ?_ ?_
 ·refine Zx (k:=Z4y ?_);intros;refine Z4z ?_;iterate 4 refine Z4x ?_
  refine OW.put 36 (.slice AD y.rs.length cD) rfl rfl ?_;have hk1:=LS (rs:=y.rs) (k:=k) K1;have hsl:(VE (y.rs.take k)).length<=3:=by rw[TO,cf];omega
  refine Zx (k:=ZQ (k:=?_));iterate 17 refine Z4v ?_
  refine E.AW.one 17 K0 rfl ?_;refine OW.buildSlice (Et:=220) (sz:=3) (cs:=fl Sg.cs [(⟨(Cr.at_ y.rs k).pl,(Cr.at_ y.rs k).st,(Cr.at_ y.rs k).od⟩:Sg)]) (ps:=[(0,.tmp 55)]) rfl rfl rfl rfl rfl rfl K4 (fun w=>JM w) (fun A3=>?_);refine Zj (k:=Z2a (k:=?_));refine OW.dJ (j:=0) (i:=0) Sg.fx Ux Jx rfl rfl rfl rfl rfl rfl rfl rfl rfl rfl K3 K3 (fun A4 c4=>?_);refine Z4t ?_;refine⟨_,[(30,_),(8,_)],[0,0,0,0,0,0,0],[_],?_,Kc,rfl,k+1,A4,c4,rfl,by rw[hk1]<;>rfl,by rw[hk1],K1⟩
  omega
 refine Z4u ?_;intros;obtain rfl:k=y.rs.length:=K1;refine Z0 (k:=Z4L ?_);refine QW.put 9 (J y.b.q.q.length) rfl (by show J (bD.q.q.length:Int)=_;rw[hbD]) ?_
 refine Zl ?_;exact⟨A,c,by rw[bJ]<;>rfl,by rw[bJ]<;>rfl⟩
def TS(g:aP)(t:Int)(w0:World)(hck:Cf.check g.q=0)(hg:g.rd w0 (Old w0))(hgf:g.q.fit):
  CO 86 #[g.v,J t] w0 fun v Hn=>(ag g.q.ts t=true/\∃z:Cw,z.q=Cr.new (bQ g.q t)/\v=.tuple #[z.v,J 0]/\Hn=[HP.ro z.mem])\/(ag g.q.ts t=false/\v=.tuple #[Cw.z.v,J 2]/\Hn=[]):=by
 obtain⟨hX1,hX2,hX3,hX4⟩:=id hg;have hgl:=aP.cj hgf;refine Zq ?_;refine Zg @Ie ?_;obtain⟨e0,he0⟩:∃e0:Int,e0=(if ag g.q.ts t=true/\(0:Int)<=last then 0 else 2):=⟨_,rfl⟩
 refine Z4L ?_;intros;refine OW.put 6 (J e0) rfl (by rw[he0]) ?_
 refine Zc ?_ ?_
 ·refine Zk ?_;intros;have hnp:¬ag g.q.ts t=true:=fun h=>by rw[aa ⟨h,by decide⟩] at he0;omega
  rw[ae (fun h=>hnp h.1)] at he0;subst he0;exact .inr ⟨by simpa using hnp,rfl,rfl⟩
 refine Z4u ?_;intro hc;have hpr:ag g.q.ts t=true:=Decidable.byContradiction fun h=>by rw[ae (fun h2=>h h2.1)] at he0;omega
 have hT:fB g.q t:=⟨hck,hpr⟩;have htl:=gU hT;have htm:=hg.tm hT;obtain⟨hm1,hm2,hm3⟩:=htm;have hln:=cz (iX hT).num;have hl3:(eY g t).q.h.length<=3:=by rw[jz];exact hln.1.2
 refine Z4y ?_;intro BN;refine CW.bM 246 6 ?_;refine Z4t ?_;refine OW.pure rfl rfl rfl (PV.oq (oh hX3) Gx rfl rfl (by rw[Fa];omega)) ?_
 refine OW.pure rfl rfl rfl (PV.dR (k:=t.toNat*8+0) (oh hX3) Nx rfl rfl (sX (v:=.slice (eY g t).A1 (eY g t).q.h.length (eY g t).c1) K1 rfl)) ?_;refine Zr (k:=Z1g (k:=?_));refine CW.av [4,7,23,24] 2 rfl rfl (fun mm mods Hm=>∃k:Nat,∃A:am,∃c:Nat,mm=(eY g t).q.h.length-k/\mods=[(25,J k)]/\Hm=[HP.aw BN 198 (Cw.mk (homes ((eY g t).q.h.take k)) A c (Bk.mk Od.B.z .none 0 .none 0) (-1)).cells,HP.row 246 6 A (homes ((eY g t).q.h.take k)).length c (fl Cr.R.cs (homes ((eY g t).q.h.take k)))]/\k<=(eY g t).q.h.length) ((eY g t).q.h.length) ?_ ?_
 ·exact⟨[(25,_)],Kc,0,.none,0,rfl,rfl,rfl,K1⟩
 rintro _ _ _ ⟨k,A,c,rfl,rfl,rfl,hk⟩;refine Zc ?_ ?_
 ·refine Zx (k:=Z4y ?_);intros;have hk1:=Fs (l:=(eY g t).q.h) (k:=k) K1;have hsl:(homes ((eY g t).q.h.take k)).length<=3:=by rw[JL,cf];omega
  refine Z4t ?_;refine OW.bsl 6 (fl Cr.R.cs [home ((eY g t).q.h.getD k 0)]) rfl rfl (fun w=>vr w) (fun A4=>?_);refine OW.dJ (j:=0) (i:=1) Cr.R.fx Ux Jx rfl rfl rfl rfl rfl rfl rfl rfl rfl rfl K3 K3 (fun A5 c5=>?_);refine Z4t ?_;refine⟨_,[(25,_)],[0,0,0,0],[_,_],?_,Kc,rfl,k+1,A5,c5,rfl,rfl,by rw[hk1]<;>rfl,K1⟩
  omega
 refine Z4u ?_;intros;obtain rfl:k=(eY g t).q.h.length:=K1;refine CW.bM 324 6 ?_;refine ZC (k:=?_);refine CW.gT [3,1,0,0,0] 3 rfl rfl (Cw.mk (homes (eY g t).q.h) A c (Bk.mk Od.B.z .none 0 .none 0) (-1)).mem (by simp[Cw.mem,Od.B.z,fl,ints]) ?_
 refine Zr (k:=Z4Q ?_);exact .inl ⟨hpr,(Cw.mk (homes (eY g t).q.h) A c (Bk.mk Od.B.z .none 0 .none 0) (-1)),by rw[<-jz]<;>rfl,by rw[bJ]<;>rfl,rfl⟩
def Fb(x:Cl)(w0:World):
  CV 153 #[x.v] w0 (.bool (kV x)):=by
 refine Zq ?_;refine Zs ?_ ?_;all_goals first|(refine Zt ?_ ?_<;>try exact⟨⟩)|((iterate 5 (refine Z4x ?_;intros)))|skip
 all_goals first|(refine Zt ?_ ?_<;>try exact⟨⟩)|((iterate 5 (refine Z4x ?_;intros)))|skip
 all_goals first|(refine Zt ?_ ?_<;>try exact⟨⟩)|((iterate 5 (refine Z4x ?_;intros)))|skip
 all_goals first|(refine Zt ?_ ?_<;>try exact⟨⟩)|((iterate 5 (refine Z4x ?_;intros)))|skip
 all_goals first|(refine Zt ?_ ?_<;>try exact⟨⟩)|((iterate 5 (refine Z4x ?_;intros)))|skip
 all_goals
  refine Zk ?_;intros;exact⟨aq Value.bool (by rw[de];simp[kV];omega),rfl⟩
def Ii(n:Int)(w0:World):
  CV 228 #[V n] w0 (.bool false):=by
 refine Zq ?_;refine Zk ?_;exact⟨aq Value.bool K7,rfl⟩
def TH(a b:Int)(w0:World):
  CV 197 #[V a,V b] w0 (J (Tr.cmp a b)):=by
 refine Zq ?_;refine Zg @Ii ?_;refine Zg @Ii ?_;refine Zc ?_ ?_
 ·refine Zk ?_;intros;exact⟨aq (Value.int .i64) K33,rfl⟩
 refine Zc ?_ ?_
 ·refine Zk ?_;intros;exact⟨aq (Value.int .i64) K33,rfl⟩
 refine Zk ?_;intros;exact⟨aq (Value.int .i64) K33,rfl⟩
def Gj(n:Int)(w0:World):
  CV 229 #[J n] w0 (.bool false):=by
 refine Zq ?_;refine Zk ?_;exact⟨aq Value.bool K7,rfl⟩
def Th(a b:Int)(w0:World):
  CV 198 #[J a,J b] w0 (J (Tr.cmp a b)):=by
 refine Zq ?_;refine Zg @Gj ?_;refine Zg @Gj ?_;refine Zc ?_ ?_
 ·refine Zk ?_;intros;exact⟨aq (Value.int .i64) K33,rfl⟩
 refine Zc ?_ ?_
 ·refine Zk ?_;intros;exact⟨aq (Value.int .i64) K33,rfl⟩
 refine Zk ?_;intros;exact⟨aq (Value.int .i64) K33,rfl⟩
def acF(A:am)(c:Nat)(l:bv)(w0:World)(hl:l.length<=1000)(hX:ce w0 A (ints l)):
  CV 196 #[.slice A l.length c] w0 (J (N3 l)):=by
 refine Zq ?_;refine Z4t ?_;refine CW.av [3,6,7] 0 rfl rfl (fun mm mods Hm=>∃k:Nat,mm=l.length-k/\mods=[(8,J k)]/\Hm=[]/\k<=l.length/\∀j,j<k->l.getD j 0=0) (l.length) ?_ ?_
 ·exact⟨[(8,_)],Kc,0,rfl,rfl,rfl,K1,fun j hj=>by omega⟩
 rintro _ _ _ ⟨k,rfl,rfl,rfl,hk,hI⟩;refine Zc ?_ ?_
 ·refine Zc ?_ ?_
  ·refine Zk ?_;intros;exact⟨aq (Value.int .i64) (Mf (k:=k) K1 hI K2).symm,rfl⟩
  refine Z4t ?_;intros
  refine⟨_,[(8,_)],[],_,?_,Kc,rfl,k+1,rfl,rfl,rfl,K1,fun j hj=>by
  rcases eG.1 hj with h|rfl
  ·exact hI j h
  ·assumption⟩
  omega
 refine Zk ?_;intros;exact⟨aq (Value.int .i64) (NB (fun j hj=>hI j K1)).symm,rfl⟩
def KG(x y:Cl)(w0:World):
  CV 154 #[x.v,y.v] w0 (J (xY x y)):=by
 refine Zq ?_;refine Zx (k:=Z4y ?_);intros;refine Z23 (k:=?_);iterate 8 refine Z4v ?_
 refine ZR (k:=?_);refine Zg @TH ?_;refine Zj (k:=Z1d (k:=?_));refine Zg @Th ?_;refine Zj (k:=Z4H ?_);refine OW.buildSlice (Et:=3) (sz:=1) (cs:=ints ([Tr.cmp x.tk y.tk,Tr.cmp x.pl y.pl])) (ps:=[(0,.tmp 9),(1,.tmp 14)]) rfl rfl rfl rfl rfl rfl K4 (fun w=>mV w) (fun A3=>?_);refine OW.chunk 0 (HP.row 3 1 A3 (List.length ([Tr.cmp x.tk y.tk,Tr.cmp x.pl y.pl])) 2 (ints ([Tr.cmp x.tk y.tk,Tr.cmp x.pl y.pl]))) rfl rfl ?_;refine OW.put 15 (.slice A3 (List.length ([Tr.cmp x.tk y.tk,Tr.cmp x.pl y.pl])) 2) rfl rfl ?_;refine Zj (k:=ZU (k:=?_));refine Zg @acF ?_;refine Zk ?_;exact⟨rfl,rfl⟩
def mK(g:aP)(t:Int)(w0:World)(hck:Cf.check g.q=0)(hg:g.rd w0 (Old w0))(hgf:g.q.fit):
  CV 119 #[g.v,J t] w0 (.bool (ag g.q.ts t)):=by
 refine Zq ?_;refine Zg @Gn ?_;have hA:=Pf (t:=t) hck;have hB:=Ns (t:=t) hck;refine Zs ?_ ?_
 all_goals
  refine Zk ?_;intros;refine⟨aq Value.bool ?_,rfl⟩;cases hp:ag g.q.ts t with
  |true=>
    have h1:=hA hp;simp_all
  |false=>
    rw[<-kT] at hp⊢;intro h;exact hp (hB K8 K8)
def Xv(A:am)(c:Nat)(l:List Cr.R)(w0:World)(hl:l.length*48<=140737488355328)(hX:ce w0 A (fl Cr.R.cs l)):
  CO 256 #[.slice A l.length c] w0 fun v Hn=>∃A2 c2,v=.slice A2 l.length c2/\Hn=[HP.row 246 6 A2 l.length c2 (fl Cr.R.cs l)]:=by
 refine Zq ?_;refine Zc ?_ ?_
 ·refine Z4u ?_;intro hc;refine CW.bM 246 6 ?_;refine Zl ?_
  have hl0:l=[]:=by
    cases hA:A with
    |none=>
      cases l with
      |nil=>rfl
      |cons x r=>obtain⟨ad,e,_⟩:=hX (by rw[Cr.R.fx.ct];exact jG (by simp) Cr.R.fx.pos);rw[hA] at e;cases e
    |some ad=>rw[hA] at hc;cases hc
  subst hl0;exact⟨none,0,rfl,rfl⟩
 refine Z4t ?_;intros;refine OW.bsl 6 (fl Cr.R.cs []) rfl rfl (fun w=>JN w) (fun A1=>?_);refine Z4t ?_;refine OW.qA (xs:=[]) (i:=0) Cr.R.fx Ux Jx rfl rfl rfl rfl rfl rfl rfl rfl rfl (oh hX) K3 K3 (fun A2 c2=>?_);refine Zl ?_;exact⟨_,_,rfl,rfl⟩
def XI(A:am)(c:Nat)(l:List Cl)(w0:World)(hl:l.length*32<=140737488355328)(hX:ce w0 A (fl Cl.cs l)):
  CO 221 #[.slice A l.length c] w0 fun v Hn=>∃A2 c2,v=.slice A2 l.length c2/\Hn=[HP.row 258 4 A2 l.length c2 (fl Cl.cs l)]:=by
 refine Zq ?_;refine Zc ?_ ?_
 ·refine Z4u ?_;intro hc;refine CW.bM 258 4 ?_;refine Zl ?_
  have hl0:l=[]:=by
    cases hA:A with
    |none=>
      cases l with
      |nil=>rfl
      |cons x r=>obtain⟨ad,e,_⟩:=hX (by rw[Cl.fx.ct];exact jG (by simp) Cl.fx.pos);rw[hA] at e;cases e
    |some ad=>rw[hA] at hc;cases hc
  subst hl0;exact⟨none,0,rfl,rfl⟩
 refine Z4t ?_;intros;refine OW.bsl 4 (fl Cl.cs []) rfl rfl (fun w=>LP w) (fun A1=>?_);refine Z4t ?_;refine OW.qA (xs:=[]) (i:=0) Cl.fx Ux Jx rfl rfl rfl rfl rfl rfl rfl rfl rfl (oh hX) K3 K3 (fun A2 c2=>?_);refine Zl ?_;exact⟨_,_,rfl,rfl⟩
def yj:(299:TypeId)<Tryz.prog.types.size:=bf K0
def RX:(match Tryz.prog.underlying 299 with|some (.array _ _)|some (.struct _)=>true|_=>false)=true:=by rw[underlying299]
def WO:WideMaps.KeyLaw prog 299:=deep_law_laid laidOut (m:=2) K1 yj K0 RX
def Xr:(305:TypeId)<Tryz.prog.types.size:=bf K0
def S6:(match Tryz.prog.underlying 305 with|some (.array _ _)|some (.struct _)=>true|_=>false)=true:=by rw[underlying305]
def XP:WideMaps.KeyLaw prog 305:=deep_law_laid laidOut (m:=2) K1 Xr K0 S6
def acT:Tryz.prog.keyType 299=true:=K0
def aba:Tryz.prog.keyType 305=true:=K0
def abD:Tryz.prog.cellsOf 299=2:=K0
def abQ:Tryz.prog.cellsOf 305=3:=K0
def Uj:Tryz.prog.cellsOf 3=1:=K0
def wv:Tryz.prog.cellsOf 26=1:=K0
def AG:∃n,Tryz.prog.types.size=n+1:=Nat.exists_eq_succ_of_ne_zero (Nat.ne_of_gt (oI (bF 299) yj))
def XR(a b:Int)(ha:(Lit.int .u64 a).wf=true)(hb:(Lit.int .i64 b).wf=true):∃l,keyOf prog 299 (.agg #[V a,J b])=some l:=by
 obtain⟨n,hn⟩:=AG;unfold keyOf;rw[underlying299,hn];simp[Value.formed,underlying299,acT,abD,Value.cells,Program.keyLits,Uj,wv,underlying3,underlying26,ha,hb,kg]
def V6(a b c:Int)(ha:(Lit.int .u64 a).wf=true)(hb:(Lit.int .i64 b).wf=true)(hc:(Lit.int .i64 c).wf=true):∃l,keyOf prog 305 (.agg #[V a,J b,J c])=some l:=by
 obtain⟨n,hn⟩:=AG;unfold keyOf;rw[underlying305,hn];simp[Value.formed,underlying305,aba,abQ,Value.cells,Program.keyLits,Uj,wv,underlying3,underlying26,ha,hb,hc,kg]
def pb:Mw prog 294 299 258 Tr.k2 (Tr.l2 prog) Tr.o2:=mw2 WO Ux XR
def wX:Mw prog 295 305 3 k3 (l3 prog) o3:=mw3 XP Ux V6
def VC(B Ba Br m:Nat)(L:List Cl)(x:Cl)(S:Nat->Prop)(w0:World)(hS:(HP.dj [HP.aw B 297 [.map (some Ba),.map (some Br)],HP.mw prog 299 Ba m (Tr.l2 prog) Tr.o2 (gV (L)),HP.mw prog 305 Br m (l3 prog) o3 (ko (L))]).bA S w0)(hb:∀k,S k->k<w0.heap.size)(hx:x.fit)(hm:m<=100000):
  CF 155 #[Y B 0,x.v] w0 S fun v Hn=>∃m2,m2<=m+1/\v=.bool (!Tr.taken L x)/\Hn=[(HP.dj [HP.aw B 297 [.map (some Ba),.map (some Br)],HP.mw prog 299 Ba m2 (Tr.l2 prog) Tr.o2 (gV (put L x)),HP.mw prog 305 Br m2 (l3 prog) o3 (ko (put L x))])]:=by
 refine Zp (HA.au hS hb) ?_;refine Zx (k:=Z24 (k:=Z4y ?_));intros;refine Z4R ?_;iterate 12 refine Z4v ?_
 refine E.AW.two 12 13 K0 rfl rfl ?_ ?_
 focus
  refine Zo (k:=Z4w ?_);iterate 4 refine Z4v ?_
  intro BP BQ
 rotate_right
 focus
  refine Zo (k:=Z4w ?_);iterate 4 refine Z4v ?_
  intro _ BP
 all_goals
  refine Z4u ?_;first|refine CW.bO 0 (HP.aw BP 299 [V x.tk,J x.pl]) rfl rfl ?_|refine CW.bO 1 (HP.aw BP 299 [V x.tk,J x.pl]) rfl rfl ?_
  refine CW.dV mixed [0,2,2] rfl ?_;iterate 5 refine Z4v ?_
  refine E.AW.first 5 rfl K0 K0 K0 rfl rfl rfl (PV.DC (i:=2) (a:=(x.tk,x.pl)) pb Jx rfl rfl rfl rfl hx.a) ?_;obtain⟨y9,hy9⟩:=RU L (x.tk,x.pl);iterate 2 refine Z4v ?_
  refine E.AW.put 30 (.agg #[V y9.tk,J y9.pl,J y9.tn,J y9.rb]) rfl hy9 ?_;refine Zc ?_ ?_
  ·refine Z4u ?_;intros;refine CW.aX [4,4,4] 3 rfl rfl ?_;refine Zl ?_;have ht9:Tr.taken L x=true:=by rw[tN,show(gV L (x.tk,x.pl)).isSome=true by assumption];rfl
   exact⟨m,K1,by rw[ht9]<;>rfl,by unfold put;rw[aa ht9]⟩
  refine Z4u ?_;intro _ hc;refine Z0 (k:=Z4t ?_);refine QW.pure rfl rfl rfl (PV.DC (i:=6) (a:=(x.tk,x.tn,x.rb)) wX Jx rfl rfl rfl rfl hx.r) ?_;refine Zc ?_ ?_
  ·refine Z4u ?_;intros;refine CW.aX [4,4,4] 3 rfl rfl ?_;refine Zl ?_;have ht9:Tr.taken L x=true:=by rw[tN,show(ko L (x.tk,x.tn,x.rb)).isSome=true by assumption,Bool.or_true]
   exact⟨m,K1,by rw[ht9]<;>rfl,by unfold put;rw[aa ht9]⟩
  refine Z4u ?_;intros;refine CW.dV mixed [1,1,1,1] rfl ?_;iterate 13 refine Z4v ?_
  refine E.AW.one 13 K0 rfl ?_;refine OW.GH (i:=5) (a:=(x.tk,x.pl)) pb Jx rfl rfl rfl rfl rfl rfl rfl hx.a K4 (fun vE7 sE7=>?_);refine Zj (k:=Z4v ?_);refine E.AW.one 15 K0 rfl ?_;refine OW.Hf (i:=0) rfl rfl rfl rfl rfl rfl rfl ?_;refine Z4w ?_;refine E.AW.one 16 K0 rfl ?_;refine OW.GH (i:=6) (a:=(x.tk,x.tn,x.rb)) wX Jx rfl rfl rfl rfl rfl rfl rfl hx.r K4 (fun vE8 sE8=>?_);refine Zj (k:=Za (k:=Z2a (k:=?_)));refine OW.Hf (i:=0) rfl rfl rfl rfl rfl rfl rfl ?_;have hA9:(gV L (x.tk,x.pl)).isSome=false:=by assumption
  have hR9:(ko L (x.tk,x.tn,x.rb)).isSome=false:=by assumption
  have ht9:Tr.taken L x=false:=by rw[tN,hA9,hR9];rfl
  refine Z4u ?_;first|refine CW.bO 0 (HP.mw prog 299 Ba (m+1) (Tr.l2 prog) Tr.o2 (gV (L++[x]))) rfl (aq (HP.mw prog 299 Ba (m+1) (Tr.l2 prog) Tr.o2) (BV hA9)) ?_|refine CW.bO 1 (HP.mw prog 299 Ba (m+1) (Tr.l2 prog) Tr.o2 (gV (L++[x]))) rfl (aq (HP.mw prog 299 Ba (m+1) (Tr.l2 prog) Tr.o2) (BV hA9)) ?_
  refine CW.bO 1 (HP.mw prog 305 Br (m+1) (l3 prog) o3 (ko (L++[x]))) rfl (aq (HP.mw prog 305 Br (m+1) (l3 prog) o3) (NM hR9)) ?_;refine CW.aX [6,1,0] 3 rfl rfl ?_;refine Zl ?_;exact⟨m+1,K1,by rw[ht9]<;>rfl,by unfold put;rw[ae (by rw[ht9];simp)]⟩
end Go.Proofs.YtcgecopggfjojaaGreatDoor
