/- Part 11: the logic, the plain laws and the walks behind TopAlone (lemmas only; each says its own conditions). -/
import Derived.Test.YtcgecopggfjojaaGreatDoorK10
set_option maxRecDepth 100000
set_option linter.all false
set_option maxHeartbeats 0
namespace Go.Proofs.YtcgecopggfjojaaGreatDoor
open Go Go.RowKit Go.Proofs.Tryz E Fl Cf Od Bf Cr Rt Tr Gw Dg Au Wi
attribute [local irreducible] E.CW E.OW E.QW E.AW E.lJ E.blockK E.PV
def rj(B:Nat)(s:Sh)(S:Nat->Prop)(w0:World)(hS:(HP.sh B s).bA S w0)(hb:∀k,S k->k<w0.heap.size)(hg:s.g.rd w0 (Fm w0 S))(hm:s.m.rd w0 (Fm w0 S))(hok:s.ok):
  CF 201 #[Y B 0] w0 S fun v Hn=>Hn=[HP.sh B {s with rs:=(leaves s.e s.tk s.q).rs,mv:=(leaves s.e s.tk s.q).mv}]:=by
 have hle:=hok.le;have hlen:=hok.len;have htk:=hok.WD;refine Zp (HA.au hS hb) ?_;refine Zx (k:=Z24 (k:=?_));have hhl:=da s.rs;refine Zn (k:=Z3r (k:=?_));refine Zc ?_ ?_
 ·refine Zl ?_;intros;rw[show(leaves s.e s.tk s.q)=s.q from aa K2];rfl
 refine Z4u ?_;intro hc;refine Z24 (k:=?_);have hmv1:s.mv= -1:=by have:=hok.v.mv.1;have h9: -1<=s.mv:=this;omega
 refine Z4t ?_;refine CW.av [0,18] 0 rfl rfl (fun mm mods Hm=>∃k:Nat,mm=s.rs.length-k/\mods=[(19,J k),(2,J (best s.e s.tk s.q k).1),(3,J (best s.e s.tk s.q k).2)]/\Hm=[]/\k<=s.rs.length) (s.rs.length) ?_ ?_
 ·exact⟨[(19,_),(2,_),(3,_)],Kc,0,rfl,rfl,rfl,K1⟩
 rintro _ _ _ ⟨k,rfl,rfl,rfl,hk⟩;refine Zc ?_ ?_
 ·refine Z4u ?_;intro hc;have hstk:=hok.st (k:=k) K1;have hodk:=hok.odr (k:=k) K1;have hbl:=hok.bk.l;refine Zs ?_ ?_;all_goals first|(refine Zt ?_ ?_<;>try exact⟨⟩)|((iterate 8 (refine Z4x ?_;intros)))|skip
  all_goals
   refine Zd ?_ ?_
   ·try exact⟨⟩
    all_goals
     refine Z4t ?_;intros;refine⟨_,[(19,_),(2,_),(3,_)],[0,0,0,0],_,?_,Kc,rfl,k+1,rfl,by rw[HB (R8 K2 K2 K2)]<;>rfl,rfl,K1⟩
     omega
   try exact⟨⟩
   all_goals
    refine Z4t ?_;intros;refine OW.call Mx rfl rfl rfl rfl rfl rfl _ (fun w hw=>sU B s s.e k w (hw.Co (i:=0) (j:=1) (k:=2) rfl rfl rfl hg hm) hok.em hok.bk K1 hok.len) ?_;rintro _ _ ⟨rfl,rfl⟩;refine Z4t ?_;refine OW.call Mx rfl rfl rfl rfl rfl rfl _ (fun w hw=>Uk B s _ w (hw.Co (i:=0) (j:=1) (k:=2) rfl rfl rfl hg hm) K1) ?_;rintro _ _ ⟨rfl,rfl⟩;refine Zs ?_ ?_;all_goals first|(iterate 3 refine Z4x ?_;intros)|intros
    all_goals first|(refine OW.off rfl rfl rfl ?_)|(refine OW.call Mx rfl rfl rfl rfl rfl rfl _ (fun w hw=>CE B s k _ w (hw.Co (i:=0) (j:=1) (k:=2) rfl rfl rfl hg hm) hok.f htk K1) ?_;rintro _ _ ⟨rfl,rfl⟩)|skip
    all_goals
     refine Zd ?_ ?_
     ·try exact⟨⟩
      all_goals
       refine Z4t ?_;intros;refine⟨_,[(19,_),(2,_),(3,_)],[0,0,0,0],_,?_,Kc,rfl,k+1,rfl,by rw[HB (by first|exact U2 (by assumption)|exact SY (by assumption))]<;>rfl,rfl,K1⟩
       omega
     try exact⟨⟩
     all_goals
      refine Z4u ?_;intros;have hcd:lP s.e s.tk s.q k=true:=LZ (show(Cr.at_ s.rs k).st=7\/(Cr.at_ s.rs k).st=1\/(Cr.at_ s.rs k).st=4 by omega) K2 K2
      refine Z3 (k:=Z4A ?_);refine OW.pure rfl rfl rfl (PV.jh Hd.fx (iH (i:=1) rfl) rfl rfl K1) ?_;refine Z3s (k:=Z3s (k:=?_));refine OW.pure rfl rfl rfl (PV.G6 (iH (i:=1) rfl) Nx rfl rfl K1 rfl) ?_;refine Z1l (k:=Zf (k:=Zi (k:=Z4B ?_)));refine CW.cut [0,2,3,4,18,19] 0 rfl rfl (fun mods Hm=>mods=[(8,J (pK s.q k))]/\Hm=[]/\True) ?_ ?_
      ·refine Zd ?_ ?_
       ·try exact⟨⟩
        all_goals
         refine Z4t ?_;intros;first|(refine⟨[(8,_)],[0,0,0,0],_,?_,rfl,by unfold pK;rw[aa K2],rfl,trivial⟩;exact Kc)|(refine⟨[(8,_)],[0,0,0,0],_,?_,rfl,by unfold pK;rw[ae K2],rfl,trivial⟩;exact Kc)
       try exact⟨⟩
       all_goals
        refine Z4t ?_;intros;first|(refine⟨[(8,_)],[0,0,0,0],_,?_,rfl,by unfold pK;rw[aa K2],rfl,trivial⟩;exact Kc)|(refine⟨[(8,_)],[0,0,0,0],_,?_,rfl,by unfold pK;rw[ae K2],rfl,trivial⟩;exact Kc)
      rintro _ _ ⟨rfl,rfl,_⟩;refine Zs ?_ ?_
      all_goals
       refine Zd ?_ ?_
       ·try exact⟨⟩
        all_goals
         refine Z4t ?_;intros;refine⟨_,[(19,_),(2,_),(3,_)],[0,0,0,0],_,?_,Kc,rfl,k+1,rfl,by rw[TC hcd K1]<;>rfl,rfl,K1⟩
         omega
       try exact⟨⟩
       all_goals
        refine Z4t ?_;intros;refine⟨_,[(19,_),(2,_),(3,_)],[0,0,0,0],_,?_,Kc,rfl,k+1,rfl,by rw[U0 hcd K1]<;>rfl,rfl,K1⟩
        omega
 refine Z4u ?_;intro hc;obtain rfl:k=s.rs.length:=K1;have hbt:=SK (e:=s.e) (t:=s.tk) (w:=s.q) s.rs.length;refine Zs ?_ ?_;all_goals first|(iterate 6 refine Z4x ?_;intros)|intros
 all_goals first|(refine OW.off rfl rfl rfl ?_)|(refine OW.call Mx rfl rfl rfl rfl rfl rfl _ (fun w hw=>lD s.A (fZ s.rs) (best s.e s.tk s.q s.rs.length).1.toNat w (hw.bh (i:=1) rfl) K1) ?_;rintro _ _ ⟨rfl,rfl⟩)|skip
 all_goals first|(refine OW.put 102 (.bool (held (Cr.at_ s.rs (best s.e s.tk s.q s.rs.length).1.toNat))) rfl K62 ?_)|skip
 all_goals
  refine Zn (k:=?_);intros;refine Z3r (k:=?_);refine Zd ?_ ?_
  ·try exact⟨⟩
   all_goals
    refine Z4u ?_;intros;refine Z24 (k:=?_);have hbst:=hok.st (k:=(best s.e s.tk s.q s.rs.length).1.toNat) K1;refine Z4y ?_;refine CW.curr (rs:=s.rs) 1 (best s.e s.tk s.q s.rs.length).1.toNat (Cr.at_ s.rs (best s.e s.tk s.q s.rs.length).1.toNat) rfl K1 rfl ?_;refine Zr (k:=ZG (k:=?_));refine OW.put 118 (U ((Cr.at_ s.rs (best s.e s.tk s.q s.rs.length).1.toNat).st+1)) rfl (aq (Value.int .u8) (by rw[IntKind.wrap_u8];omega)) ?_
    refine Z4L ?_;refine OW.fk {s with rs:=s.rs.set (best s.e s.tk s.q s.rs.length).1.toNat ⟨(Cr.at_ s.rs (best s.e s.tk s.q s.rs.length).1.toNat).pl,(Cr.at_ s.rs (best s.e s.tk s.q s.rs.length).1.toNat).st+1,(Cr.at_ s.rs (best s.e s.tk s.q s.rs.length).1.toNat).od,(Cr.at_ s.rs (best s.e s.tk s.q s.rs.length).1.toNat).lf,(Cr.at_ s.rs (best s.e s.tk s.q s.rs.length).1.toNat).sl,(Cr.at_ s.rs (best s.e s.tk s.q s.rs.length).1.toNat).du⟩,mv:=(best s.e s.tk s.q s.rs.length).1} 1 0 0 0 rfl rfl rfl rfl K31 K32 (aq (fl Hd.cs) lF) ?_
    refine Zl ?_;first|(obtain⟨h1,h2⟩:=xB (e:=s.e) (t:=s.tk) (w:=s.q) (show s.mv<0 by omega) K2 K2;rw[h1,h2];first|done|rfl)|(rw[vp (e:=s.e) (t:=s.tk) (w:=s.q) (show s.mv<0 by omega) K2];first|done|rfl)|(rw[uJ (e:=s.e) (t:=s.tk) (w:=s.q) (show s.mv<0 by omega) K2];first|done|rfl)
  try exact⟨⟩
  all_goals
   refine Zl ?_;intros;first|(obtain⟨h1,h2⟩:=xB (e:=s.e) (t:=s.tk) (w:=s.q) (show s.mv<0 by omega) K2 K2;rw[h1,h2];first|done|rfl)|(rw[vp (e:=s.e) (t:=s.tk) (w:=s.q) (show s.mv<0 by omega) K2];first|done|rfl)|(rw[uJ (e:=s.e) (t:=s.tk) (w:=s.q) (show s.mv<0 by omega) K2];first|done|rfl)
def Ua(B:Nat)(s:Sh)(S:Nat->Prop)(w0:World)(hS:(HP.sh B s).bA S w0)(hb:∀k,S k->k<w0.heap.size)(hg:s.g.rd w0 (Fm w0 S))(hm:s.m.rd w0 (Fm w0 S))(hok:s.ok):
  CF 203 #[Y B 0] w0 S fun v Hn=>Hn=[HP.sh B {s with rs:=(steps s.e s.tk s.q).rs,mv:=(steps s.e s.tk s.q).mv}]:=by
 have hle:=hok.le;have hlen:=hok.len;have htk:=hok.WD;have hhl:=da s.rs;have hmv: -1<=s.mv/\s.mv<s.rs.length:=hok.v.mv;refine Zp (HA.au hS hb) ?_;refine Zx (k:=Z24 (k:=Z0 (k:=?_)));refine Zs ?_ ?_;all_goals first|(iterate 9 refine Z4x ?_;intros)|intros
 all_goals first|(refine OW.off rfl rfl rfl ?_)|(refine QW.call Mx rfl rfl rfl rfl rfl rfl _ (fun w hw=>bK.val (lD s.A (fZ s.rs) s.mv.toNat w (hw.bh (i:=1) rfl) K1)) ?_)|skip
 all_goals first|(refine QW.put 22 (.bool (held (Cr.at_ s.rs s.mv.toNat))) rfl K62 ?_)|skip
 all_goals
  refine Zn (k:=?_);intros;refine Z3r (k:=?_);refine Zd ?_ ?_
  ·try exact⟨⟩
   all_goals
    refine Zl ?_;intros;first|(rw[I3 (e:=s.e) (t:=s.tk) (w:=s.q) K2];rfl)|(rw[Jn (e:=s.e) (t:=s.tk) (w:=s.q) K2];rfl)
  try exact⟨⟩
  all_goals
   refine Z4u ?_;intros;refine Z24 (k:=?_);have hm0:0<=s.mv:=K1;have hhn:held (Cr.at_ s.rs s.mv.toNat)=false:=by assumption
   have hmn:(s.mv.toNat:Int)=s.mv:=K1;have hst8:=(hok.v.rt s.mv.toNat (show s.mv.toNat<s.rs.length by omega)).lg.2 hmn
   have hst9:(Cr.at_ s.rs s.mv.toNat).st=2\/(Cr.at_ s.rs s.mv.toNat).st=5\/(Cr.at_ s.rs s.mv.toNat).st=8:=hst8;refine Z0 (k:=Z4t ?_);refine OW.call Mx rfl rfl rfl rfl rfl rfl _ (fun w hw=>sU B s s.e s.mv.toNat w (hw.Co (i:=0) (j:=1) (k:=2) rfl rfl rfl hg hm) hok.em hok.bk K1 hok.len) ?_;rintro _ _ ⟨rfl,rfl⟩;refine Z4L ?_;refine OW.WK 1 s.mv.toNat rfl K1 ?_;refine Zi (k:=Z4B ?_);refine CW.cut [0,2,3] 1 rfl rfl (fun mods Hm=>∃p:Int,mods=[]/\Hm=[HP.row 345 7 s.A s.rs.length s.c (fl Hd.cs ((fZ s.rs).set s.mv.toNat ⟨p,(Cr.at_ s.rs s.mv.toNat).st,(Cr.at_ s.rs s.mv.toNat).od,(Cr.at_ s.rs s.mv.toNat).lf,(Cr.at_ s.rs s.mv.toNat).sl,(Cr.at_ s.rs s.mv.toNat).du,(s.mv.toNat:Int)⟩))]/\(Cr.dQ s.e s.tk s.b.q s.mv.toNat (Cr.at_ s.rs s.mv.toNat))=⟨p,(Cr.at_ s.rs s.mv.toNat).st,(Cr.at_ s.rs s.mv.toNat).od,(Cr.at_ s.rs s.mv.toNat).lf,(Cr.at_ s.rs s.mv.toNat).sl,(Cr.at_ s.rs s.mv.toNat).du⟩) ?_ ?_
   ·refine Zx (k:=Z0 (k:=Z4t ?_));refine QW.call Mx rfl rfl rfl rfl rfl rfl _ (fun w hw=>bK.val (acV s.g s.t _ _ s.tk w (hw.lN hg) hok.f htk)) ?_;refine Zc ?_ ?_
    ·refine Z4t ?_;intros;first|(refine⟨[],[0,0,0,0],_,?_,rfl,(gA s.g.q s.t (Cr.at_ s.rs s.mv.toNat).pl (Cr.goal s.e s.b.q s.mv.toNat (Cr.at_ s.rs s.mv.toNat)).1 s.tk).1,rfl,rfl,aa (show(gA s.g.q s.t (Cr.at_ s.rs s.mv.toNat).pl (Cr.goal s.e s.b.q s.mv.toNat (Cr.at_ s.rs s.mv.toNat)).1 s.tk).2=0 by assumption)⟩;exact Kc)|(refine⟨[],[0,0,0,0],_,?_,rfl,(Cr.at_ s.rs s.mv.toNat).pl,rfl,rfl,ae (show¬(gA s.g.q s.t (Cr.at_ s.rs s.mv.toNat).pl (Cr.goal s.e s.b.q s.mv.toNat (Cr.at_ s.rs s.mv.toNat)).1 s.tk).2=0 by assumption)⟩;exact Kc)
    refine Z4t ?_;intros;first|(refine⟨[],[0,0,0,0],_,?_,rfl,(gA s.g.q s.t (Cr.at_ s.rs s.mv.toNat).pl (Cr.goal s.e s.b.q s.mv.toNat (Cr.at_ s.rs s.mv.toNat)).1 s.tk).1,rfl,rfl,aa (show(gA s.g.q s.t (Cr.at_ s.rs s.mv.toNat).pl (Cr.goal s.e s.b.q s.mv.toNat (Cr.at_ s.rs s.mv.toNat)).1 s.tk).2=0 by assumption)⟩;exact Kc)|(refine⟨[],[0,0,0,0],_,?_,rfl,(Cr.at_ s.rs s.mv.toNat).pl,rfl,rfl,ae (show¬(gA s.g.q s.t (Cr.at_ s.rs s.mv.toNat).pl (Cr.goal s.e s.b.q s.mv.toNat (Cr.at_ s.rs s.mv.toNat)).1 s.tk).2=0 by assumption)⟩;exact Kc)
   rintro _ _ ⟨p,rfl,rfl,hI⟩;refine Zn (k:=?_);refine CW.fk {s with rs:=s.rs.set s.mv.toNat ⟨p,(Cr.at_ s.rs s.mv.toNat).st,(Cr.at_ s.rs s.mv.toNat).od,(Cr.at_ s.rs s.mv.toNat).lf,(Cr.at_ s.rs s.mv.toNat).sl,(Cr.at_ s.rs s.mv.toNat).du⟩} 1 0 0 0 rfl rfl rfl rfl K31 K32 (aq (fl Hd.cs) lF) ?_
   refine Zc ?_ ?_
   ·refine Zl ?_;intros;obtain⟨h1,h2⟩:=Nr (e:=s.e) (t:=s.tk) (w:=s.q) (p:=p) (show¬s.mv<0 by omega) hhn hI K2
    rw[h1,h2];rfl
   refine Z4u ?_;intro hc;refine Z24 (k:=?_);have hpg:p=(Cr.goal s.e s.b.q s.mv.toNat (Cr.at_ s.rs s.mv.toNat)).1:=by assumption
   refine CW.curr (rs:=s.rs.set s.mv.toNat ⟨p,(Cr.at_ s.rs s.mv.toNat).st,(Cr.at_ s.rs s.mv.toNat).od,(Cr.at_ s.rs s.mv.toNat).lf,(Cr.at_ s.rs s.mv.toNat).sl,(Cr.at_ s.rs s.mv.toNat).du⟩) 1 s.mv.toNat ⟨p,(Cr.at_ s.rs s.mv.toNat).st,(Cr.at_ s.rs s.mv.toNat).od,(Cr.at_ s.rs s.mv.toNat).lf,(Cr.at_ s.rs s.mv.toNat).sl,(Cr.at_ s.rs s.mv.toNat).du⟩ rfl (by rw[aM];omega) (by rw[gl K1,aa rfl]) ?_
   refine CW.bO 0 (HP.row 345 7 s.A s.rs.length s.c (fl Hd.cs ((fZ s.rs).set s.mv.toNat ⟨p,(Cr.at_ s.rs s.mv.toNat).st,(Cr.at_ s.rs s.mv.toNat).od,(Cr.at_ s.rs s.mv.toNat).lf,(Cr.at_ s.rs s.mv.toNat).sl,(Cr.at_ s.rs s.mv.toNat).du,(s.mv.toNat:Int)⟩))) rfl (by rw[<-lF,List.set_set,aM]) ?_
   refine Zc ?_ ?_
   ·refine Z4J ?_;intros;refine OW.fk {s with rs:=s.rs.set s.mv.toNat ⟨p,3,(Cr.at_ s.rs s.mv.toNat).od,s.m.q.n1,(Cr.at_ s.rs s.mv.toNat).sl,(Cr.at_ s.rs s.mv.toNat).du⟩,mv:= -1} 1 0 0 0 rfl rfl rfl rfl K31 K32 (aq (fl Hd.cs) lF) ?_
    refine Zl ?_;have h0:=uK (e:=s.e) (t:=s.tk) (w:=s.q) (p:=p) (show¬s.mv<0 by omega) hhn hI hpg
    have h2:=h0.2;have h1:(steps s.e s.tk s.q).rs=s.rs.set s.mv.toNat (dY s.e ⟨p,(Cr.at_ s.rs s.mv.toNat).st,(Cr.at_ s.rs s.mv.toNat).od,(Cr.at_ s.rs s.mv.toNat).lf,(Cr.at_ s.rs s.mv.toNat).sl,(Cr.at_ s.rs s.mv.toNat).du⟩):=h0.1;first|rw[Xx K2,hok.em] at h1|rw[YA K2,hok.em] at h1|rw[YJ K2] at h1
    rw[h1,h2]
   refine Zc ?_ ?_
   ·refine Z4J ?_;intros;refine OW.fk {s with rs:=s.rs.set s.mv.toNat ⟨p,6,(Cr.at_ s.rs s.mv.toNat).od,s.m.q.n2,(Cr.at_ s.rs s.mv.toNat).sl,(Cr.at_ s.rs s.mv.toNat).du⟩,mv:= -1} 1 0 0 0 rfl rfl rfl rfl K31 K32 (aq (fl Hd.cs) lF) ?_
    refine Zl ?_;have h0:=uK (e:=s.e) (t:=s.tk) (w:=s.q) (p:=p) (show¬s.mv<0 by omega) hhn hI hpg
    have h2:=h0.2;have h1:(steps s.e s.tk s.q).rs=s.rs.set s.mv.toNat (dY s.e ⟨p,(Cr.at_ s.rs s.mv.toNat).st,(Cr.at_ s.rs s.mv.toNat).od,(Cr.at_ s.rs s.mv.toNat).lf,(Cr.at_ s.rs s.mv.toNat).sl,(Cr.at_ s.rs s.mv.toNat).du⟩):=h0.1;first|rw[Xx K2,hok.em] at h1|rw[YA K2,hok.em] at h1|rw[YJ K2] at h1
    rw[h1,h2]
   refine Zx (k:=Zy (k:=Z4J ?_));intros;refine OW.fk {s with rs:=s.rs.set s.mv.toNat ⟨p,0,(Cr.at_ s.rs s.mv.toNat).od,(Cr.at_ s.rs s.mv.toNat).lf,(Cr.at_ s.rs s.mv.toNat).sl,(Cr.at_ s.rs s.mv.toNat).du⟩,mv:= -1} 1 0 0 0 rfl rfl rfl rfl K31 K32 (aq (fl Hd.cs) lF) ?_
   refine Zl ?_;have h0:=uK (e:=s.e) (t:=s.tk) (w:=s.q) (p:=p) (show¬s.mv<0 by omega) hhn hI hpg
   have h2:=h0.2;have h1:(steps s.e s.tk s.q).rs=s.rs.set s.mv.toNat (dY s.e ⟨p,(Cr.at_ s.rs s.mv.toNat).st,(Cr.at_ s.rs s.mv.toNat).od,(Cr.at_ s.rs s.mv.toNat).lf,(Cr.at_ s.rs s.mv.toNat).sl,(Cr.at_ s.rs s.mv.toNat).du⟩):=h0.1;first|rw[Xx K2,hok.em] at h1|rw[YA K2,hok.em] at h1|rw[YJ K2] at h1
   rw[h1,h2]
def Ie(g:aP)(t tick:Int)(w0:World)(hc:Cf.check g.q=0)(hg:g.rd w0 (Old w0))(hgf:g.q.fit):
  CO 115 #[g.v,J t,V tick] w0 fun v Hn=>v=J (if ag g.q.ts t=true/\tick<=last then 0 else 2)/\Hn=[]:=by
 refine Zq ?_;refine Zg @o0 ?_;refine Zg @Gn ?_;refine Z4t ?_;intro _ hc;have hA:=Pf (t:=t) hc;have hB:=Ns (t:=t) hc;refine Zs ?_ ?_;all_goals first|(refine Zt ?_ ?_<;>try exact⟨⟩)|((iterate 4 (refine Z4x ?_;intros)))|skip
 all_goals
  refine Zd ?_ ?_
  ·try exact⟨⟩
   all_goals
    refine Zk ?_;intros;refine⟨aq (Value.int .i64) (Eq.symm (ae (fun h=>?_))),rfl⟩;have h1:=hA h.1;have h2:tick<=4611686018427387904:=h.2;have h3:(dt g.q t).1=true:=by rw[h1]
    have h4:(dt g.q t).2=0:=by rw[h1]
    first|omega|(simp_all;done)
  try exact⟨⟩
  all_goals
   refine Zk ?_;intros;exact⟨aq (Value.int .i64) (Eq.symm (aa ⟨hB K2 K2,show tick<=4611686018427387904 by omega⟩)),rfl⟩
def PL(g:aP)(t:Int)(y:Cw)(tick:Int)(w0:World)(hg:g.rd w0 (Old w0))(hgf:g.q.fit)(ht:0<=t/\t<(g.ts.length:Int))(hw0:E.dc w0 (Old w0) y.mem)(hrl:y.rs.length<=3)(hol:y.b.q.os.length<=64)(hql:y.b.q.q.length<=64):
  CO 222 #[g.v,J t,y.v,V tick] w0 fun v Hn=>∃B A c,∃b2:Bk,v=Y B 0/\Hn=[HP.sh B (Sh.mk g t (g.ts.getD t.toNat Tm.z) tick y.rs A c b2 y.mv [] .none 0)]/\b2.q=y.b.q:=by
 obtain⟨hX1,hX2,hX3,hX4⟩:=id hg;have hgl:=aP.cj hgf;have hwr:=hw0.at 0 rfl;have hwo:=hw0.at 1 rfl;have hwq:=hw0.at 2 rfl;refine Zq ?_;refine Zx (k:=Z4y ?_);intros;refine Z23 (k:=?_);iterate 10 refine Z4v ?_
 refine E.AW.first 10 rfl K0 K0 K0 rfl rfl rfl (PV.build (ps:=[(0,.tmp 12),(1,.tmp 13),(2,.tmp 18),(3,.tmp 19),(6,.tmp 21)]) rfl rfl (fun w=>(rT).h w)) ?_;refine Z4u ?_;intro BS;refine CW.bM 345 7 ?_;refine Zr (k:=Z1g (k:=?_));refine CW.av [6,9,25,26] 2 rfl rfl (fun mm mods Hm=>∃k:Nat,∃A:am,∃c:Nat,mm=y.rs.length-k/\mods=[(27,J k)]/\Hm=[HP.aw BS 342 (Sh.mk g t (g.ts.getD t.toNat Tm.z) tick (y.rs.take k) A c (Bk.mk Od.B.z .none 0 .none 0) y.mv [] .none 0).cells,HP.row 345 7 A (y.rs.take k).length c (fl Hd.cs (fZ (y.rs.take k)))]/\k<=y.rs.length) (y.rs.length) ?_ ?_
 ·exact⟨[(27,_)],Kc,0,.none,0,rfl,rfl,rfl,K1⟩
 rintro _ _ _ ⟨k,A,c,rfl,rfl,rfl,hk⟩;have htl:=Cr.take_len (rs:=y.rs) (k:=k) hk;refine Zc ?_ ?_
 ·refine Zx (k:=Z4y ?_);intros;have hk1:fZ (y.rs.take (k+1))=fZ (y.rs.take k)++[Cr.hd (k:Int) (Cr.at_ y.rs k)]:=by rw[gu K1,Ol,htl]
  have hhk:=da (y.rs.take k);refine CW.bO 2 (HP.row 345 7 A (fZ (y.rs.take k)).length c (fl Hd.cs (fZ (y.rs.take k)))) rfl (by rw[hhk]) ?_
  refine CW.gx (T:=[12]) mixed [2,1] rfl ?_;iterate 5 refine Z4v ?_
  refine E.AW.put 36 (.slice A (fZ (y.rs.take k)).length c) rfl (by rw[hhk]) ?_
  iterate 2 refine Z4v ?_
  refine E.AW.fT 7 rfl K0 K0 K0 rfl rfl rfl (PV.build (ps:=[(0,.tmp 37),(1,.tmp 38)]) rfl rfl (fun w=>(EX).h w)) ?_;refine Z4D ?_;refine OW.buildSlice (Et:=345) (sz:=7) (cs:=fl Hd.cs [Cr.hd (k:Int) (Cr.at_ y.rs k)]) (ps:=[(0,.tmp 39)]) rfl rfl rfl rfl rfl rfl K4 (fun w=>Fc w) (fun A5=>?_);refine Zj (k:=Z1d (k:=?_));refine OW.dJ (j:=0) (i:=0) Hd.fx Ux Jx rfl rfl rfl rfl rfl rfl rfl rfl rfl rfl K3 K3 (fun A6 c6=>?_);refine Z4w ?_;iterate 2 refine Z4v ?_
  refine E.AW.jK 12 K0 rfl K0 ?_;refine Z4t ?_;refine⟨_,[(27,_)],[0,0,1,1],[_,_],?_,Kc,rfl,k+1,A6,c6,rfl,rfl,by rw[<-hk1,da]<;>rfl,K1⟩
  omega
 refine Z4u ?_;intros;obtain rfl:k=y.rs.length:=K1;refine Z19 (k:=?_);iterate 10 refine Z4v ?_
 refine ZR (k:=?_);refine Zg @EL ?_;refine Z4w ?_;intro AO cO;refine Z4D ?_;refine Zg @bc ?_;refine Z4w ?_;intro AQ cQ;refine E.AW.first 12 rfl K0 K0 K0 rfl rfl rfl (PV.build (ps:=[(0,.tmp 49),(1,.tmp 53),(2,.tmp 56)]) rfl rfl (fun w=>(qj).h w)) ?_;refine Z4u ?_;refine CW.gT [1,1,0,0,0,0] 2 rfl rfl [(AO,fl Od.O.cs y.b.q.os),(AQ,ints y.b.q.q)] K7 ?_;refine ZC (k:=?_);refine CW.fk (Sh.mk g t (g.ts.getD t.toNat Tm.z) tick y.rs A c (Bk.mk y.b.q AO cO AQ cQ) y.mv [] .none 0) 2 2 1 0 rfl rfl rfl rfl (by rw[bJ]) (by simp only[bJ];rfl) (by rw[bJ]) ?_
 refine Zl ?_;exact⟨BS,A,c,⟨y.b.q,AO,cO,AQ,cQ⟩,rfl,rfl,rfl⟩
def ve(B:Nat)(s:Sh)(w0:World)(hs:s.rd w0 (Old w0) B)(hle:s.rs.length<=3):
  CO 190 #[Y B 0] w0 fun v Hn=>∃A c,v=(Cw.mk s.rs A c s.b s.mv).v/\Hn=[HP.row 246 6 A s.rs.length c (fl Cr.R.cs s.rs)]:=by
 have hs2:=hs;obtain⟨hkc,hh,ho,hq,hg,hm⟩:=hs2;have hhl:=da s.rs;refine Zq ?_;refine Zx (k:=Z4y ?_);intros;refine ZY (k:=?_);iterate 8 refine Z4v ?_
 refine E.AW.first 8 rfl K0 K0 K0 rfl rfl rfl (PV.build (ps:=[(1,.tmp 8),(2,.tmp 12)]) rfl rfl (fun w=>(DY).h w)) ?_;refine Z4u ?_;intro BW;refine CW.bM 246 6 ?_;refine Z4t ?_;refine CW.sels [1,0,0] rfl ?_;refine CW.av [0,2,3,18] 2 rfl rfl (fun mm mods Hm=>∃k:Nat,∃A:am,∃c:Nat,mm=s.rs.length-k/\mods=[(19,J k)]/\Hm=[HP.aw BW 198 (Cw.mk (s.rs.take k) A c s.b s.mv).cells,HP.row 246 6 A (s.rs.take k).length c (fl Cr.R.cs (s.rs.take k))]/\k<=s.rs.length) (s.rs.length) ?_ ?_
 ·exact⟨[(19,_)],Kc,0,.none,0,rfl,rfl,rfl,K1⟩
 rintro _ _ _ ⟨k,A,c,rfl,rfl,rfl,hk⟩;have htl:=Cr.take_len (rs:=s.rs) (k:=k) hk;refine Zc ?_ ?_
 ·refine Zx (k:=Z4y ?_);intros;refine CW.gx (T:=[13]) mixed [0] rfl ?_;iterate 9 refine Z4v ?_
  refine E.AW.fT 9 rfl K0 K0 K0 rfl rfl rfl (PV.QG (j:=0) (oh hh) Ix rfl rfl K1 rfl K6) ?_;refine Z4H ?_;refine OW.buildSlice (Et:=246) (sz:=6) (cs:=fl Cr.R.cs [Cr.at_ s.rs k]) (ps:=[(0,.tmp 31)]) rfl rfl rfl rfl rfl rfl K4 (fun w=>vr w) (fun A3=>?_);refine Zj (k:=ZU (k:=?_));refine OW.dJ (j:=0) (i:=1) Cr.R.fx Ux Jx rfl rfl rfl rfl rfl rfl rfl rfl rfl rfl K3 K3 (fun A4 c4=>?_);refine Zj (k:=Z4v ?_);refine E.AW.jK 13 K0 rfl K0 ?_;refine Z4t ?_;refine⟨_,[(19,_)],[0,0,0],[_,_],?_,Kc,rfl,k+1,A4,c4,rfl,rfl,by rw[gu K1]<;>rfl,K1⟩
  omega
 refine Z4u ?_;intros;obtain rfl:k=s.rs.length:=K1;refine Z4t ?_;refine KR.we [2] rfl (rv.cell Ix rfl (dU 0 rfl) rfl) rfl ?_;exact⟨A,c,by rw[bJ]<;>rfl,by rw[bJ]⟩
def Ni(g:aP)(t:Int)(y:Cw)(tick:Int)(w0:World)(hg:g.rd w0 (Old w0))(hgf:g.q.fit)(hT:fB g.q t)(htk:0<=tick/\tick<=last)(hmem:E.dc w0 (Old w0) y.mem)(hV:Cr.V (Cr.ev g.q t) tick y.q):
  CO 188 #[g.v,J t,y.v,V tick] w0 fun v Hn=>∃B A c,∃b2:Bk,v=.tuple #[Y B 0,J 0]/\Hn=[HP.sh B (Sh.mk g t (eY g t) tick y.rs A c b2 y.mv [] .none 0)]/\b2.q=y.b.q:=by
 obtain⟨hrl,hol,hql⟩:=Cw.small hT hV;have htl:=gU hT;have htm:=hg.tm hT;refine Zq ?_;refine Z4t ?_;intros;refine OW.call Mx rfl rfl rfl rfl rfl rfl _ (fun w hw=>Ie g t tick w hT.c (hw.lN hg) hgf) ?_;rintro _ _ ⟨rfl,rfl⟩;refine Z4L ?_;refine OW.put 10 (J 0) rfl (aq (Value.int .i64) (aa ⟨hT.p,htk.2⟩)) ?_;refine Zg @PL ?_;refine Z4t ?_;intro BD AD cD bD hbD;refine OW.call Mx rfl rfl rfl rfl rfl rfl _ (fun w hw=>Jg BD (Sh.mk g t (eY g t) tick y.rs AD cD bD y.mv [] .none 0) w (hw.aa2 (i:=0) rfl hg htm) (Sh.GJ hT hgf htk hV hbD)) ?_;rintro _ _ ⟨rfl,rfl⟩;refine Zl ?_;exact⟨BD,AD,cD,bD,rfl,rfl,hbD⟩
def IJ(g:aP)(t:Int)(y:Cw)(tick:Int)(w0:World)(hg:g.rd w0 (Old w0))(hgf:g.q.fit)(hT:fB g.q t)(htk:0<=tick/\tick<=last)(hmem:E.dc w0 (Old w0) y.mem)(hV:Cr.V (Cr.ev g.q t) tick y.q):
  CV 150 #[g.v,J t,y.v,V tick] w0 (J 0):=by
 refine Zq ?_;refine Zg @Ni ?_;refine Zk ?_;intros;exact⟨rfl,rfl⟩
def mL(w0:World):
  CO 157 #[] w0 fun v Hn=>∃A,v=.slice A 6 6/\Hn=[HP.row 358 1 A 6 6 (fl Ju [199,200,201,202,203,204])]:=by
 refine Zq ?_;refine Z4t ?_;refine OW.bsl 1 (fl Ju ([199,200,201,202,203,204])) rfl rfl (fun w=>mN w) (fun A1=>?_);refine OW.chunk 0 (HP.row 358 1 A1 (List.length ([199,200,201,202,203,204])) 6 (fl Ju ([199,200,201,202,203,204]))) rfl rfl ?_;refine OW.put 7 (.slice A1 (List.length ([199,200,201,202,203,204])) 6) rfl rfl ?_;refine Zl ?_;exact⟨_,rfl,rfl⟩
def D6(g:aP)(t:Int)(y:Cw)(tick:Int)(nx:Bool)(PA:am)(pc:Nat)(ps:List Nat)(St:Nat->Sh->Prop)(w0:World)(hg:g.rd w0 (Old w0))(hgf:g.q.fit)(hT:fB g.q t)(htk:0<=tick/\tick<=last)(hmem:E.dc w0 (Old w0) y.mem)(hV:Cr.V (Cr.ev g.q t) tick y.q)(hnx:nx=true->tick<4611686018427387904)(hX:ce w0 PA (fl Ju ps))(hl6:ps.length<=6)(h0:∀A c b2,b2.q=y.b.q->St 0 (Sh.mk g t (eY g t) tick y.rs A c b2 y.mv [] .none 0))(hSg:∀i s,St i s->s.g=g/\s.m=eY g t/\s.rs.length<=3)(hst:∀i,i<ps.length->E.Nm prog (ps.getD i 0)/\∀s,St i s->∀w1 B S,(HP.sh B s).bA S w1->(∀k,S k->k<w1.heap.size)->s.g.rd w1 (Fm w1 S)->s.m.rd w1 (Fm w1 S)->Calls prog (ps.getD i 0) #[Y B 0] w1 (bK w1 (Fm w1 S) fun v Hn=>∃s2,Hn=[HP.sh B s2]/\St (i+1) s2)):
  CO 156 #[g.v,J t,y.v,V tick,.bool nx,.slice PA ps.length pc] w0 fun v Hn=>∃s2:Sh,∃A9 c9,St ps.length s2/\v=.tuple #[(Cw.mk s2.rs A9 c9 s2.b s2.mv).v,.slice s2.A2 s2.dn.length s2.c2,J 0]/\Hn=[HP.row 246 6 A9 s2.rs.length c9 (fl Cr.R.cs s2.rs),HP.ro [(s2.b.A1,fl Od.O.cs s2.b.q.os),(s2.b.A2,ints s2.b.q.q)],HP.row 3 1 s2.A2 s2.dn.length s2.c2 (ints s2.dn)]:=by
 obtain⟨hrl,hol,hql⟩:=Cw.small hT hV;have htl:=gU hT;have htm:=hg.tm hT;refine Zq ?_;refine Zg @Ni ?_;refine Zs ?_ ?_;all_goals intro _ _ _ BD AD cD bD hbD hc
 all_goals first|(iterate 2 refine Z4x ?_;intros)|intros
 all_goals first|(refine OW.put 34 (.bool false) rfl (aq Value.bool (aV (fun h=>by have:=hnx K2;omega))) ?_)|skip
 all_goals
  refine Z4t ?_;intros;refine CW.av [12,15,37,38] 1 rfl rfl (fun mm mods Hm=>∃i:Nat,∃s1:Sh,mm=ps.length-i/\mods=[(39,J i)]/\Hm=[HP.sh BD s1]/\i<=ps.length/\St i s1) (ps.length) ?_ ?_
  ·exact⟨[(39,_)],Kc,0,_,rfl,rfl,rfl,K1,h0 AD cD bD hbD⟩
  rintro _ _ _ ⟨i,s1,rfl,rfl,rfl,hk,hI⟩;refine Zc ?_ ?_
  ·obtain⟨hsg,hsm,hsl⟩:=hSg _ _ hI;refine Z4u ?_;intro hc;obtain⟨hnm,hq9⟩:=hst i K1;refine Z4t ?_;refine OW.pure rfl rfl rfl (PV.nm (k:=i) 0 My (oh hX) Ix rfl (by rw[mF]<;>rfl) K1) ?_
   refine Z4t ?_;intros;refine OW.NL (aE:= #[]) hnm rfl rfl rfl rfl rfl rfl _ 1 rfl (fun w S hw hs hb hc=>hq9 s1 hI w BD S hs (fun k hk=>(hb k hk).1) (by rw[hsg];exact hw.sH hg hb) (by rw[hsm];exact hw.vD htm hb)) ?_;rintro _ _ ⟨s9,rfl,hs9⟩
   refine Z4t ?_;refine⟨_,[(39,_)],[0,1,1,1],[_],?_,Kc,rfl,i+1,s9,rfl,rfl,rfl,K1,hs9⟩;omega
  refine Z4u ?_;intros;obtain rfl:i=ps.length:=K1;obtain⟨hsg,hsm,hsl⟩:=hSg _ _ hI;refine Z24 (k:=Z4R ?_);iterate 5 refine Z4v ?_
  refine Z1O (k:=?_);refine OW.call Mx rfl rfl rfl rfl rfl rfl _ (fun w hw=>ve BD s1 w (hw.Co (i:=0) (j:=1) (k:=2) rfl rfl rfl (by rw[hsg];exact hg) (by rw[hsm];exact htm)) hsl) ?_;rintro _ _ ⟨AC,cC,rfl,rfl⟩
  refine Z4t ?_;refine KR.wa [1,3,3] rfl (rv.cell Ix rfl (dU 0 rfl) rfl) rfl rfl rfl ?_;exact⟨s1,AC,cC,hI,rfl,rfl⟩
def JH{g:aP}{t tick:Int}{w:Cr.W}{dn:bv}(hT:fB g.q t)(hf:g.q.fit)(htk:0<=tick/\tick<=last)(hv:Cr.V (Cr.ev g.q t) tick w){s:Sh}(hs:s.At g t tick w dn)(w1:World)(B:Nat)(S:Nat->Prop)(hS:(HP.sh B s).bA S w1)(hb:∀k,S k->k<w1.heap.size)(hg:s.g.rd w1 (Fm w1 S))(hm:s.m.rd w1 (Fm w1 S)):CF 199 #[Y B 0] w1 S fun v Hn=>∃s2:Sh,Hn=[HP.sh B s2]/\s2.At g t tick (jB (Cr.ev g.q t) w) (dn):=
 bK.imp (ir B s S w1 hS hb hg hm (hs.ok hT hf htk hv)) fun v Hn ⟨s2,e1,e2⟩=>by
  obtain⟨h1,h2,h3,h4,h5,h6⟩:=hs
  subst h1 h2 h4 h5 h6
  subst e2
  exact⟨_,e1,rfl,rfl,h3,rfl,rfl,rfl⟩
def Qo{g:aP}{t tick:Int}{w:Cr.W}{dn:bv}(hT:fB g.q t)(hf:g.q.fit)(htk:0<=tick/\tick<=last)(hv:Cr.V (Cr.ev g.q t) tick w){s:Sh}(hs:s.At g t tick w dn)(w1:World)(B:Nat)(S:Nat->Prop)(hS:(HP.sh B s).bA S w1)(hb:∀k,S k->k<w1.heap.size)(hg:s.g.rd w1 (Fm w1 S))(hm:s.m.rd w1 (Fm w1 S)):CF 200 #[Y B 0] w1 S fun v Hn=>∃s2:Sh,Hn=[HP.sh B s2]/\s2.At g t tick (calls (Cr.ev g.q t) w) (dn):=
 bK.imp (ml B s S w1 hS hb hg hm (hs.ok hT hf htk hv)) fun v Hn ⟨b2,e1,e2⟩=>by
  obtain⟨h1,h2,h3,h4,h5,h6⟩:=hs
  subst h1 h2 h4 h5 h6
  refine⟨_,e1,rfl,rfl,h3,rfl,?_,rfl⟩
  show(⟨(callsF s.m.q s.b.q s.rs).2,b2.q,s.mv⟩:Cr.W)=_
  rw[e2,h3,jz]
  rfl
def Jq{g:aP}{t tick:Int}{w:Cr.W}{dn:bv}(hT:fB g.q t)(hf:g.q.fit)(htk:0<=tick/\tick<=last)(hv:Cr.V (Cr.ev g.q t) tick w){s:Sh}(hs:s.At g t tick w dn)(w1:World)(B:Nat)(S:Nat->Prop)(hS:(HP.sh B s).bA S w1)(hb:∀k,S k->k<w1.heap.size)(hg:s.g.rd w1 (Fm w1 S))(hm:s.m.rd w1 (Fm w1 S)):CF 201 #[Y B 0] w1 S fun v Hn=>∃s2:Sh,Hn=[HP.sh B s2]/\s2.At g t tick (leaves (Cr.ev g.q t) tick w) (dn):=
 bK.imp (rj B s S w1 hS hb hg hm (hs.ok hT hf htk hv)) fun v Hn e1=>by
  obtain⟨h1,h2,h3,h4,h5,h6⟩:=hs
  subst h1 h2 h4 h5 h6
  refine⟨_,e1,rfl,rfl,h3,rfl,?_,rfl⟩
  show(⟨(leaves s.e s.tk s.q).rs,s.b.q,(leaves s.e s.tk s.q).mv⟩:Cr.W)=_
  have hb9:(leaves s.e s.tk s.q).b=s.b.q:=by
   unfold leaves;split
   ·rfl
   split<;>rfl
  rw[<-hb9]
def Pe{g:aP}{t tick:Int}{w:Cr.W}{dn:bv}(hT:fB g.q t)(hf:g.q.fit)(htk:0<=tick/\tick<=last)(hv:Cr.V (Cr.ev g.q t) tick w){s:Sh}(hs:s.At g t tick w dn)(w1:World)(B:Nat)(S:Nat->Prop)(hS:(HP.sh B s).bA S w1)(hb:∀k,S k->k<w1.heap.size)(hg:s.g.rd w1 (Fm w1 S))(hm:s.m.rd w1 (Fm w1 S))(hlt:tick<last)(hdn:dn.length<=1000):CF 202 #[Y B 0] w1 S fun v Hn=>∃s2:Sh,Hn=[HP.sh B s2]/\s2.At g t tick ((cx (Cr.ev g.q t) tick w).1) (dn++(cx (Cr.ev g.q t) tick w).2):=
 bK.imp (kO B s S w1 hS hb hg hm (hs.ok hT hf htk hv) (by rw[hs.ek];exact hlt) (by rw[hs.ed];exact hdn)) fun v Hn ⟨b2,A9,c9,e1,e2⟩=>by
  obtain⟨h1,h2,h3,h4,h5,h6⟩:=hs
  subst h1 h2 h4 h5 h6
  refine⟨_,e1,rfl,rfl,h3,rfl,?_,?_⟩
  ·show(⟨(bl s.m.q s.tk s.b.q s.rs).2.1,b2.q,s.mv⟩:Cr.W)=_
   rw[e2,h3,jz]
   rfl
  ·show s.dn++(bl s.m.q s.tk s.b.q s.rs).2.2=_
   rw[h3,jz]
   rfl
def UY{g:aP}{t tick:Int}{w:Cr.W}{dn:bv}(hT:fB g.q t)(hf:g.q.fit)(htk:0<=tick/\tick<=last)(hv:Cr.V (Cr.ev g.q t) tick w){s:Sh}(hs:s.At g t tick w dn)(w1:World)(B:Nat)(S:Nat->Prop)(hS:(HP.sh B s).bA S w1)(hb:∀k,S k->k<w1.heap.size)(hg:s.g.rd w1 (Fm w1 S))(hm:s.m.rd w1 (Fm w1 S)):CF 203 #[Y B 0] w1 S fun v Hn=>∃s2:Sh,Hn=[HP.sh B s2]/\s2.At g t tick (steps (Cr.ev g.q t) tick w) (dn):=
 bK.imp (Ua B s S w1 hS hb hg hm (hs.ok hT hf htk hv)) fun v Hn e1=>by
  obtain⟨h1,h2,h3,h4,h5,h6⟩:=hs
  subst h1 h2 h4 h5 h6
  refine⟨_,e1,rfl,rfl,h3,rfl,?_,rfl⟩
  show(⟨(steps s.e s.tk s.q).rs,s.b.q,(steps s.e s.tk s.q).mv⟩:Cr.W)=_
  have hb9:(steps s.e s.tk s.q).b=s.b.q:=by
   unfold steps;split
   ·rfl
   split<;>rfl
  rw[<-hb9]
def Kw{g:aP}{t tick:Int}{w:Cr.W}{dn:bv}(hT:fB g.q t)(hf:g.q.fit)(htk:0<=tick/\tick<=last){s:Sh}(hs:s.At g t tick w dn)(w1:World)(B:Nat)(S:Nat->Prop)(hS:(HP.sh B s).bA S w1)(hb:∀k,S k->k<w1.heap.size)(hg:s.g.rd w1 (Fm w1 S))(hm:s.m.rd w1 (Fm w1 S)){k:Int}(hv:Cr.V (Cr.ev g.q t) k w):CF 204 #[Y B 0] w1 S fun v Hn=>∃s2:Sh,Hn=[HP.sh B s2]/\s2.At g t tick (FD w) (dn):=
 bK.imp (qN B s S w1 hS hb hg hm (by have h9:=gi hv;rw[<-hs.eq] at h9;exact h9) (fun i hi=>by
   have h9:=hv.rt
   rw[<-hs.eq] at h9
   have h8:=(h9 i hi).sl.2
   have h7:=(iV hT.c).2
   have h6:(Cr.ev g.q t).K=(g.q.s.length:Int):=rfl
   have h5:(Cr.at_ s.rs i).sl<=(Cr.ev g.q t).K:=h8
   omega)) fun v Hn ⟨s2,e1,e2⟩=>by
  obtain⟨h1,h2,h3,h4,h5,h6⟩:=hs
  subst h1 h2 h4 h5 h6
  subst e2
  exact⟨_,e1,rfl,rfl,h3,rfl,rfl,rfl⟩
def abL(g:aP)(t:Int)(y:Cw)(tick:Int)(w0:World)(hg:g.rd w0 (Old w0))(hgf:g.q.fit)(hT:fB g.q t)(htk:0<=tick/\tick<=last)(hmem:E.dc w0 (Old w0) y.mem)(hV:Cr.V (Cr.ev g.q t) tick y.q)(PA:am)(pc:Nat)(hX:ce w0 PA (fl Ju [199,200,201])):CO 156 #[g.v,J t,y.v,V tick,.bool false,.slice PA 3 pc] w0 fun v Hn=>∃s2:Sh,∃A9 c9,s2.At g t tick (eD (Cr.ev g.q t) tick y.q) ([])/\v=.tuple #[(Cw.mk s2.rs A9 c9 s2.b s2.mv).v,.slice s2.A2 s2.dn.length s2.c2,J 0]/\Hn=[HP.row 246 6 A9 s2.rs.length c9 (fl Cr.R.cs s2.rs),HP.ro [(s2.b.A1,fl Od.O.cs s2.b.q.os),(s2.b.A2,ints s2.b.q.q)],HP.row 3 1 s2.A2 s2.dn.length s2.c2 (ints s2.dn)]:=
 D6 g t y tick false PA pc [199,200,201] (fun i s=>match i with|0=>s.At g t tick (y.q) ([])|1=>s.At g t tick (jB (Cr.ev g.q t) y.q) ([])|2=>s.At g t tick (calls (Cr.ev g.q t) (jB (Cr.ev g.q t) y.q)) ([])|_=>s.At g t tick (eD (Cr.ev g.q t) tick y.q) ([])) w0 hg hgf hT htk hmem hV (fun h=>by cases h) hX (by decide) (fun A c b2 h=>⟨rfl,rfl,rfl,rfl,(by show(⟨y.rs,b2.q,y.mv⟩:Cr.W)=y.q;rw[h];rfl),rfl⟩)
  (fun i s h=>by
   match i,h with
   |0,h=>exact⟨h.eg,h.em,by have h9:=gi (hV);rw[<-h.eq] at h9;exact h9⟩
   |1,h=>exact⟨h.eg,h.em,by have h9:=gi (Cr.ir (by have:=(iX hT).K1;omega) hV);rw[<-h.eq] at h9;exact h9⟩
   |2,h=>exact⟨h.eg,h.em,by have h9:=gi (Cr.ml (Cr.ir (by have:=(iX hT).K1;omega) hV));rw[<-h.eq] at h9;exact h9⟩
   |(n+3),h=>exact⟨h.eg,h.em,by have h9:=gi (Cr.kF (iX hT) hV);rw[<-h.eq] at h9;exact h9⟩)
  (fun i hi=>by
   match i,hi with
   |0,_=>exact⟨Mx,fun s h w1 B S hS hb hg hm=>JH hT hgf htk hV h w1 B S hS hb hg hm⟩
   |1,_=>exact⟨Mx,fun s h w1 B S hS hb hg hm=>Qo hT hgf htk (Cr.ir (by have:=(iX hT).K1;omega) hV) h w1 B S hS hb hg hm⟩
   |2,_=>exact⟨Mx,fun s h w1 B S hS hb hg hm=>Jq hT hgf htk (Cr.ml (Cr.ir (by have:=(iX hT).K1;omega) hV)) h w1 B S hS hb hg hm⟩
   |(n+3),hi=>exact absurd hi (by simp))
def abm(g:aP)(t:Int)(y:Cw)(tick:Int)(w0:World)(hg:g.rd w0 (Old w0))(hgf:g.q.fit)(hT:fB g.q t)(htk:0<=tick/\tick<=last)(hmem:E.dc w0 (Old w0) y.mem)(hV:Cr.V (Cr.ev g.q t) tick y.q)(hlt:tick<4611686018427387904)(PA:am)(pc:Nat)(hX:ce w0 PA (fl Ju [202])):CO 156 #[g.v,J t,y.v,V tick,.bool true,.slice PA 1 pc] w0 fun v Hn=>∃s2:Sh,∃A9 c9,s2.At g t tick ((cx (Cr.ev g.q t) tick y.q).1) ((cx (Cr.ev g.q t) tick y.q).2)/\v=.tuple #[(Cw.mk s2.rs A9 c9 s2.b s2.mv).v,.slice s2.A2 s2.dn.length s2.c2,J 0]/\Hn=[HP.row 246 6 A9 s2.rs.length c9 (fl Cr.R.cs s2.rs),HP.ro [(s2.b.A1,fl Od.O.cs s2.b.q.os),(s2.b.A2,ints s2.b.q.q)],HP.row 3 1 s2.A2 s2.dn.length s2.c2 (ints s2.dn)]:=
 D6 g t y tick true PA pc [202] (fun i s=>match i with|0=>s.At g t tick (y.q) ([])|_=>s.At g t tick ((cx (Cr.ev g.q t) tick y.q).1) ((cx (Cr.ev g.q t) tick y.q).2)) w0 hg hgf hT htk hmem hV (fun _=>hlt) hX (by decide) (fun A c b2 h=>⟨rfl,rfl,rfl,rfl,(by show(⟨y.rs,b2.q,y.mv⟩:Cr.W)=y.q;rw[h];rfl),rfl⟩)
  (fun i s h=>by
   match i,h with
   |0,h=>exact⟨h.eg,h.em,by have h9:=gi (hV);rw[<-h.eq] at h9;exact h9⟩
   |(n+1),h=>exact⟨h.eg,h.em,by have h9:=gi (Cr.kO ⟨htk.1,hlt⟩ hV);rw[<-h.eq] at h9;exact h9⟩)
  (fun i hi=>by
   match i,hi with
   |0,_=>exact⟨Mx,fun s h w1 B S hS hb hg hm=>Pe hT hgf htk hV h w1 B S hS hb hg hm hlt (by simp)⟩
   |(n+1),hi=>exact absurd hi (by simp))
def aaB(g:aP)(t:Int)(y:Cw)(tick:Int)(w0:World)(hg:g.rd w0 (Old w0))(hgf:g.q.fit)(hT:fB g.q t)(htk:0<=tick/\tick<=last)(hmem:E.dc w0 (Old w0) y.mem)(hV:Cr.V (Cr.ev g.q t) tick y.q)(hlt:tick<4611686018427387904)(PA:am)(pc:Nat)(hX:ce w0 PA (fl Ju [203,204])):CO 156 #[g.v,J t,y.v,V tick,.bool true,.slice PA 2 pc] w0 fun v Hn=>∃s2:Sh,∃A9 c9,s2.At g t tick (iI (Cr.ev g.q t) tick y.q) ([])/\v=.tuple #[(Cw.mk s2.rs A9 c9 s2.b s2.mv).v,.slice s2.A2 s2.dn.length s2.c2,J 0]/\Hn=[HP.row 246 6 A9 s2.rs.length c9 (fl Cr.R.cs s2.rs),HP.ro [(s2.b.A1,fl Od.O.cs s2.b.q.os),(s2.b.A2,ints s2.b.q.q)],HP.row 3 1 s2.A2 s2.dn.length s2.c2 (ints s2.dn)]:=
 D6 g t y tick true PA pc [203,204] (fun i s=>match i with|0=>s.At g t tick (y.q) ([])|1=>s.At g t tick (steps (Cr.ev g.q t) tick y.q) ([])|_=>s.At g t tick (iI (Cr.ev g.q t) tick y.q) ([])) w0 hg hgf hT htk hmem hV (fun _=>hlt) hX (by decide) (fun A c b2 h=>⟨rfl,rfl,rfl,rfl,(by show(⟨y.rs,b2.q,y.mv⟩:Cr.W)=y.q;rw[h];rfl),rfl⟩)
  (fun i s h=>by
   match i,h with
   |0,h=>exact⟨h.eg,h.em,by have h9:=gi (hV);rw[<-h.eq] at h9;exact h9⟩
   |1,h=>exact⟨h.eg,h.em,by have h9:=gi (tR (iX hT) ⟨htk.1,hlt⟩ hV);rw[<-h.eq] at h9;exact h9⟩
   |(n+2),h=>exact⟨h.eg,h.em,by have h9:=gi (Cr.iv (iX hT) ⟨htk.1,hlt⟩ hV);rw[<-h.eq] at h9;exact h9⟩)
  (fun i hi=>by
   match i,hi with
   |0,_=>exact⟨Mx,fun s h w1 B S hS hb hg hm=>UY hT hgf htk hV h w1 B S hS hb hg hm⟩
   |1,_=>exact⟨Mx,fun s h w1 B S hS hb hg hm=>Kw hT hgf htk h w1 B S hS hb hg hm (tR (iX hT) ⟨htk.1,hlt⟩ hV)⟩
   |(n+2),hi=>exact absurd hi (by simp))
end Go.Proofs.YtcgecopggfjojaaGreatDoor
