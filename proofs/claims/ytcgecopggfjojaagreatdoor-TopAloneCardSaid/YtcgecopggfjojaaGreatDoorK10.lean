/- Part 10: the logic, the plain laws and the walks behind TopAlone (lemmas only; each says its own conditions). -/
import Derived.Test.YtcgecopggfjojaaGreatDoorK9
set_option maxRecDepth 100000
set_option linter.all false
set_option maxHeartbeats 0
namespace Go.Proofs.YtcgecopggfjojaaGreatDoor
open Go Go.RowKit Go.Proofs.Tryz E Fl Cf Od Bf Cr Rt Tr Gw Dg Au Wi
attribute [local irreducible] E.CW E.OW E.QW E.AW E.lJ E.blockK E.PV
def rX:E.Mk prog 227 3 3 (Value.int .i64) (Lit.int .i64) gE:=aad Ux Ux
def Jg(B:Nat)(s:Sh)(w0:World)(hs:s.rd w0 (Old w0) B)(hok:s.ok):
  CV 223 #[Y B 0] w0 (.bool true):=by
 have hs2:=hs;obtain⟨hkc,hh,ho,hq,hg,hm⟩:=hs2;have hhl:=da s.rs;have hle:=hok.le;have hlen:=hok.len;have htk:=hok.WD;have hmv: -1<=s.mv/\s.mv<s.rs.length:=hok.v.mv;have h64:=Rt.gj hok.T.c;have hl64:s.g.l.length<=64:=h64;have hbl:=hok.bk.l;refine Zq ?_;refine Zx (k:=Zy (k:=Z0 (k:=Z4t ?_)));refine QW.call Mx rfl rfl rfl rfl rfl rfl _ (fun w hw=>bK.val (Ku s.m s.b w (hw.oP hm) ⟨hw.rd ho,hw.rd hq⟩ hok.bk)) ?_;refine Z4t ?_;refine OW.zx rX rfl rfl rfl rfl (fun B1=>?_);refine OW.zx rX rfl rfl rfl rfl (fun B2=>?_);refine Z4t ?_;refine CW.av [0,3,4,61] 2 rfl rfl (fun mm mods Hm=>∃k:Nat,mm=s.rs.length-k/\mods=[(62,J k)]/\Hm=[HP.mv prog 3 B2 k (Lit.int .i64) (tW (Cn s.rs k)),HP.mv prog 3 B1 k (Lit.int .i64) (tW (Lu s.rs k))]/\k<=s.rs.length) (s.rs.length) ?_ ?_
 ·exact⟨[(62,_)],Kc,0,rfl,rfl,by rw[show Cn s.rs 0=[] from rfl,show Lu s.rs 0=[] from rfl,Ny],K1⟩
 rintro _ _ _ ⟨k,rfl,rfl,rfl,hk⟩;refine Zc ?_ ?_
 ·refine Z4u ?_;intro hc;have hp9:=hok.on (k:=k) K1;have ho9:=hok.odr (k:=k) K1;have hc0:=hok.pc0 (k:=k) K1;have hc1:=hok.pc1 (k:=k) K1;have hol:(Cn s.rs k).count (Cr.at_ s.rs k).od<=(Cn s.rs k).length:=List.count_le_length;have hol2:(Cn s.rs k).length<=3:=by unfold Cn;rw[bZ,cf];omega
  refine Z4t ?_;refine OW.call Mx rfl rfl rfl rfl rfl rfl _ (fun w hw=>PU B s k w (hw.Mh hs) hok K1) ?_;rintro _ _ ⟨rfl,rfl⟩;refine Zr (k:=Z3j (k:=?_));refine OW.put 81 (J ((Lu s.rs k).count (Cr.at_ s.rs k).pl:Int)) rfl (kB _ _) ?_;refine Z4t ?_;refine OW.Vj (i:=1) rX rfl rfl rfl rfl rfl rfl rfl K30 K4 ?_;refine OW.chunk 0 (HP.mv prog 3 B1 (k+1) (Lit.int .i64) (tW (Lu s.rs (k+1)))) rfl (by rw[uo K1,<-Cj]) ?_
  refine Zr (k:=Z3j (k:=?_));refine OW.put 89 (J ((Cn s.rs k).count (Cr.at_ s.rs k).od:Int)) rfl (kB _ _) ?_;refine Z4t ?_;refine OW.Vj (i:=1) rX rfl rfl rfl rfl rfl rfl rfl K30 K4 ?_;refine OW.chunk 0 (HP.mv prog 3 B2 (k+1) (Lit.int .i64) (tW (Cn s.rs (k+1)))) rfl (by rw[vc K1,<-Cj]) ?_
  refine Zr (k:=Z3j (k:=?_));refine OW.put 97 (J 1) rfl (by rw[kB,hc1]<;>rfl) ?_
  refine Zs ?_ ?_;all_goals first|(iterate 6 refine Z4x ?_;intros)|intros
  all_goals first|(refine OW.off rfl rfl rfl ?_)|(refine OW.pure rfl rfl rfl (PV.vx (i:=0) rX Jx rfl rfl rfl rfl ?_) ?_;(focus ((unfold gE;omega))))|skip
  all_goals first|(refine OW.put 113 (J 1) rfl (by rw[kB,hok.oc1 K1 (by assumption)]<;>rfl) ?_)|skip
  all_goals
   refine Z4t ?_;intros;refine⟨_,[(62,_)],[0,0],_,?_,Kc,rfl,k+1,rfl,rfl,rfl,K1⟩;omega
 refine Z4u ?_;intro hc;obtain rfl:k=s.rs.length:=K1;refine Z4t ?_;refine CW.av [0,3,4,122,123] 0 rfl rfl (fun mm mods Hm=>∃i:Nat,mm=s.b.q.os.length-i/\mods=[(124,J i)]/\Hm=[]/\i<=s.b.q.os.length) (s.b.q.os.length) ?_ ?_
 ·exact⟨[(124,_)],Kc,0,rfl,rfl,rfl,K1⟩
 rintro _ _ _ ⟨i,rfl,rfl,rfl,hi⟩;refine Zc ?_ ?_
 ·refine Z4u ?_;intro hc;have hid:=hok.oid (i:=i) K1;refine Zs ?_ ?_;all_goals first|(refine Zt ?_ ?_<;>try exact⟨⟩)|((iterate 5 (refine Z4x ?_;intros)))|skip
  all_goals first|(iterate 3 refine Z4x ?_;intros)|intros
  all_goals first|(refine OW.off rfl rfl rfl ?_)|(refine OW.pure rfl rfl rfl (PV.vx (i:=1) rX Jx rfl rfl rfl rfl ?_) ?_;(focus ((unfold gE;omega))))|skip
  all_goals first|(refine OW.put 140 (J ((Cn s.rs s.rs.length).count (s.b.q.os.getD i Od.O.z).id:Int)) rfl (kB _ _) ?_)|skip
  all_goals first|(have hcn:=hok.och (i:=i) K1 K1)|skip
  all_goals
   refine Zd ?_ ?_
   ·try exact⟨⟩
    all_goals
     intros;exfalso;contradiction
   try exact⟨⟩
   all_goals
    refine Z4t ?_;intros;refine⟨_,[(124,_)],[1,1],_,?_,Kc,rfl,i+1,rfl,rfl,rfl,K1⟩;omega
 refine Zc ?_ ?_
 ·refine Zk ?_;intros;exact⟨rfl,rfl⟩
 refine Z4u ?_;intro hc hc;have hgo:=hok.go K1;have hgi:=hgo.2.2.2;have hg1:=hgo.1;refine Z0 (k:=Z4t ?_);refine OW.call Mx rfl rfl rfl rfl rfl rfl _ (fun w hw=>sU B s s.e s.mv.toNat w (hw.Mh hs) hok.em hok.bk K1 hok.len) ?_;rintro _ _ ⟨rfl,rfl⟩;refine Zs ?_ ?_;all_goals first|(iterate 2 refine Z4x ?_;intros)|intros
 all_goals first|(refine OW.off rfl rfl rfl ?_)|(refine OW.pure rfl rfl rfl (PV.vx (i:=1) rX Jx rfl rfl rfl rfl ?_) ?_;(focus ((unfold gE;omega))))|skip
 all_goals first|(refine OW.put 176 (J 0) rfl (by rw[kB,hgo.2.1.resolve_left (by assumption)]<;>rfl) ?_)|skip
 all_goals first|(iterate 7 refine Z4x ?_;intros)|intros
 all_goals first|(refine OW.call Mx rfl rfl rfl rfl rfl rfl _ (fun w hw=>CE B s s.mv.toNat _ w (hw.Mh hs) hok.f htk K1) ?_;rintro _ _ ⟨rfl,rfl⟩)|skip
 all_goals first|(refine OW.put 184 (.bool true) rfl (aq Value.bool (bu hgo.2.2.1)) ?_)|skip
 all_goals
  refine Zk ?_;intros;exact⟨rfl,rfl⟩
def qN(B:Nat)(s:Sh)(S:Nat->Prop)(w0:World)(hS:(HP.sh B s).bA S w0)(hb:∀k,S k->k<w0.heap.size)(hg:s.g.rd w0 (Fm w0 S))(hm:s.m.rd w0 (Fm w0 S))(hle:s.rs.length<=3)(hsl:∀i,i<s.rs.length->(Cr.at_ s.rs i).sl<=100):
  CF 204 #[Y B 0] w0 S fun v Hn=>∃s2:Sh,Hn=[HP.sh B s2]/\s2={s with rs:=s.rs.map cA}:=by
 refine Z4u ?_;refine Zp (HA.au hS hb) ?_;refine Zx (k:=Z24 (k:=Zz (k:=Z3k (k:=Z4t ?_))));refine CW.av [0,8] 1 rfl rfl (fun mm mods Hm=>∃k:Nat,mm=s.rs.length-k/\mods=[(9,J k)]/\Hm=[HP.sh B {s with rs:=Cr.upto cA s.rs k}]/\k<=s.rs.length) (s.rs.length) ?_ ?_
 ·exact⟨[(9,_)],Kc,0,rfl,rfl,by rw[xr],K1⟩
 rintro _ _ _ ⟨k,rfl,rfl,rfl,hk⟩;refine Zc ?_ ?_
 ·refine Z4u ?_;intro hc;refine Z24 (k:=?_);have hul:=o5 cA s.rs k;have hhl:=da (Cr.upto cA s.rs k);refine CW.curr (rs:=Cr.upto cA s.rs k) 1 k (Cr.at_ s.rs k) rfl K43 (Ij cA K1) ?_;refine Zy (k:=Z4z ?_);iterate 4 refine Z4x ?_
  refine OW.put 15 (.slice s.A (Cr.upto cA s.rs k).length s.c) rfl rfl ?_;refine Zg @lD ?_;refine OW.put 19 (.bool (held (Cr.at_ s.rs k))) rfl K61 ?_;have hsk:=hsl k K1;have hf1:held (Cr.at_ s.rs k)=true->cA (Cr.at_ s.rs k)=⟨(Cr.at_ s.rs k).pl,(Cr.at_ s.rs k).st,(Cr.at_ s.rs k).od,(Cr.at_ s.rs k).lf,(Cr.at_ s.rs k).sl-1,(Cr.at_ s.rs k).du⟩:=fun h=>aa h;have hf2:held (Cr.at_ s.rs k)=false->cA (Cr.at_ s.rs k)=⟨(Cr.at_ s.rs k).pl,(Cr.at_ s.rs k).st,(Cr.at_ s.rs k).od,(Cr.at_ s.rs k).lf,(Cr.at_ s.rs k).sl,(Cr.at_ s.rs k).du⟩:=fun h=>ae (by rw[h];simp)
  refine Zc ?_ ?_
  ·intros;have hs1:=ju.1 K2;refine Z4y ?_;first|have hf:=hf1 K2|have hf:=hf2 K2|have hf:=hf1 K26|have hf:=hf2 K26
   refine Z3l (k:=Zr (k:=Z3m (k:=?_)));omega
  refine Z4u ?_;intros;first|have hf:=hf1 K2|have hf:=hf2 K2|have hf:=hf1 K26|have hf:=hf2 K26
  refine Z3l (k:=Zr (k:=Z3m (k:=?_)));omega
 refine Zl ?_;intros;exact⟨_,rfl,by rw[AJ _ K1]⟩
def ir(B:Nat)(s:Sh)(S:Nat->Prop)(w0:World)(hS:(HP.sh B s).bA S w0)(hb:∀k,S k->k<w0.heap.size)(hg:s.g.rd w0 (Fm w0 S))(hm:s.m.rd w0 (Fm w0 S))(hok:s.ok):
  CF 199 #[Y B 0] w0 S fun v Hn=>∃s2:Sh,Hn=[HP.sh B s2]/\s2={s with rs:=s.rs.map (bE s.e)}:=by
 have hle:=hok.le;have hlen:=hok.len;have htk:=hok.WD;refine Zp (HA.au hS hb) ?_;refine Zx (k:=Z24 (k:=Zz (k:=Z3k (k:=Z4t ?_))));refine CW.av [0,8] 1 rfl rfl (fun mm mods Hm=>∃k:Nat,mm=s.rs.length-k/\mods=[(9,J k)]/\Hm=[HP.sh B {s with rs:=Cr.upto (bE s.e) s.rs k}]/\k<=s.rs.length) (s.rs.length) ?_ ?_
 ·exact⟨[(9,_)],Kc,0,rfl,rfl,by rw[xr],K1⟩
 rintro _ _ _ ⟨k,rfl,rfl,rfl,hk⟩;refine Zc ?_ ?_
 ·refine Z4u ?_;intro hc;refine Z24 (k:=?_);have hul:=o5 (bE s.e) s.rs k;have hhl:=da (Cr.upto (bE s.e) s.rs k);refine CW.curr (rs:=Cr.upto (bE s.e) s.rs k) 1 k (Cr.at_ s.rs k) rfl K43 (Ij (bE s.e) K1) ?_;refine Zy (k:=Z4z ?_);iterate 4 refine Z4x ?_
  refine OW.put 15 (.slice s.A (Cr.upto (bE s.e) s.rs k).length s.c) rfl rfl ?_;obtain⟨q4,hq4⟩:∃q4,q4=((Cr.at_ s.rs k).du&& !dz s.g.q (Cr.at_ s.rs k).pl):=⟨_,rfl⟩;have hf1:q4=true->bE s.e (Cr.at_ s.rs k)=⟨(Cr.at_ s.rs k).pl,(Cr.at_ s.rs k).st,(Cr.at_ s.rs k).od,(Cr.at_ s.rs k).lf,(s.g.s.length:Int),false⟩:=fun h=>aa (hq4▸h);have hf2:q4=false->bE s.e (Cr.at_ s.rs k)=⟨(Cr.at_ s.rs k).pl,(Cr.at_ s.rs k).st,(Cr.at_ s.rs k).od,(Cr.at_ s.rs k).lf,(Cr.at_ s.rs k).sl,(Cr.at_ s.rs k).du⟩:=fun h=>ae (fun h2=>by rw[show((Cr.at_ s.rs k).du&& !s.e.dz (Cr.at_ s.rs k).pl)=q4 from hq4.symm,h] at h2;cases h2)
  refine Zs ?_ ?_;all_goals first|(iterate 6 refine Z4x ?_;intros)|intros
  all_goals first|(refine OW.off rfl rfl rfl ?_)|(refine OW.call Mx rfl rfl rfl rfl rfl rfl _ (fun w hw=>Cz B {s with rs:=Cr.upto (bE s.e) s.rs k} _ w (hw.dq (i:=1) rfl) (hw.lN hg) hok.T.c (hok.on K1)) ?_;rintro _ _ ⟨rfl,rfl⟩)|skip
  all_goals first|(refine OW.put 30 (.bool (dz s.g.q (Cr.at_ s.rs k).pl)) rfl rfl ?_)|skip
  all_goals
   refine Z4L ?_;intros;refine OW.put 32 (.bool q4) rfl (aq Value.bool (by rw[hq4];simp_all)) ?_
   refine Zc ?_ ?_
   ·intros;refine Z4z ?_;iterate 8 refine Z4x ?_
    refine OW.put 40 (J (s.g.s.length:Int)) rfl rfl ?_;refine Z4u ?_;first|have hf:=hf1 K2|have hf:=hf2 K2|have hf:=hf1 K26|have hf:=hf2 K26
    refine Z3n (k:=Zr (k:=Z3m (k:=?_)));omega
   refine Z4u ?_;intros;first|have hf:=hf1 K2|have hf:=hf2 K2|have hf:=hf1 K26|have hf:=hf2 K26
   refine Z3n (k:=Zr (k:=Z3m (k:=?_)));omega
 refine Zl ?_;intros;exact⟨_,rfl,by rw[AJ _ K1]⟩
def ml(B:Nat)(s:Sh)(S:Nat->Prop)(w0:World)(hS:(HP.sh B s).bA S w0)(hb:∀k,S k->k<w0.heap.size)(hg:s.g.rd w0 (Fm w0 S))(hm:s.m.rd w0 (Fm w0 S))(hok:s.ok):
  CF 200 #[Y B 0] w0 S fun v Hn=>∃b2:Bk,Hn=[HP.sh B {s with rs:=(callsF s.m.q s.b.q s.rs).2,b:=b2}]/\b2.q=(callsF s.m.q s.b.q s.rs).1:=by
 have hle:=hok.le;have hlen:=hok.len;have htk:=hok.WD;refine Zp (HA.au hS hb) ?_;refine Zx (k:=Z24 (k:=Zz (k:=Z3k (k:=Z4t ?_))));refine CW.av [0,11] 1 rfl rfl (fun mm mods Hm=>∃k:Nat,∃b2:Bk,mm=s.rs.length-k/\mods=[(12,J k)]/\Hm=[HP.sh B {s with rs:=(callsN s.m.q s.b.q s.rs k).2,b:=b2}]/\k<=s.rs.length/\b2.q=(callsN s.m.q s.b.q s.rs k).1) (s.rs.length) ?_ ?_
 ·exact⟨[(12,_)],Kc,0,s.b,rfl,rfl,rfl,K1,rfl⟩
 rintro _ _ _ ⟨k,b2,rfl,rfl,rfl,hk,hb2⟩;refine Zc ?_ ?_
 ·refine Z4u ?_;intro hc;refine Z24 (k:=?_);have hul:=ll s.m.q s.b.q s.rs k;have hhl:=da (callsN s.m.q s.b.q s.rs k).2;have hat:=wO s.m.q s.b.q (rs:=s.rs) (k:=k) K1;have hvk:=Kg hok.v k hk;have hbk:Ok s.m.q b2.q:=by rw[hb2,<-hok.em];exact hvk.bk
  refine CW.curr (rs:=(callsN s.m.q s.b.q s.rs k).2) 1 k (Cr.at_ s.rs k) rfl K43 hat ?_;refine Zy (k:=Z4z ?_);iterate 4 refine Z4x ?_
  refine OW.put 18 (.slice s.A (callsN s.m.q s.b.q s.rs k).2.length s.c) rfl rfl ?_;refine Zs ?_ ?_;all_goals first|(refine Z4x ?_;intros)|intros
  all_goals first|(refine OW.off rfl rfl rfl ?_)|(refine OW.call Mx rfl rfl rfl rfl rfl rfl _ (fun w hw=>lD s.A _ k w (hw.bh (i:=0) rfl) (by rw[aM];omega)) ?_;rintro _ _ ⟨rfl,rfl⟩)|skip
  all_goals first|(refine OW.put 29 (.bool (held (Cr.at_ s.rs k))) rfl K61 ?_)|skip
  all_goals
   refine Zd ?_ ?_
   ·try exact⟨⟩
    all_goals
     refine Z4u ?_;intros;first|(have hf:=rP (r:=(Cr.at_ s.rs k)) K2 K2 hx3;obtain⟨hd9,hn9⟩:=fg K1 hb2 hf;have hn9:=(show b3.q=x3.1 from hb3).trans hn9;obtain⟨b9,hb9⟩:∃b9,b9=b3:=⟨_,rfl⟩;subst hb9;refine CW.fk {s with rs:=(callsN s.m.q s.b.q s.rs (k+1)).2,b:=b9} 1 0 1 2 rfl rfl rfl rfl K21 K22 (aq (fl Hd.cs) hd9) ?_)|(obtain⟨e3,he3⟩:=hn3 K2;have hf:=rA (r:=(Cr.at_ s.rs k)) he3;obtain⟨hd9,hn9⟩:=fg K1 hb2 hf;obtain⟨b9,hb9⟩:∃b9,b9=b2:=⟨_,rfl⟩;subst hb9;refine CW.fk {s with rs:=(callsN s.m.q s.b.q s.rs (k+1)).2,b:=b9} 3 2 2 2 rfl rfl rfl rfl K21 K22 (aq (fl Hd.cs) hd9) ?_)|(have hf:=uW (m:=s.m.q) (b:=b2.q) (r:=(Cr.at_ s.rs k)) K8;obtain⟨hd9,hn9⟩:=fg K1 hb2 hf;obtain⟨b9,hb9⟩:∃b9,b9=b2:=⟨_,rfl⟩;subst hb9;refine CW.fk {s with rs:=(callsN s.m.q s.b.q s.rs (k+1)).2,b:=b9} 1 0 0 0 rfl rfl rfl rfl K21 K22 (aq (fl Hd.cs) hd9) ?_)
     refine Zr (k:=Z3o (k:=?_));omega
   try exact⟨⟩
   all_goals
    refine Z4u ?_;intros;refine ZQ (k:=?_);iterate 8 refine Z4v ?_
    refine E.AW.two 8 13 K0 rfl rfl ?_ ?_
    focus
     refine Zg @nO ?_;refine Z4w ?_;iterate 9 refine Z4v ?_
     intro b3 i3 hb3 hi3 _
    rotate_right
    focus
     refine Zo (k:=Z4w ?_);intros;refine Z4D ?_;refine OW.call Mx rfl rfl rfl rfl rfl rfl _ (fun w hw=>nO s.m b2 w (hw.oP hm) ⟨K46,K47⟩ hbk) ?_;rintro _ _ ⟨b3,i3,rfl,hb3,hi3,rfl⟩;refine Z4w ?_;iterate 8 refine Z4v ?_
    all_goals
     have hn3:=KO (m:=s.m.q) (b:=b2.q);refine Zc ?_ ?_
     ·intros;obtain⟨x3,hx3,hr3⟩:=DW (m:=s.m.q) (b:=b2.q) K2;obtain rfl:=hi3 x3 hx3;rw[hr3] at hb3;refine Zr (k:=Z3p (k:=Z4u ?_));first|(have hf:=rP (r:=(Cr.at_ s.rs k)) K2 K2 hx3;obtain⟨hd9,hn9⟩:=fg K1 hb2 hf;have hn9:=(show b3.q=x3.1 from hb3).trans hn9;obtain⟨b9,hb9⟩:∃b9,b9=b3:=⟨_,rfl⟩;subst hb9;refine CW.fk {s with rs:=(callsN s.m.q s.b.q s.rs (k+1)).2,b:=b9} 1 0 1 2 rfl rfl rfl rfl K21 K22 (aq (fl Hd.cs) hd9) ?_)|(obtain⟨e3,he3⟩:=hn3 K2;have hf:=rA (r:=(Cr.at_ s.rs k)) he3;obtain⟨hd9,hn9⟩:=fg K1 hb2 hf;obtain⟨b9,hb9⟩:∃b9,b9=b2:=⟨_,rfl⟩;subst hb9;refine CW.fk {s with rs:=(callsN s.m.q s.b.q s.rs (k+1)).2,b:=b9} 3 2 2 2 rfl rfl rfl rfl K21 K22 (aq (fl Hd.cs) hd9) ?_)|(have hf:=uW (m:=s.m.q) (b:=b2.q) (r:=(Cr.at_ s.rs k)) K8;obtain⟨hd9,hn9⟩:=fg K1 hb2 hf;obtain⟨b9,hb9⟩:∃b9,b9=b2:=⟨_,rfl⟩;subst hb9;refine CW.fk {s with rs:=(callsN s.m.q s.b.q s.rs (k+1)).2,b:=b9} 1 0 0 0 rfl rfl rfl rfl K21 K22 (aq (fl Hd.cs) hd9) ?_)
      refine Zr (k:=Z3o (k:=?_));omega
     refine Z4u ?_;intros;first|(have hf:=rP (r:=(Cr.at_ s.rs k)) K2 K2 hx3;obtain⟨hd9,hn9⟩:=fg K1 hb2 hf;have hn9:=(show b3.q=x3.1 from hb3).trans hn9;obtain⟨b9,hb9⟩:∃b9,b9=b3:=⟨_,rfl⟩;subst hb9;refine CW.fk {s with rs:=(callsN s.m.q s.b.q s.rs (k+1)).2,b:=b9} 1 0 1 2 rfl rfl rfl rfl K21 K22 (aq (fl Hd.cs) hd9) ?_)|(obtain⟨e3,he3⟩:=hn3 K2;have hf:=rA (r:=(Cr.at_ s.rs k)) he3;obtain⟨hd9,hn9⟩:=fg K1 hb2 hf;obtain⟨b9,hb9⟩:∃b9,b9=b2:=⟨_,rfl⟩;subst hb9;refine CW.fk {s with rs:=(callsN s.m.q s.b.q s.rs (k+1)).2,b:=b9} 3 2 2 2 rfl rfl rfl rfl K21 K22 (aq (fl Hd.cs) hd9) ?_)|(have hf:=uW (m:=s.m.q) (b:=b2.q) (r:=(Cr.at_ s.rs k)) K8;obtain⟨hd9,hn9⟩:=fg K1 hb2 hf;obtain⟨b9,hb9⟩:∃b9,b9=b2:=⟨_,rfl⟩;subst hb9;refine CW.fk {s with rs:=(callsN s.m.q s.b.q s.rs (k+1)).2,b:=b9} 1 0 0 0 rfl rfl rfl rfl K21 K22 (aq (fl Hd.cs) hd9) ?_)
     refine Zr (k:=Z3o (k:=?_));omega
 refine Zl ?_;intros;have hkk:k=s.rs.length:=K1;subst hkk;exact⟨b2,by rw[uy],by rw[hb2,uy]⟩
def kO(B:Nat)(s:Sh)(S:Nat->Prop)(w0:World)(hS:(HP.sh B s).bA S w0)(hb:∀k,S k->k<w0.heap.size)(hg:s.g.rd w0 (Fm w0 S))(hm:s.m.rd w0 (Fm w0 S))(hok:s.ok)(hlt:s.tk<last)(hdn:s.dn.length<=1000):
  CF 202 #[Y B 0] w0 S fun v Hn=>∃b2:Bk,∃A9 c9,Hn=[HP.sh B {s with rs:=(bl s.m.q s.tk s.b.q s.rs).2.1,b:=b2,dn:=s.dn++(bl s.m.q s.tk s.b.q s.rs).2.2,A2:=A9,c2:=c9}]/\b2.q=(bl s.m.q s.tk s.b.q s.rs).1:=by
 have hle:=hok.le;have hlen:=hok.len;have htk:=hok.WD;have hlt2:s.tk<4611686018427387904:=hlt;refine Zp (HA.au hS hb) ?_;refine Zx (k:=Z24 (k:=Zz (k:=Z3k (k:=Z4t ?_))));refine CW.av [0,8] 1 rfl rfl (fun mm mods Hm=>∃k:Nat,∃b2:Bk,∃A9:am,∃c9:Nat,mm=s.rs.length-k/\mods=[(9,J k)]/\Hm=[HP.sh B {s with rs:=(aj s.m.q s.tk s.b.q s.rs k).2.1,b:=b2,dn:=s.dn++(aj s.m.q s.tk s.b.q s.rs k).2.2,A2:=A9,c2:=c9}]/\k<=s.rs.length/\b2.q=(aj s.m.q s.tk s.b.q s.rs k).1) (s.rs.length) ?_ ?_
 ·exact⟨[(9,_)],Kc,0,s.b,s.A2,s.c2,rfl,rfl,by rw[show s.dn++(aj s.m.q s.tk s.b.q s.rs 0).2.2=s.dn from bp _]<;>rfl,K1,rfl⟩
 rintro _ _ _ ⟨k,b2,A9,c9,rfl,rfl,rfl,hk,hb2⟩;refine Zc ?_ ?_
 ·refine Z4u ?_;intro hc;refine Z24 (k:=?_);have hul:=lj s.m.q s.tk s.b.q s.rs k;have hhl:=da (aj s.m.q s.tk s.b.q s.rs k).2.1;have hat:=xq s.m.q s.tk s.b.q (rs:=s.rs) (i:=k) K1;have hvk:=IA ⟨hok.tk.1,hlt⟩ hok.v k hk
  have hbk:Ok s.m.q b2.q:=by
    have h9:=hvk.bk;rw[hok.em] at h9;rw[hb2];exact h9
  have hlfr:=hok.lfr (k:=k) K1;have hdk:=wC (m:=s.m.q) (t:=s.tk) (b:=s.b.q) (rs:=s.rs) k;have hdl:(s.dn++(aj s.m.q s.tk s.b.q s.rs k).2.2).length<=1003:=by rw[aF];omega
  refine CW.curr (rs:=(aj s.m.q s.tk s.b.q s.rs k).2.1) 1 k (Cr.at_ s.rs k) rfl K43 hat ?_;refine Zy (k:=Z4z ?_);iterate 4 refine Z4x ?_
  refine OW.put 15 (.slice s.A (aj s.m.q s.tk s.b.q s.rs k).2.1.length s.c) rfl rfl ?_;refine Zg @lD ?_;refine OW.put 19 (.bool (held (Cr.at_ s.rs k))) rfl K61 ?_;refine Zs ?_ ?_;all_goals first|(refine Zt ?_ ?_<;>try exact⟨⟩)|((iterate 7 (refine Z4x ?_;intros)))|skip
  all_goals
   refine Zd ?_ ?_
   ·try exact⟨⟩
    all_goals
     refine Z4u ?_;intros;first|(have hf:=hD;obtain⟨hd9,hn9,hs9⟩:=jQ K1 hb2 s.dn hf;have hn9:=hb3.trans hn9;obtain⟨b9,hb9⟩:∃b9,b9=b3:=⟨_,rfl⟩;subst hb9;obtain⟨A8,hA8⟩:∃A8,A8=A2:=⟨_,rfl⟩;subst hA8;obtain⟨c8,hc8⟩:∃c8,c8=c2:=⟨_,rfl⟩;subst hc8;refine CW.bO 2 (HP.row 3 1 A8 (s.dn++(aj s.m.q s.tk s.b.q s.rs (k+1)).2.2).length c8 (ints (s.dn++(aj s.m.q s.tk s.b.q s.rs (k+1)).2.2))) rfl K11 ?_;refine CW.fk {s with rs:=(aj s.m.q s.tk s.b.q s.rs (k+1)).2.1,b:=b9,dn:=s.dn++(aj s.m.q s.tk s.b.q s.rs (k+1)).2.2,A2:=A8,c2:=c8} 2 1 1 0 rfl rfl rfl rfl K12 K13 (aq (fl Hd.cs) hd9) ?_)|(have hf:=hC;obtain⟨hd9,hn9,hs9⟩:=cH K1 hb2 s.dn hf;have hn9:=hb3.trans hn9;obtain⟨b9,hb9⟩:∃b9,b9=b3:=⟨_,rfl⟩;subst hb9;obtain⟨A8,hA8⟩:∃A8,A8=A9:=⟨_,rfl⟩;subst hA8;obtain⟨c8,hc8⟩:∃c8,c8=c9:=⟨_,rfl⟩;subst hc8;refine CW.bO 4 (HP.row 3 1 A8 (s.dn++(aj s.m.q s.tk s.b.q s.rs (k+1)).2.2).length c8 (ints (s.dn++(aj s.m.q s.tk s.b.q s.rs (k+1)).2.2))) rfl K11 ?_;refine CW.fk {s with rs:=(aj s.m.q s.tk s.b.q s.rs (k+1)).2.1,b:=b9,dn:=s.dn++(aj s.m.q s.tk s.b.q s.rs (k+1)).2.2,A2:=A8,c2:=c8} 1 2 1 0 rfl rfl rfl rfl K12 K13 (aq (fl Hd.cs) hd9) ?_)|(have hf:=hB K2;obtain⟨hd9,hn9,hs9⟩:=cH K1 hb2 s.dn hf;obtain⟨b9,hb9⟩:∃b9,b9=b2:=⟨_,rfl⟩;subst hb9;obtain⟨A8,hA8⟩:∃A8,A8=A9:=⟨_,rfl⟩;subst hA8;obtain⟨c8,hc8⟩:∃c8,c8=c9:=⟨_,rfl⟩;subst hc8;refine CW.bO 3 (HP.row 3 1 A8 (s.dn++(aj s.m.q s.tk s.b.q s.rs (k+1)).2.2).length c8 (ints (s.dn++(aj s.m.q s.tk s.b.q s.rs (k+1)).2.2))) rfl K11 ?_;refine CW.fk {s with rs:=(aj s.m.q s.tk s.b.q s.rs (k+1)).2.1,b:=b9,dn:=s.dn++(aj s.m.q s.tk s.b.q s.rs (k+1)).2.2,A2:=A8,c2:=c8} 2 1 1 0 rfl rfl rfl rfl K12 K13 (aq (fl Hd.cs) hd9) ?_)|(have hf:=pt (m:=s.m.q) (t:=s.tk) (b:=b2.q) (r:=(Cr.at_ s.rs k)) K8;obtain⟨hd9,hn9,hs9⟩:=cH K1 hb2 s.dn hf;obtain⟨b9,hb9⟩:∃b9,b9=b2:=⟨_,rfl⟩;subst hb9;obtain⟨A8,hA8⟩:∃A8,A8=A9:=⟨_,rfl⟩;subst hA8;obtain⟨c8,hc8⟩:∃c8,c8=c9:=⟨_,rfl⟩;subst hc8;refine CW.bO 3 (HP.row 3 1 A8 (s.dn++(aj s.m.q s.tk s.b.q s.rs (k+1)).2.2).length c8 (ints (s.dn++(aj s.m.q s.tk s.b.q s.rs (k+1)).2.2))) rfl K11 ?_;refine CW.fk {s with rs:=(aj s.m.q s.tk s.b.q s.rs (k+1)).2.1,b:=b9,dn:=s.dn++(aj s.m.q s.tk s.b.q s.rs (k+1)).2.2,A2:=A8,c2:=c8} 2 1 1 0 rfl rfl rfl rfl K12 K13 (aq (fl Hd.cs) hd9) ?_)
     refine Zr (k:=Z3q (k:=?_));omega
   try exact⟨⟩
   all_goals
    refine Z4u ?_;intros;have hst36:(Cr.at_ s.rs k).st=3\/(Cr.at_ s.rs k).st=6:=K1;have hB:=fun h=>Oo (m:=s.m.q) (t:=s.tk) (b:=b2.q) (r:=(Cr.at_ s.rs k)) K2 hst36 h;refine Zc ?_ ?_
    ·refine Z4u ?_;intros;first|(have hf:=hD;obtain⟨hd9,hn9,hs9⟩:=jQ K1 hb2 s.dn hf;have hn9:=hb3.trans hn9;obtain⟨b9,hb9⟩:∃b9,b9=b3:=⟨_,rfl⟩;subst hb9;obtain⟨A8,hA8⟩:∃A8,A8=A2:=⟨_,rfl⟩;subst hA8;obtain⟨c8,hc8⟩:∃c8,c8=c2:=⟨_,rfl⟩;subst hc8;refine CW.bO 2 (HP.row 3 1 A8 (s.dn++(aj s.m.q s.tk s.b.q s.rs (k+1)).2.2).length c8 (ints (s.dn++(aj s.m.q s.tk s.b.q s.rs (k+1)).2.2))) rfl K11 ?_;refine CW.fk {s with rs:=(aj s.m.q s.tk s.b.q s.rs (k+1)).2.1,b:=b9,dn:=s.dn++(aj s.m.q s.tk s.b.q s.rs (k+1)).2.2,A2:=A8,c2:=c8} 2 1 1 0 rfl rfl rfl rfl K12 K13 (aq (fl Hd.cs) hd9) ?_)|(have hf:=hC;obtain⟨hd9,hn9,hs9⟩:=cH K1 hb2 s.dn hf;have hn9:=hb3.trans hn9;obtain⟨b9,hb9⟩:∃b9,b9=b3:=⟨_,rfl⟩;subst hb9;obtain⟨A8,hA8⟩:∃A8,A8=A9:=⟨_,rfl⟩;subst hA8;obtain⟨c8,hc8⟩:∃c8,c8=c9:=⟨_,rfl⟩;subst hc8;refine CW.bO 4 (HP.row 3 1 A8 (s.dn++(aj s.m.q s.tk s.b.q s.rs (k+1)).2.2).length c8 (ints (s.dn++(aj s.m.q s.tk s.b.q s.rs (k+1)).2.2))) rfl K11 ?_;refine CW.fk {s with rs:=(aj s.m.q s.tk s.b.q s.rs (k+1)).2.1,b:=b9,dn:=s.dn++(aj s.m.q s.tk s.b.q s.rs (k+1)).2.2,A2:=A8,c2:=c8} 1 2 1 0 rfl rfl rfl rfl K12 K13 (aq (fl Hd.cs) hd9) ?_)|(have hf:=hB K2;obtain⟨hd9,hn9,hs9⟩:=cH K1 hb2 s.dn hf;obtain⟨b9,hb9⟩:∃b9,b9=b2:=⟨_,rfl⟩;subst hb9;obtain⟨A8,hA8⟩:∃A8,A8=A9:=⟨_,rfl⟩;subst hA8;obtain⟨c8,hc8⟩:∃c8,c8=c9:=⟨_,rfl⟩;subst hc8;refine CW.bO 3 (HP.row 3 1 A8 (s.dn++(aj s.m.q s.tk s.b.q s.rs (k+1)).2.2).length c8 (ints (s.dn++(aj s.m.q s.tk s.b.q s.rs (k+1)).2.2))) rfl K11 ?_;refine CW.fk {s with rs:=(aj s.m.q s.tk s.b.q s.rs (k+1)).2.1,b:=b9,dn:=s.dn++(aj s.m.q s.tk s.b.q s.rs (k+1)).2.2,A2:=A8,c2:=c8} 2 1 1 0 rfl rfl rfl rfl K12 K13 (aq (fl Hd.cs) hd9) ?_)|(have hf:=pt (m:=s.m.q) (t:=s.tk) (b:=b2.q) (r:=(Cr.at_ s.rs k)) K8;obtain⟨hd9,hn9,hs9⟩:=cH K1 hb2 s.dn hf;obtain⟨b9,hb9⟩:∃b9,b9=b2:=⟨_,rfl⟩;subst hb9;obtain⟨A8,hA8⟩:∃A8,A8=A9:=⟨_,rfl⟩;subst hA8;obtain⟨c8,hc8⟩:∃c8,c8=c9:=⟨_,rfl⟩;subst hc8;refine CW.bO 3 (HP.row 3 1 A8 (s.dn++(aj s.m.q s.tk s.b.q s.rs (k+1)).2.2).length c8 (ints (s.dn++(aj s.m.q s.tk s.b.q s.rs (k+1)).2.2))) rfl K11 ?_;refine CW.fk {s with rs:=(aj s.m.q s.tk s.b.q s.rs (k+1)).2.1,b:=b9,dn:=s.dn++(aj s.m.q s.tk s.b.q s.rs (k+1)).2.2,A2:=A8,c2:=c8} 2 1 1 0 rfl rfl rfl rfl K12 K13 (aq (fl Hd.cs) hd9) ?_)
     refine Zr (k:=Z3q (k:=?_));omega
    refine Z4t ?_;intro hc;refine ZG (k:=?_);refine OW.put 56 (U ((Cr.at_ s.rs k).st+1)) rfl (aq (Value.int .u8) (by rw[IntKind.wrap_u8];omega)) ?_
    refine Zd ?_ ?_
    ·try exact⟨⟩
     all_goals
      refine Z4u ?_;intros;have hC:=SC (m:=s.m.q) (t:=s.tk) (b:=b2.q) (r:=(Cr.at_ s.rs k)) hbk K2 K1 K1;refine CW.gx (T:=[20]) mixed [0,0] rfl ?_;iterate 14 refine Z4v ?_
      refine Z2p (k:=?_);refine Zg @Oq ?_;refine Z4w ?_;iterate 5 refine Z4v ?_
      intro b3 hb3;refine E.AW.jK 20 K0 rfl K0 ?_;refine Z4u ?_;first|(have hf:=hD;obtain⟨hd9,hn9,hs9⟩:=jQ K1 hb2 s.dn hf;have hn9:=hb3.trans hn9;obtain⟨b9,hb9⟩:∃b9,b9=b3:=⟨_,rfl⟩;subst hb9;obtain⟨A8,hA8⟩:∃A8,A8=A2:=⟨_,rfl⟩;subst hA8;obtain⟨c8,hc8⟩:∃c8,c8=c2:=⟨_,rfl⟩;subst hc8;refine CW.bO 2 (HP.row 3 1 A8 (s.dn++(aj s.m.q s.tk s.b.q s.rs (k+1)).2.2).length c8 (ints (s.dn++(aj s.m.q s.tk s.b.q s.rs (k+1)).2.2))) rfl K11 ?_;refine CW.fk {s with rs:=(aj s.m.q s.tk s.b.q s.rs (k+1)).2.1,b:=b9,dn:=s.dn++(aj s.m.q s.tk s.b.q s.rs (k+1)).2.2,A2:=A8,c2:=c8} 2 1 1 0 rfl rfl rfl rfl K12 K13 (aq (fl Hd.cs) hd9) ?_)|(have hf:=hC;obtain⟨hd9,hn9,hs9⟩:=cH K1 hb2 s.dn hf;have hn9:=hb3.trans hn9;obtain⟨b9,hb9⟩:∃b9,b9=b3:=⟨_,rfl⟩;subst hb9;obtain⟨A8,hA8⟩:∃A8,A8=A9:=⟨_,rfl⟩;subst hA8;obtain⟨c8,hc8⟩:∃c8,c8=c9:=⟨_,rfl⟩;subst hc8;refine CW.bO 4 (HP.row 3 1 A8 (s.dn++(aj s.m.q s.tk s.b.q s.rs (k+1)).2.2).length c8 (ints (s.dn++(aj s.m.q s.tk s.b.q s.rs (k+1)).2.2))) rfl K11 ?_;refine CW.fk {s with rs:=(aj s.m.q s.tk s.b.q s.rs (k+1)).2.1,b:=b9,dn:=s.dn++(aj s.m.q s.tk s.b.q s.rs (k+1)).2.2,A2:=A8,c2:=c8} 1 2 1 0 rfl rfl rfl rfl K12 K13 (aq (fl Hd.cs) hd9) ?_)|(have hf:=hB K2;obtain⟨hd9,hn9,hs9⟩:=cH K1 hb2 s.dn hf;obtain⟨b9,hb9⟩:∃b9,b9=b2:=⟨_,rfl⟩;subst hb9;obtain⟨A8,hA8⟩:∃A8,A8=A9:=⟨_,rfl⟩;subst hA8;obtain⟨c8,hc8⟩:∃c8,c8=c9:=⟨_,rfl⟩;subst hc8;refine CW.bO 3 (HP.row 3 1 A8 (s.dn++(aj s.m.q s.tk s.b.q s.rs (k+1)).2.2).length c8 (ints (s.dn++(aj s.m.q s.tk s.b.q s.rs (k+1)).2.2))) rfl K11 ?_;refine CW.fk {s with rs:=(aj s.m.q s.tk s.b.q s.rs (k+1)).2.1,b:=b9,dn:=s.dn++(aj s.m.q s.tk s.b.q s.rs (k+1)).2.2,A2:=A8,c2:=c8} 2 1 1 0 rfl rfl rfl rfl K12 K13 (aq (fl Hd.cs) hd9) ?_)|(have hf:=pt (m:=s.m.q) (t:=s.tk) (b:=b2.q) (r:=(Cr.at_ s.rs k)) K8;obtain⟨hd9,hn9,hs9⟩:=cH K1 hb2 s.dn hf;obtain⟨b9,hb9⟩:∃b9,b9=b2:=⟨_,rfl⟩;subst hb9;obtain⟨A8,hA8⟩:∃A8,A8=A9:=⟨_,rfl⟩;subst hA8;obtain⟨c8,hc8⟩:∃c8,c8=c9:=⟨_,rfl⟩;subst hc8;refine CW.bO 3 (HP.row 3 1 A8 (s.dn++(aj s.m.q s.tk s.b.q s.rs (k+1)).2.2).length c8 (ints (s.dn++(aj s.m.q s.tk s.b.q s.rs (k+1)).2.2))) rfl K11 ?_;refine CW.fk {s with rs:=(aj s.m.q s.tk s.b.q s.rs (k+1)).2.1,b:=b9,dn:=s.dn++(aj s.m.q s.tk s.b.q s.rs (k+1)).2.2,A2:=A8,c2:=c8} 2 1 1 0 rfl rfl rfl rfl K12 K13 (aq (fl Hd.cs) hd9) ?_)
      refine Zr (k:=Z3q (k:=?_));omega
    try exact⟨⟩
    all_goals
     refine Z4u ?_;intros;have hD:=Un (m:=s.m.q) (t:=s.tk) (b:=b2.q) (r:=(Cr.at_ s.rs k)) hbk K2 K1 K1;refine CW.gx (T:=[25]) mixed [0,0] rfl ?_;iterate 18 refine Z4v ?_
     refine E.AW.put 104 (V s.tk) rfl rfl ?_;refine Z4v ?_;refine E.AW.one 19 K0 rfl ?_;refine Zg @RL ?_;refine Z4w ?_;iterate 5 refine Z4v ?_
     intro b3 hb3;refine E.AW.jK 25 K0 rfl K0 ?_;refine Z4u ?_;refine CW.gx (T:=[14]) mixed [0,1] rfl ?_;iterate 10 refine Z4v ?_
     refine Z4H ?_;refine OW.buildSlice (Et:=3) (sz:=1) (ps:=[(0,.tmp 120)]) rfl rfl rfl rfl rfl K7 K4 (fun w=>df _ w) (fun A1=>?_);refine Zj (k:=ZU (k:=?_));refine OW.ga (j:=0) (i:=4) Ux Jx rfl rfl rfl rfl rfl rfl rfl rfl rfl rfl K3 (fun A2 c2=>?_);refine Z4w ?_;iterate 2 refine Z4v ?_
     refine E.AW.jK 14 K0 rfl K0 ?_;refine Zr (k:=Z3p (k:=Z4u ?_));first|(have hf:=hD;obtain⟨hd9,hn9,hs9⟩:=jQ K1 hb2 s.dn hf;have hn9:=hb3.trans hn9;obtain⟨b9,hb9⟩:∃b9,b9=b3:=⟨_,rfl⟩;subst hb9;obtain⟨A8,hA8⟩:∃A8,A8=A2:=⟨_,rfl⟩;subst hA8;obtain⟨c8,hc8⟩:∃c8,c8=c2:=⟨_,rfl⟩;subst hc8;refine CW.bO 2 (HP.row 3 1 A8 (s.dn++(aj s.m.q s.tk s.b.q s.rs (k+1)).2.2).length c8 (ints (s.dn++(aj s.m.q s.tk s.b.q s.rs (k+1)).2.2))) rfl K11 ?_;refine CW.fk {s with rs:=(aj s.m.q s.tk s.b.q s.rs (k+1)).2.1,b:=b9,dn:=s.dn++(aj s.m.q s.tk s.b.q s.rs (k+1)).2.2,A2:=A8,c2:=c8} 2 1 1 0 rfl rfl rfl rfl K12 K13 (aq (fl Hd.cs) hd9) ?_)|(have hf:=hC;obtain⟨hd9,hn9,hs9⟩:=cH K1 hb2 s.dn hf;have hn9:=hb3.trans hn9;obtain⟨b9,hb9⟩:∃b9,b9=b3:=⟨_,rfl⟩;subst hb9;obtain⟨A8,hA8⟩:∃A8,A8=A9:=⟨_,rfl⟩;subst hA8;obtain⟨c8,hc8⟩:∃c8,c8=c9:=⟨_,rfl⟩;subst hc8;refine CW.bO 4 (HP.row 3 1 A8 (s.dn++(aj s.m.q s.tk s.b.q s.rs (k+1)).2.2).length c8 (ints (s.dn++(aj s.m.q s.tk s.b.q s.rs (k+1)).2.2))) rfl K11 ?_;refine CW.fk {s with rs:=(aj s.m.q s.tk s.b.q s.rs (k+1)).2.1,b:=b9,dn:=s.dn++(aj s.m.q s.tk s.b.q s.rs (k+1)).2.2,A2:=A8,c2:=c8} 1 2 1 0 rfl rfl rfl rfl K12 K13 (aq (fl Hd.cs) hd9) ?_)|(have hf:=hB K2;obtain⟨hd9,hn9,hs9⟩:=cH K1 hb2 s.dn hf;obtain⟨b9,hb9⟩:∃b9,b9=b2:=⟨_,rfl⟩;subst hb9;obtain⟨A8,hA8⟩:∃A8,A8=A9:=⟨_,rfl⟩;subst hA8;obtain⟨c8,hc8⟩:∃c8,c8=c9:=⟨_,rfl⟩;subst hc8;refine CW.bO 3 (HP.row 3 1 A8 (s.dn++(aj s.m.q s.tk s.b.q s.rs (k+1)).2.2).length c8 (ints (s.dn++(aj s.m.q s.tk s.b.q s.rs (k+1)).2.2))) rfl K11 ?_;refine CW.fk {s with rs:=(aj s.m.q s.tk s.b.q s.rs (k+1)).2.1,b:=b9,dn:=s.dn++(aj s.m.q s.tk s.b.q s.rs (k+1)).2.2,A2:=A8,c2:=c8} 2 1 1 0 rfl rfl rfl rfl K12 K13 (aq (fl Hd.cs) hd9) ?_)|(have hf:=pt (m:=s.m.q) (t:=s.tk) (b:=b2.q) (r:=(Cr.at_ s.rs k)) K8;obtain⟨hd9,hn9,hs9⟩:=cH K1 hb2 s.dn hf;obtain⟨b9,hb9⟩:∃b9,b9=b2:=⟨_,rfl⟩;subst hb9;obtain⟨A8,hA8⟩:∃A8,A8=A9:=⟨_,rfl⟩;subst hA8;obtain⟨c8,hc8⟩:∃c8,c8=c9:=⟨_,rfl⟩;subst hc8;refine CW.bO 3 (HP.row 3 1 A8 (s.dn++(aj s.m.q s.tk s.b.q s.rs (k+1)).2.2).length c8 (ints (s.dn++(aj s.m.q s.tk s.b.q s.rs (k+1)).2.2))) rfl K11 ?_;refine CW.fk {s with rs:=(aj s.m.q s.tk s.b.q s.rs (k+1)).2.1,b:=b9,dn:=s.dn++(aj s.m.q s.tk s.b.q s.rs (k+1)).2.2,A2:=A8,c2:=c8} 2 1 1 0 rfl rfl rfl rfl K12 K13 (aq (fl Hd.cs) hd9) ?_)
     refine Zr (k:=Z3q (k:=?_));omega
 refine Zl ?_;intros;have hkk:k=s.rs.length:=K1;subst hkk;exact⟨b2,A9,c9,by rw[uN],by rw[hb2,uN]⟩
end Go.Proofs.YtcgecopggfjojaaGreatDoor
