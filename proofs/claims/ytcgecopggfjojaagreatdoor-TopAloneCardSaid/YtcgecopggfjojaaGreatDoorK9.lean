/- Part 9: the logic, the plain laws and the walks behind TopAlone (lemmas only; each says its own conditions). -/
import Derived.Test.YtcgecopggfjojaaGreatDoorK8
set_option maxRecDepth 100000
set_option linter.all false
set_option maxHeartbeats 0
namespace Go.Proofs.YtcgecopggfjojaaGreatDoor
open Go Go.RowKit Go.Proofs.Tryz E Fl Cf Od Bf Cr Rt Tr Gw Dg Au Wi
attribute [local irreducible] E.CW E.OW E.QW E.AW E.lJ E.blockK E.PV
def Iy(g:aP)(p:Int)(w0:World)(hg:g.rd w0 (Old w0))(hgf:g.q.fit):
  CV 77 #[g.v,J p] w0 (J (Rt.owner g.q p)):=by
 obtain⟨hX1,hX2,hX3,hX4⟩:=id hg;have hgl:=aP.cj hgf;refine Zq ?_;refine Zg @OL ?_;refine Zc ?_ ?_
 ·refine Zk ?_;intros;exact⟨(aq (Value.int .i64) (show Rt.owner g.q p= -1 from ae (show¬(Fl.owner g.a g.b g.l p).2=0 by assumption))).symm,rfl⟩
 refine Zk ?_;intros;exact⟨(aq (Value.int .i64) (show Rt.owner g.q p=(Fl.owner g.a g.b g.l p).1 from aa (show(Fl.owner g.a g.b g.l p).2=0 by assumption))).symm,rfl⟩
def W8(g:aP)(t:Int)(w0:World)(hg:g.rd w0 (Old w0))(hgf:g.q.fit)(hcz:Cf.check g.q=0):
  CV 107 #[g.v,J t] w0 (.tuple #[.bool (ag g.q.ts t),J (pe g.q.ts t)]):=by
 have h:=Gn g t w0 hg hgf;rw[aek hcz] at h;exact h
def Ep(g:aP)(t tick:Int)(w0:World)(hg:g.rd w0 (Old w0))(hgf:g.q.fit)(ht:0<=tick/\tick<18446744073709551616):
  CV 75 #[g.v,J t,V tick] w0 (J (asked g.q t tick)):=by
 obtain⟨hX1,hX2,hX3,hX4⟩:=id hg;have hgl:=aP.cj hgf;refine Zq ?_;refine Zg @o0 ?_;refine Zc ?_ ?_
 ·refine Zk ?_;intros;exact⟨by rw[La K2],rfl⟩
 refine Z4u ?_;intro _ hc;have hcz:Cf.check g.q=0:=by assumption
 refine Zg @W8 ?_;refine Zs ?_ ?_;all_goals first|(refine Zt ?_ ?_<;>try exact⟨⟩)|((iterate 4 (refine Z4x ?_;intros)))|skip
 all_goals
  refine Zd ?_ ?_
  ·try exact⟨⟩
   all_goals
    refine Zk ?_;intros;exact⟨by rw[KC hcz (by first|(left;assumption)|(left;exact Qj (by assumption))|(right;omega))],rfl⟩
  try exact⟨⟩
  all_goals
   refine Zk ?_;intros;exact⟨by rw[jk hcz K2 K1],rfl⟩
def ada(g:aP)(t p tick:Int)(w0:World)(hg:g.rd w0 (Old w0))(hgf:g.q.fit)(ht:0<=tick/\tick<18446744073709551616):
  CV 305 #[g.v,J t,J p,V tick] w0 (.bool (gm g.q t p tick)):=by
 obtain⟨hX1,hX2,hX3,hX4⟩:=id hg;have hgl:=aP.cj hgf;refine Zq ?_;refine Zg @Iy ?_;refine Zc ?_ ?_
 ·refine Zk ?_;intros;exact⟨(aq (Value.bool) (show gm g.q t p tick=true from aa K2)).symm,rfl⟩
 refine Zc ?_ ?_
 ·refine Zg @nX ?_;refine Zs ?_ ?_
  all_goals
   refine Zk ?_;intros;exact⟨aq Value.bool (by first|exact(Wc (by assumption) (by assumption) (by assumption)).symm|exact(ac9 (by assumption) (by assumption) (by assumption)).symm),rfl⟩
 refine Zk ?_;intros;exact⟨(aq (Value.bool) (show gm g.q t p tick=false from(ae K2).trans (ae K2))).symm,rfl⟩
def ab6(g:aP)(t a b tick:Int)(w0:World)(hg:g.rd w0 (Old w0))(hgf:g.q.fit)(ht:0<=tick/\tick<18446744073709551616):
  CV 260 #[g.v,J t,.agg #[J a,J b],V tick] w0 (J (gC g.q t a b tick)):=by
 obtain⟨hX1,hX2,hX3,hX4⟩:=id hg;have hgl:=aP.cj hgf;refine Zq ?_;refine Zg @Ep ?_;refine Zc ?_ ?_
 ·refine Zk ?_;intros;exact⟨(aq (Value.int .i64) (show gC g.q t a b tick=asked g.q t tick from ae K2)).symm,rfl⟩
 refine Z4u ?_;intro _ _ hc;have haz:asked g.q t tick=0:=by assumption
 refine Zg @Iy ?_;refine Zg @Iy ?_;refine Zs ?_ ?_;all_goals first|(refine Zt ?_ ?_<;>try exact⟨⟩)|((iterate 4 (refine Z4x ?_;intros)))|skip
 all_goals
  refine Zd ?_ ?_
  ·try exact⟨⟩
   all_goals
    refine Zk ?_;intros;exact⟨(aq (Value.int .i64) (show gC g.q t a b tick=2 from(aa haz).trans (ae (by simp[Rt.lM, *])))).symm,rfl⟩
  try exact⟨⟩
  all_goals
   refine Zk ?_;intros;exact⟨(aq (Value.int .i64) (show gC g.q t a b tick=0 from(aa haz).trans (aa (by simp[Rt.lM, *])))).symm,rfl⟩
def acO(g:aP)(t p tick:Int)(w0:World)(hg:g.rd w0 (Old w0))(hgf:g.q.fit)(ht:0<=tick/\tick<18446744073709551616):
  CV 289 #[g.v,J t,J p,V tick] w0 (.tuple #[.bool (allowed g.q t p tick).1,J (allowed g.q t p tick).2]):=by
 obtain⟨hX1,hX2,hX3,hX4⟩:=id hg;have hgl:=aP.cj hgf;refine Zq ?_;refine Zg @Ep ?_;refine Zc ?_ ?_
 ·refine Zk ?_;intros;exact⟨by rw[WG K2],rfl⟩
 refine Z4u ?_;intro _ hc;have haz:asked g.q t tick=0:=by assumption
 refine Zs ?_ ?_
 all_goals
  refine Zd ?_ ?_
  ·try exact⟨⟩
   all_goals
    refine Zk ?_;intros;exact⟨by rw[X7 haz (by show¬(0<=p/\p<(g.l.length:Int));omega)],rfl⟩
  try exact⟨⟩
  all_goals
   refine Zg @ada ?_;refine Zk ?_;intros;exact⟨by rw[Ct haz (by show 0<=p/\p<(g.l.length:Int);omega)],rfl⟩
def acP(a b:Int)(A:am)(c:Nat)(l:ap)(p:Int)(w0:World):
  CO 78 #[.agg #[J a,J b,.slice A l.length c],J p] w0 fun v Hn=>∃Bp Bf,v=.func (.func 109) #[] #[Y Bp 0,Y Bf 0]/\Hn=[HP.aw Bp 3 [J p],HP.aw Bf 24 [J a,J b,.slice A l.length c]]:=by
 refine Zq ?_;refine Z4t ?_;intros;refine Z1e (k:=?_);exact⟨_,_,rfl,rfl⟩
def aac(a b p:Int)(Z:Value)(Bp Bf L:Nat)(q:bv->HP)(S:Nat->Prop)(w0:World)(hhas:Fl.has a b p=true)(hY:YF prog L q (iN a b p))(hS:(q []).bA S w0)(hb:∀k,S k->k<w0.heap.size)(hp:Rd w0 (Fm w0 S) (some ⟨Bp,0,none⟩) [J p])(hf:Rd w0 (Fm w0 S) (some ⟨Bf,0,none⟩) [J a,J b,Z]):
  CF 109 #[.func (.yield L) #[] #[],Y Bp 0,Y Bf 0] w0 S fun v Hn=>Hn=[q (iN a b p)]:=by
 refine Zp (HA.au hS hb) ?_;refine Z4t ?_;refine OW.yield rfl rfl rfl rfl rfl rfl hY 0 rfl (FM a b p) ?_;refine Z4t ?_;refine CW.av [0,1,2] 1 rfl rfl (fun mm mods Hm=>∃d:Nat,mm=4-d/\mods=[(4,J d)]/\Hm=[q (gG a b p d)]/\d<=4) (4) ?_ ?_
 ·exact⟨[(4,_)],Kc,0,rfl,rfl,rfl,K1⟩
 rintro _ _ _ ⟨d,rfl,rfl,rfl,hd⟩;refine Zc ?_ ?_
 ·refine Z4t ?_;intro hc;rcases OT (p:=p) hhas (show 0<=(d:Int)/\(d:Int)<4 by omega) with⟨hm,hst⟩|⟨hm,hst⟩
  ·refine Zg @Gs ?_;refine Z4u ?_;try(have hm2:0<=Fl.mv a b p d:=hm;obtain⟨r,hr⟩:=H0 (show d<4 by omega) hm2;rw[show Fl.mv a b p d=(Fl.step a b p d).1 from by rw[hst]] at hr)
   refine Z4z ?_;iterate 3 refine Z4x ?_
   refine OW.put 27 (.bool true) rfl (aq Value.bool (by rw[hst];rfl)) ?_
   refine Z4t ?_;refine OW.yield rfl rfl rfl rfl rfl rfl hY 0 rfl hr ?_;refine Zr (k:=Z2c (k:=?_));omega
  refine Zg @Gs ?_;refine Z4u ?_;try(have hm2:0<=Fl.mv a b p d:=hm;obtain⟨r,hr⟩:=H0 (show d<4 by omega) hm2;rw[show Fl.mv a b p d=(Fl.step a b p d).1 from by rw[hst]] at hr)
  refine Z4z ?_;iterate 3 refine Z4x ?_
  refine OW.put 27 (.bool false) rfl (aq Value.bool (by rw[hst];rfl)) ?_
  refine Zr (k:=Z2c (k:=?_));omega
 refine Zl ?_;intros;obtain rfl:d=4:=K1;exact rfl
def Sd(B:Nat)(q:List (Nat×Nat))(h p k:Nat)(S:Nat->Prop)(w0:World)(hS:(HP.MP B q h).bA S w0)(hb:∀k,S k->k<w0.heap.size)(hq:q.length<=2000):
  CF 112 #[Y B 0,.agg #[J (p:Int),J (k:Int)]] w0 S fun v Hn=>Hn=[HP.MP B (q++[(p,k)]) (h)]:=by
 refine Zp (HA.au hS hb) ?_;refine Z4u ?_;refine CW.Po 0 rfl (fun AQ cQ=>?_);refine Z4y ?_;intros;refine Z4R ?_;iterate 5 refine Z4v ?_
 refine E.AW.two 4 6 K0 rfl rfl ?_ ?_
 focus
  refine Zo (k:=Zj (k:=Z4N ?_));refine OW.buildSlice (Et:=238) (sz:=2) (ps:=[(0,.tmp 9)]) rfl rfl rfl rfl rfl K7 K4 (fun w=>vF w) (fun A2=>?_);refine Zj (k:=Z4O ?_);refine OW.append (i:=3) Ux Jx rfl rfl K6 rfl rfl rfl rfl rfl rfl rfl (iH (i:=0) rfl) K15 K16 K4 K3 (fun A3 c3=>?_);refine Z4w ?_;iterate 3 refine Z4v ?_
  refine Z2d (k:=Z4v ?_)
 rotate_right
 focus
  refine OW.buildSlice (Et:=238) (sz:=2) (ps:=[(0,.tmp 9)]) rfl rfl rfl rfl rfl K7 K4 (fun w=>vF w) (fun A4=>?_);refine Zj (k:=Za (k:=Z4O ?_));refine OW.append (i:=3) Ux Jx rfl rfl K6 rfl rfl rfl rfl rfl rfl rfl (iH (i:=0) rfl) K15 K16 K4 K3 (fun A5 c5=>?_);refine Z4w ?_;iterate 3 refine Z4v ?_
  refine Z2d (k:=Z4v ?_)
 all_goals
  refine Zl ?_;exact rfl
def V2(B:Nat)(q:List (Nat×Nat))(h:Nat)(S:Nat->Prop)(w0:World)(hS:(HP.MP B q h).bA S w0)(hb:∀k,S k->k<w0.heap.size)(hq:q.length<=2000):
  CF 113 #[Y B 0] w0 S fun v Hn=>∃(b:Bool) (x1 x2:Int) (h2:Nat),v=.tuple #[.agg #[J x1,J x2],.bool b]/\Hn=[HP.MP B (q) (h2)]/\((b=true/\h<q.length/\x1=((Bf.at_ q h).1:Int)/\x2=((Bf.at_ q h).2:Int)/\h2=h+1)\/(b=false/\q.length<=h/\h2=h)):=by
 have hqi:=I5 q;refine Zp (HA.au hS hb) ?_;refine Z4u ?_;refine CW.Po 0 rfl (fun AQ cQ=>?_);refine Zy (k:=Z4y ?_);intros;refine Z0 (k:=?_);refine Zc ?_ ?_
 ·refine Zx (k:=Z4J ?_);intros;refine OW.kz (pd (q:=q) (h:=h) 2 2 rfl rfl rfl rfl) ?_;refine Zl ?_;exact⟨false,0,0,h,rfl,rfl,.inr ⟨rfl,K1,rfl⟩⟩
 refine Z4u ?_;intros;refine CW.dV mixed [2,2] rfl ?_;refine Zx (k:=Zy (k:=Z4J ?_));intros;refine OW.kz (pd (q:=q) (h:=h+1) 1 3 rfl rfl rfl rfl) ?_;refine Zl ?_;exact⟨true,_,_,h+1,rfl,rfl,.inl ⟨rfl,K1,aq Prod.fst (Pg q h),aq Prod.snd (Pg q h),rfl⟩⟩
def PE(y:Pl)(D:DD)(Bx B h p k:Nat)(q:List (Nat×Nat))(m:Int)(S:Nat->Prop)(w0:World)(hS:(HP.dj [HP.MP B q h,HP.fP y D]).bA S w0)(hb:∀k,S k->k<w0.heap.size)(hr:y.rC w0 (Fm w0 S))(hbx:Rd w0 (Fm w0 S) (some ⟨Bx,0,none⟩) [y.v])(hk:k<y.x.K)(hp:p<y.x.n)(hq:q.length<=2000):
  CF 111 #[J (p:Int),J (k:Int),J m,Y Bx 0,Y B 0] w0 S fun v Hn=>Hn=[HP.MP B (sB y.x D q p k) h,HP.fP y (oK D p k m)]:=by
 refine Zp (HA.au hS hb) ?_;refine Zx (k:=Z24 (k:=Zr (k:=Z2e (k:=Z2f (k:=Zr (k:=Z2g (k:=Z2h (k:=?_))))))));refine Zc ?_ ?_
 ·refine Z4t ?_;intro hc;refine Z2e (k:=Z2f (k:=Zr (k:=Z2g (k:=?_))));refine OW.Ew (i:=1) Js rfl rfl rfl rfl rfl rfl K1 K1 ?_;refine Z4u ?_;refine CW.conv (cg 0 (HP.fP y (Bf.eh D k p m)) rfl (MH y D k p m)) ?_;refine Z1I (k:=Zr (k:=Z2i (k:=Z2j (k:=Zr (k:=Z2k (k:=Z2l (k:=?_)))))));refine Zc ?_ ?_
  ·refine Zh @Sd ?_;refine Z4t ?_;intros;refine Z2m (k:=?_);by_cases hd:D k p<0
   ·by_cases ha:y.x.al k p=true
    ·have e:=EC (x:=y.x) (q:=q) (m:=m) hd ha;rw[e.1,e.2];all_goals first|rfl|(exfalso;simp_all;done)|(exfalso;omega)
    have e:=zC (x:=y.x) (q:=q) (m:=m) hd (k8.2 ha);rw[e.1,e.2];all_goals first|rfl|(exfalso;simp_all;done)|(exfalso;omega)
   have e:=E7 (x:=y.x) (q:=q) (m:=m) hd;rw[e.1,e.2];all_goals first|rfl|(exfalso;omega)
  refine Z4t ?_;intros;refine Z2m (k:=?_);by_cases hd:D k p<0
  ·by_cases ha:y.x.al k p=true
   ·have e:=EC (x:=y.x) (q:=q) (m:=m) hd ha;rw[e.1,e.2];all_goals first|rfl|(exfalso;simp_all;done)|(exfalso;omega)
   have e:=zC (x:=y.x) (q:=q) (m:=m) hd (k8.2 ha);rw[e.1,e.2];all_goals first|rfl|(exfalso;simp_all;done)|(exfalso;omega)
  have e:=E7 (x:=y.x) (q:=q) (m:=m) hd;rw[e.1,e.2];all_goals first|rfl|(exfalso;omega)
 refine Z4t ?_;intros;refine Z2m (k:=?_);by_cases hd:D k p<0
 ·by_cases ha:y.x.al k p=true
  ·have e:=EC (x:=y.x) (q:=q) (m:=m) hd ha;rw[e.1,e.2];all_goals first|rfl|(exfalso;simp_all;done)|(exfalso;omega)
  have e:=zC (x:=y.x) (q:=q) (m:=m) hd (k8.2 ha);rw[e.1,e.2];all_goals first|rfl|(exfalso;simp_all;done)|(exfalso;omega)
 have e:=E7 (x:=y.x) (q:=q) (m:=m) hd;rw[e.1,e.2];all_goals first|rfl|(exfalso;omega)
def RM(y:Pl)(S:Nat->Prop)(w0:World)(hS:(HP.fP y fun _ _=> -1).bA S w0)(hb:∀k,S k->k<w0.heap.size)(hr:y.rC w0 (Fm w0 S))(hok:y.x.ok)(hn:y.x.n<=64)(hK:y.x.K<=16)(hnl:∀p,(y.x.nr p).length<=5):
  CF 80 #[y.v,J (y.x.goal:Int)] w0 S fun v Hn=>∃D:DD,Hn=[HP.fP y D]/\∀k p,k<y.x.K->p<y.x.n->y.x.cell p=true->Bf.Ar y.x k p (D k p):=by
 obtain⟨M,hM⟩:∃M,y.x.n*y.x.K=M:=⟨_,rfl⟩;have hM2:M<=64*16:=hM▸iS hn hK;have hK0:=hok.K0;refine Zp (HA.au hS hb) ?_;refine Zx (k:=Zy (k:=Z4y ?_));intro B1 B2;refine CW.bM 238 2 ?_;refine CW.conv (pd (q:=[]) (h:=0) 1 0 rfl rfl rfl rfl) ?_;refine Z4t ?_;refine CW.sels [0,1,0] rfl ?_;refine CW.av [1,2,4,5,16] 2 rfl rfl (fun mm mods Hm=>∃j:Nat,∃D:DD,∃q:List (Nat×Nat),mm=y.x.K-j/\mods=[(17,J j)]/\Hm=[HP.MP B2 q 0,HP.fP y D]/\(j<=y.x.K/\Bf.Start y.x D q j)) (y.x.K) ?_ ?_
 ·exact⟨[(17,_)],Kc,0,_,_,rfl,rfl,rfl,K1,Bf.Start.zero y.x fun _ _=>rfl⟩
 rintro _ _ _ ⟨j,D,q,rfl,rfl,rfl,hj,hI⟩;refine Zc ?_ ?_
 ·have hql:=Bf.gj hI.b;refine Zx (k:=Z4y ?_);intro hc;refine CW.aX [0,0,0] 2 rfl rfl ?_;refine Z4t ?_;refine OW.vw Mx rfl rfl rfl rfl rfl rfl _ 0 rfl (fun w S2 hw hs hb2 hc=>PE y D B1 B2 0 y.x.goal j q 0 S2 w hs (fun k hk=>(hb2 k hk).1) (hw.abE hr hb2) (zu hc (i:=0) rfl) K1 hok.zh K1) ?_;rintro _ _ rfl;refine Z4t ?_;refine⟨_,[(17,_)],[0,0,0],[_,_],?_,Kc,rfl,j+1,_,_,rfl,rfl,rfl,K1,hI.Vb hok K1⟩;omega
 refine Z4t ?_;intro hc;refine CW.av [2,4,5] 2 rfl rfl (fun mm mods Hm=>∃h:Nat,∃D:DD,∃q:List (Nat×Nat),mm=M-h/\mods=[]/\Hm=[HP.MP B2 q h,HP.fP y D]/\(h<=q.length/\j8 y.x D q h/\∀k,k<y.x.K->D k y.x.goal=0)) (M) ?_ ?_
 ·exact⟨[],Kc,0,_,_,rfl,rfl,rfl,K1,hI.b,fun k hk=>hI.g k K1⟩
 rintro _ _ _ ⟨h,D,q,rfl,rfl,rfl,hhq,hB,hg⟩;have hql:=Bf.gj hB;rw[hM] at hql;refine Zh @V2 ?_;refine Zc ?_ ?_
 ·refine Z4t ?_;intro _ _ _ _ hpop _ hc;refine(KR.zero [2] rfl rfl ?_).2;rcases hpop with⟨hb1,_,_,_,_⟩|⟨_,hh,_⟩
  ·exfalso;simp_all
  obtain rfl:h=q.length:=K1;exact⟨_,rfl,fun k p hk hp hc=>hB.ar hok hg hk hp hc⟩
 refine Z4t ?_;intro _ _ _ hP hpop _ hc;rcases hpop with⟨_,hhl,rfl,rfl,rfl⟩|⟨hb1,_,_⟩
 rotate_left
 ·exfalso;simp_all
 obtain⟨s,hs⟩:∃s,Bf.at_ q h=s:=⟨_,rfl⟩;obtain⟨hs1,hs2,hs3,hs4⟩:=hB.mem _ (Bf.at_mem hhl);have hsd:=hB.bd _ _ hs2 hs1;rw[hs] at hs1 hs2 hs3 hs4 hsd⊢;refine Z0 (k:=Z4u ?_);refine CW.put 9 (J ((vZ y.x s.2:Nat):Int)) rfl (aq (Value.int .i64) (TZ hok s.2)) ?_;refine Z0 (k:=Z4t ?_);refine QW.pure rfl rfl rfl (PV.aY (AZ (yI hr)) Ux Jx rfl rfl rfl rfl K10 K1) ?_;refine QW.pure rfl rfl rfl (PV.Ig (AZ (yI hr)) Nx rfl rfl K1) ?_;refine Z4t ?_;refine CW.sels [1,1,0,0] rfl ?_;refine CW.av [2,4,5,7,9,51,52] 2 rfl rfl (fun mm mods Hm=>∃i:Nat,∃D:DD,∃q:List (Nat×Nat),mm=(y.x.nr s.1).length-i/\mods=[(53,J i)]/\Hm=[HP.MP B2 q (h+1),HP.fP y D]/\(i<=(y.x.nr s.1).length/\Bf.at_ q h=s/\Part y.x D q h i)) ((y.x.nr s.1).length) ?_ ?_
 ·exact⟨[(53,_)],Kc,0,_,_,rfl,rfl,rfl,K1,hs,hB.part hhl hg⟩
 rintro _ _ _ ⟨i,D,q,rfl,rfl,rfl,hi,hat,hP⟩;have hnl2:=hnl s.1;have hql2:=Bf.gj hP.b;rw[hM] at hql2;have hsd2:=hP.b.bd _ _ hs2 hs1;have hsl:=(hP.b.mem _ (Bf.at_mem hP.hl)).2.2.2;rw[hat] at hsl;refine Zc ?_ ?_
 ·refine Z4u ?_;intro hc;have hin:(y.x.nr s.1).getD i 0∈y.x.nr s.1:=by rw[aW,aC (show i<(y.x.nr s.1).length by omega),dW];exact lR _
  have hjn:=hok.rV _ _ hs1 hin;refine Zr (k:=Z2n (k:=Z2o (k:=Z4t ?_)));refine OW.pure rfl rfl rfl (PV.aY (ya (yI hr)) Ux Jx rfl rfl rfl rfl K10 K1) ?_;refine OW.pure rfl rfl rfl (PV.ni (ya (yI hr)) Nx rfl rfl K1) ?_;refine Zc ?_ ?_
  ·intro hc;refine CW.dV mixed [2,2] rfl ?_;iterate 9 refine Z4v ?_
   refine E.AW.first 9 rfl K0 K0 K0 rfl rfl rfl (PV.aY (Rs (yI hr)) Ux Jx rfl rfl rfl rfl K10 K1) ?_;refine E.AW.first 10 rfl K0 K0 K0 rfl rfl rfl (PV.nQ (Rs (yI hr)) Nx rfl rfl K1) ?_;iterate 2 refine Z4v ?_
   refine E.AW.one 13 K0 rfl ?_;refine Z2g (k:=Zj (k:=Z2p (k:=Z2h (k:=Zj (k:=Z4v ?_)))));refine E.AW.conv (ec [0,0,0,0] 2 rfl rfl) ?_;refine E.AW.one 16 K0 rfl ?_;refine OW.vw Mx rfl rfl rfl rfl rfl rfl _ 0 rfl (fun w S2 hw hs hb2 hc=>PE y D B1 B2 (h+1) ((y.x.nr s.1).getD i 0) (vZ y.x s.2) q (D s.2 s.1+1) S2 w hs (fun k hk=>(hb2 k hk).1) (hw.abE hr hb2) (zu hc (i:=1) rfl) (DV hok _) K2 K1) ?_;rintro _ _ rfl;refine Z4t ?_;refine⟨_,[(53,_)],[0,0,0,0],[_,_],?_,Kc,rfl,i+1,_,_,rfl,rfl,rfl,K1,(yU hP.hl).trans hat,(by have hx:=hP.Vb hok (by rw[hat];omega) (by rw[hat];assumption);rw[hat] at hx;exact hx)⟩
   omega
  refine Z4t ?_;intros;refine⟨_,[(53,_)],[0,0,0,0],[_,_],?_,Kc,rfl,i+1,_,_,rfl,rfl,rfl,K1,hat,hP.skip (by rw[hat];assumption)⟩
  omega
 refine Z4t ?_;intros;refine⟨_,[],[0,0,1],[_,_],?_,Kc,rfl,h+1,_,_,rfl,rfl,rfl,hP.hl,hP.done (by rw[hat];omega),hP.g⟩
 omega
def NY(g:aP)(t a b:Int)(w0:World)(hg:g.rd w0 (Old w0))(hgf:g.q.fit)(hL:sN g.q t a b):
  CO 46 #[g.v,J t,.agg #[J a,J b]] w0 fun v Hn=>∃(y:Pl) (D:DD),v=y.v/\Hn=[HP.jM y D]/\y.x=(Rt.G g.q t a b)/\∀k p,k<y.x.K->p<y.x.n->y.x.cell p=true->Bf.Ar y.x k p (D k p):=by
 obtain⟨hX1,hX2,hX3,hX4⟩:=id hg;have hgl:=aP.cj hgf;obtain⟨ht0,ht3,htn⟩:=hL.iF;have htl:t.toNat<g.ts.length:=by rw[<-aP.eJ g];exact htn
 have hn64:g.l.length<=64:=Rt.gj hL.c;have hs16:1<=g.s.length/\g.s.length<=16:=iV hL.c;have hra:0<=a/\a<(g.l.length:Int):=hL.ra;have hrb:0<=b/\b<(g.l.length:Int):=hL.rb;have hsp:bQ g.q t=(g.ts.getD t.toNat Tm.z).q:=aP.lz g _;have hspl:=Rt.se hL;rw[hsp] at hspl;refine uU (vs:=[g.v,J t,.agg #[J a,J b]]) (H:=[]) func46 ntmps46 rfl rfl (HA.start w0) ?_;refine Ze (k:=Z3 (k:=Z1i (k:=fun B1=>?_)));refine OW.box rfl rfl rfl rfl rfl rfl (fun B2=>?_);refine Zf (k:=Zi (k:=Zb (k:=Ze (k:=Z3 (k:=Z2q (k:=Z2q (k:=Z2r (k:=Z2s (k:=Zf (k:=Zi (k:=Z4B ?_)))))))))));refine CW.cut [1,3,5,7,9999] 0 rfl rfl (fun mods Hm=>∃Ac:am,∃An:am,∃PB:Nat,∃B8:Nat,mods=[(8,Y B8 0)]/\Hm=[HP.aw B8 121 [Y PB 0],HP.aw PB 120 [J (g.s.length:Int),.slice Ac g.l.length g.l.length,.slice none 0 0,.slice none 0 0,.slice An g.l.length g.l.length],HP.row 4 1 Ac g.l.length g.l.length (iO g.l.length (fun _=>false)),HP.row 63 1 An g.l.length g.l.length (ea g.l.length (fun _=>none) (fun _=>0) (fun _=>0))]/\True) ?_ ?_
 ·skip;refine ZQ (k:=?_)
  all_goals
   refine Z2t (k:=?_)
  all_goals
   refine Z2u (k:=?_)
  all_goals
   refine E.AW.first 2 rfl K0 K0 K0 rfl rfl rfl (PV.len Ux rfl rfl) ?_
  all_goals
   refine E.AW.first 3 rfl K0 K0 K0 rfl rfl rfl (PV.move rfl rfl) ?_
  all_goals
   refine Z2v (k:=?_)
  all_goals
   refine E.AW.three 4 6 9 K0 rfl rfl rfl ?_ ?_ ?_
   focus
    all_goals
     refine OW.gg _ Ux Jx rfl rfl rfl rfl rfl rfl rfl K4 K1 (fun A3=>?_)
    all_goals
     refine Z4C ?_
    all_goals
     refine E.AW.two 6 9 K0 rfl rfl ?_ ?_
     focus
      all_goals
       refine OW.pZ _ Ux Jx rfl rfl rfl rfl rfl rfl rfl K4 K1 (fun A4=>?_)
      all_goals
       refine Z4C ?_
      all_goals
       refine E.AW.first 7 rfl K0 K0 K0 rfl rfl rfl (PV.build (ps:=[(0,.tmp 29),(1,.tmp 31),(4,.tmp 33)]) rfl rfl (fun w=>(cY).h w)) ?_
      all_goals
       refine E.AW.two 8 9 K0 rfl rfl ?_ ?_
       focus
        all_goals
         refine OW.box rfl rfl rfl rfl rfl rfl (fun B5=>?_)
        all_goals
         refine Z4C ?_
        all_goals
         refine Z1d (k:=?_)
        all_goals
         refine OW.alloc (Jr) rfl rfl rfl rfl rfl (fun B6=>?_)
        all_goals
         refine Z4C ?_
        all_goals
         refine Z4H ?_
        all_goals
         refine Z2x (k:=?_)
        all_goals
         refine Z4C ?_
        all_goals
         refine Z4E ?_
       rotate_right
       focus
        all_goals
         refine OW.alloc (Jr) rfl rfl rfl rfl rfl (fun B7=>?_)
        all_goals
         refine Z4C ?_
        all_goals
         refine Z4D ?_
        all_goals
         refine OW.box rfl rfl rfl rfl rfl rfl (fun B8=>?_)
        all_goals
         refine Z4C ?_
        all_goals
         refine Z4H ?_
        all_goals
         refine Z2y (k:=?_)
        all_goals
         refine Z4C ?_
        all_goals
         refine Z4E ?_
     rotate_right
     focus
      all_goals
       refine OW.alloc (Jr) rfl rfl rfl rfl rfl (fun B9=>?_)
      all_goals
       refine Z4C ?_
      all_goals
       refine Z4N ?_
      all_goals
       refine OW.pZ _ Ux Jx rfl rfl rfl rfl rfl rfl rfl K4 K1 (fun A10=>?_)
      all_goals
       refine Z4C ?_
      all_goals
       refine E.AW.first 7 rfl K0 K0 K0 rfl rfl rfl (PV.build (ps:=[(0,.tmp 29),(1,.tmp 31),(4,.tmp 33)]) rfl rfl (fun w=>(cY).h w)) ?_
      all_goals
       refine Z4D ?_
      all_goals
       refine OW.box rfl rfl rfl rfl rfl rfl (fun B11=>?_)
      all_goals
       refine Z4C ?_
      all_goals
       refine Z4H ?_
      all_goals
       refine Z2z (k:=?_)
      all_goals
       refine Z4C ?_
      all_goals
       refine Z4E ?_
   rotate_right
   focus
    all_goals
     refine OW.alloc (Jr) rfl rfl rfl rfl rfl (fun B21=>?_)
    all_goals
     refine Z4C ?_
    all_goals
     refine E.AW.two 4 6 K0 rfl rfl ?_ ?_
     focus
      all_goals
       refine OW.gg _ Ux Jx rfl rfl rfl rfl rfl rfl rfl K4 K1 (fun A22=>?_)
      all_goals
       refine Z4C ?_
      all_goals
       refine Z4N ?_
      all_goals
       refine OW.pZ _ Ux Jx rfl rfl rfl rfl rfl rfl rfl K4 K1 (fun A23=>?_)
      all_goals
       refine Z4C ?_
      all_goals
       refine E.AW.first 7 rfl K0 K0 K0 rfl rfl rfl (PV.build (ps:=[(0,.tmp 29),(1,.tmp 31),(4,.tmp 33)]) rfl rfl (fun w=>(cY).h w)) ?_
      all_goals
       refine Z4D ?_
      all_goals
       refine OW.box rfl rfl rfl rfl rfl rfl (fun B24=>?_)
      all_goals
       refine Z4C ?_
      all_goals
       refine Z4H ?_
      all_goals
       refine Z2A (k:=?_)
      all_goals
       refine Z4C ?_
      all_goals
       refine Z4E ?_
     rotate_right
     focus
      all_goals
       refine OW.pZ _ Ux Jx rfl rfl rfl rfl rfl rfl rfl K4 K1 (fun A25=>?_)
      all_goals
       refine Z4C ?_
      all_goals
       refine ZR (k:=?_)
      all_goals
       refine OW.gg _ Ux Jx rfl rfl rfl rfl rfl rfl rfl K4 K1 (fun A26=>?_)
      all_goals
       refine Z4C ?_
      all_goals
       refine E.AW.first 7 rfl K0 K0 K0 rfl rfl rfl (PV.build (ps:=[(0,.tmp 29),(1,.tmp 31),(4,.tmp 33)]) rfl rfl (fun w=>(cY).h w)) ?_
      all_goals
       refine Z4D ?_
      all_goals
       refine OW.box rfl rfl rfl rfl rfl rfl (fun B27=>?_)
      all_goals
       refine Z4C ?_
      all_goals
       refine Z4H ?_
      all_goals
       refine Z2A (k:=?_)
      all_goals
       refine Z4C ?_
      all_goals
       refine Z4E ?_
   rotate_right
   focus
    all_goals
     refine OW.pZ _ Ux Jx rfl rfl rfl rfl rfl rfl rfl K4 K1 (fun A12=>?_)
    all_goals
     refine Z4C ?_
    all_goals
     refine E.AW.two 4 9 K0 rfl rfl ?_ ?_
     focus
      all_goals
       refine OW.gg _ Ux Jx rfl rfl rfl rfl rfl rfl rfl K4 K1 (fun A13=>?_)
      all_goals
       refine Z4C ?_
      all_goals
       refine E.AW.first 7 rfl K0 K0 K0 rfl rfl rfl (PV.build (ps:=[(0,.tmp 29),(1,.tmp 31),(4,.tmp 33)]) rfl rfl (fun w=>(cY).h w)) ?_
      all_goals
       refine E.AW.two 8 9 K0 rfl rfl ?_ ?_
       focus
        all_goals
         refine OW.box rfl rfl rfl rfl rfl rfl (fun B14=>?_)
        all_goals
         refine Z4C ?_
        all_goals
         refine Z1d (k:=?_)
        all_goals
         refine OW.alloc (Jr) rfl rfl rfl rfl rfl (fun B15=>?_)
        all_goals
         refine Z4C ?_
        all_goals
         refine Z4H ?_
        all_goals
         refine Z2x (k:=?_)
        all_goals
         refine Z4C ?_
        all_goals
         refine Z4E ?_
       rotate_right
       focus
        all_goals
         refine OW.alloc (Jr) rfl rfl rfl rfl rfl (fun B16=>?_)
        all_goals
         refine Z4C ?_
        all_goals
         refine Z4D ?_
        all_goals
         refine OW.box rfl rfl rfl rfl rfl rfl (fun B17=>?_)
        all_goals
         refine Z4C ?_
        all_goals
         refine Z4H ?_
        all_goals
         refine Z2y (k:=?_)
        all_goals
         refine Z4C ?_
        all_goals
         refine Z4E ?_
     rotate_right
     focus
      all_goals
       refine OW.alloc (Jr) rfl rfl rfl rfl rfl (fun B18=>?_)
      all_goals
       refine Z4C ?_
      all_goals
       refine ZR (k:=?_)
      all_goals
       refine OW.gg _ Ux Jx rfl rfl rfl rfl rfl rfl rfl K4 K1 (fun A19=>?_)
      all_goals
       refine Z4C ?_
      all_goals
       refine E.AW.first 7 rfl K0 K0 K0 rfl rfl rfl (PV.build (ps:=[(0,.tmp 29),(1,.tmp 31),(4,.tmp 33)]) rfl rfl (fun w=>(cY).h w)) ?_
      all_goals
       refine Z4D ?_
      all_goals
       refine OW.box rfl rfl rfl rfl rfl rfl (fun B20=>?_)
      all_goals
       refine Z4C ?_
      all_goals
       refine Z4H ?_
      all_goals
       refine Z2z (k:=?_)
      all_goals
       refine Z4C ?_
      all_goals
       refine Z4E ?_
  all_goals
   skip;refine Z1q (k:=?_);first|(refine⟨[(8,_)],[0,0,0,0,0,0,0],_,?_,rfl,_,_,_,_,rfl,rfl,trivial⟩;exact Kc)|(refine⟨[(8,_)],[0,0,1,0,0,0,0],_,?_,rfl,_,_,_,_,rfl,rfl,trivial⟩;exact Kc)
 rintro _ _ ⟨Ac,An,PB,B8,rfl,rfl,hI⟩;refine Z4I ?_;refine CW.jE 2 rfl K1 (fun QC hQC=>?_);subst hQC;refine CW.jE 3 rfl K1 (fun QN hQN=>?_);subst hQN;refine Z3 (k:=Z4A ?_);refine OW.gg _ Ux Jx rfl rfl rfl rfl rfl rfl rfl K4 K1 (fun A28=>?_);refine Zf (k:=Zi (k:=Zb (k:=Ze (k:=Z4I ?_))));refine CW.jE 0 rfl K1 (fun QS hQS=>?_);subst hQS;refine Z3 (k:=Z2q (k:=?_));refine OW.pure rfl rfl rfl (PV.load (i:=6) Nx rfl rfl rfl rfl) ?_;refine Z4A ?_;refine OW.pure rfl rfl rfl (PV.indexAddr (oh hX3) Ux Jx rfl rfl rfl (E.tn K1) K10 K1 K6) ?_;refine OW.pure rfl rfl rfl (PV.RO (oh hX3) Ix rfl rfl K1) ?_;refine OW.call Mx rfl rfl rfl rfl rfl rfl _ (fun w hw=>Vv (g.ts.getD t.toNat Tm.z) w (hw.oP (hg.m _ (Tm.mem htl))) (aP.HG hgf _ (Tm.mem htl)) K1) ?_;rintro _ _ ⟨AS,cS,rfl,rfl⟩;refine Z2s (k:=ZJ (k:=Zi (k:=Zb (k:=Z1j (k:=?_)))));refine CW.sels [1,0,0,0,0,0,0,0,0] rfl ?_;refine CW.av [1,3,5,7,8,9,43,44,9999] 1 rfl rfl (fun mm mods Hm=>∃i:Nat,mm=(bC (g.ts.getD t.toNat Tm.z).q).length-i/\mods=[(45,J i)]/\Hm=[HP.row 4 1 (some ⟨QS,0,.none⟩) g.l.length g.l.length (iO g.l.length (inl ((bC (g.ts.getD t.toNat Tm.z).q).take i)))]/\i<=(bC (g.ts.getD t.toNat Tm.z).q).length) ((bC (g.ts.getD t.toNat Tm.z).q).length) ?_ ?_
 ·exact⟨[(45,_)],Kc,0,rfl,rfl,(by rw[QJ]<;>rfl),K1⟩
 rintro _ _ _ ⟨i,rfl,rfl,rfl,hi⟩;refine Z4I ?_;skip;refine Z3 (k:=Z1k (k:=Zi (k:=Zb (k:=Z4I ?_))));refine CW.cond rfl (fun hc=>?_) (fun hc=>?_)
 ·simp only[bz,reduceCtorEq] at hc
  all_goals
   refine ZB (k:=Zb (k:=Ze (k:=Z1j (k:=Ze (k:=Z4z ?_)))));refine OW.pure rfl rfl rfl (PV.aY (iH (i:=1) rfl) Ux Jx rfl rfl rfl rfl K10 K1) ?_;refine OW.pure rfl rfl rfl (PV.qf (iH (i:=1) rfl) Nx rfl rfl K1) ?_;refine Zf (k:=Zi (k:=Z4B ?_));have hsi:=hL.spot (p:=(bC (g.ts.getD t.toNat Tm.z).q).getD i 0) (by rw[hsp];exact Rt.pR K1)
   obtain⟨⟨hsi0,hsi1⟩,_⟩:=hsi;have hsi2:(bC (g.ts.getD t.toNat Tm.z).q).getD i 0<(g.l.length:Int):=hsi1;refine Z3 (k:=ZJ (k:=Z4A ?_));refine OW.pure rfl rfl rfl (PV.va Ux Jx rfl rfl rfl (E.tn K1) K1) ?_;refine Z2B (k:=Zi (k:=Z1u (k:=Zb (k:=Z3 (k:=Z1l (k:=ZJ (k:=Zi (k:=Z1q (k:=?_)))))))));refine⟨_,[(45,_)],[0,0,0,0,0,0,0,0,0],[_],?_,Kc,rfl,i+1,rfl,rfl,(by rw[Lx K1 K1]),K1⟩
   omega
 simp only[bz,reduceCtorEq] at hc
 all_goals
  refine Z1n (k:=Z1o (k:=Z1o (k:=Z1p (k:=Z4B ?_))));refine CW.cut [1,3,5,7,8,9,9999] 0 rfl rfl (fun mods Hm=>∃Ao:am,∃Ai:am,mods=[(12,.slice Ao g.l.length g.l.length),(13,.slice Ai g.l.length g.l.length)]/\Hm=[HP.row 4 1 Ao g.l.length g.l.length (iO g.l.length (fun _=>false)),HP.row 4 1 Ai g.l.length g.l.length (iO g.l.length (fun _=>false))]/\True) ?_ ?_
  ·skip;refine ZY (k:=?_)
   all_goals
    refine Z1F (k:=?_)
   all_goals
    refine Z1y (k:=?_)
   all_goals
    refine E.AW.two 1 3 K0 rfl rfl ?_ ?_
    focus
     all_goals
      refine OW.gg _ Ux Jx rfl rfl rfl rfl rfl rfl rfl K4 K1 (fun A29=>?_)
     all_goals
      refine Z1s (k:=?_)
     all_goals
      refine Z2C (k:=?_)
     all_goals
      refine Z14 (k:=?_)
     all_goals
      refine OW.gg _ Ux Jx rfl rfl rfl rfl rfl rfl rfl K4 K1 (fun A30=>?_)
     all_goals
      refine Z1s (k:=?_)
     all_goals
      refine Z2D (k:=?_)
     all_goals
      refine Z4E ?_
    rotate_right
    focus
     all_goals
      refine OW.gg _ Ux Jx rfl rfl rfl rfl rfl rfl rfl K4 K1 (fun A31=>?_)
     all_goals
      refine Z1s (k:=?_)
     all_goals
      refine Z1O (k:=?_)
     all_goals
      refine OW.gg _ Ux Jx rfl rfl rfl rfl rfl rfl rfl K4 K1 (fun A32=>?_)
     all_goals
      refine Z1s (k:=?_)
     all_goals
      refine Z2C (k:=?_)
     all_goals
      refine Z2D (k:=?_)
     all_goals
      refine Z4E ?_
   all_goals
    skip;refine Z1q (k:=?_);first|(refine⟨[(12,_),(13,_)],[0,0,0,0,0,0,0,0,0,0,0],_,?_,rfl,_,_,rfl,rfl,trivial⟩;exact Kc)|(refine⟨[(12,_),(13,_)],[1,0,0,0,0,0,0,0,0,0,0],_,?_,rfl,_,_,rfl,rfl,trivial⟩;exact Kc)
  rintro _ _ ⟨Ao,Ai,rfl,rfl,hI⟩;refine Ze (k:=Z4I ?_);obtain rfl:i=(bC (g.ts.getD t.toNat Tm.z).q).length:=K1;refine CW.conv (cg 2 (HP.row 4 1 (some ⟨QS,0,.none⟩) g.l.length g.l.length (iO g.l.length (inl (bC (g.ts.getD t.toNat Tm.z).q)))) rfl (by rw[bJ])) ?_
  refine CW.sels [1,1,0,0,0,0,0,0,0,0,0] rfl ?_;refine CW.jE 0 rfl K1 (fun QO hQO=>?_);subst hQO;refine CW.jE 1 rfl K1 (fun QI hQI=>?_);subst hQI;refine CW.conv (SD 3 g.l.length) ?_;refine Z3 (k:=ZJ (k:=ZJ (k:=Zi (k:=Zb (k:=Z1j (k:=?_))))));refine CW.sels [1,1,5,5,0,6,0,1,1,1,1] rfl ?_;refine CW.av [1,3,5,7,8,9,12,13,57] 6 rfl rfl (fun mm mods Hm=>∃i:Nat,∃Xn:Nat->am,∃ln:Nat->Nat,∃un:Nat->Nat,∃xs:Nat->bi,∃ds:List Nat,mm=g.l.length-i/\mods=[(58,J i),(9999,marks ds)]/\Hm=[HP.row 4 1 (some ⟨QO,0,.none⟩) g.l.length g.l.length (iO g.l.length (Cb i (fun j=>Rt.gS g.q t (j:Int)))),HP.row 4 1 (some ⟨QI,0,.none⟩) g.l.length g.l.length (iO g.l.length (Cb i (fun j=>dz g.q (j:Int)))),HP.row 4 1 (some ⟨QC,0,.none⟩) g.l.length g.l.length (iO g.l.length (Cb i (fun j=>Rt.has g.q t a b (j:Int)))),HP.row 63 1 (some ⟨QN,0,.none⟩) g.l.length g.l.length (ea g.l.length Xn ln un),HP.rows 3 g.l.length Xn ln un xs,HP.marks ds]/\(i<=g.l.length/\NA (Rt.G g.q t a b) i Xn ln un xs)) (g.l.length) ?_ ?_
  ·exact⟨[(58,_),(9999,_)],Kc,0,_,_,_,_,_,rfl,rfl,(by rw[<-oY,<-oY,<-oY]),K1,NA.start _⟩
  rintro _ _ _ ⟨i,Xn,ln,un,xs,ds,rfl,rfl,rfl,hi,hNA⟩;refine Ze (k:=Z3 (k:=Z1k (k:=Zi (k:=Zb (k:=Z4I ?_)))));refine CW.cond rfl (fun hc=>?_) (fun hc=>?_)
  ·simp only[bz,reduceCtorEq] at hc
   all_goals
    refine ZB (k:=Zb (k:=Ze (k:=Z1j (k:=Ze (k:=Z3 (k:=Z4A ?_))))));refine OW.alloc (Jr) rfl rfl rfl rfl rfl (fun B914=>?_);refine Z2x (k:=Zi (k:=Zb (k:=Ze (k:=Z3 (k:=Z2E (k:=?_))))));refine OW.pure rfl rfl rfl (PV.load (i:=0) Nx rfl rfl rfl rfl) ?_;refine OW.call Mx rfl rfl rfl rfl rfl rfl _ (fun w hw=>Iy _ _ w K29 K2) ?_;rintro _ _ ⟨rfl,rfl⟩;refine Zf (k:=Zi (k:=Zb (k:=Ze (k:=Z4R ?_))))
    all_goals
     refine Z1F (k:=?_)
    all_goals
     refine Z2u (k:=?_)
    all_goals
     refine Z1y (k:=?_)
    all_goals
     refine E.AW.first 3 rfl K0 K0 K0 rfl rfl rfl (PV.load (i:=0) Nx rfl rfl rfl rfl) ?_
    all_goals
     refine Z2F (k:=?_)
    all_goals
     refine Z2v (k:=?_)
    all_goals
     refine E.AW.first 6 rfl K0 K0 K0 rfl rfl rfl (PV.eql rfl rfl rfl) ?_
    all_goals
     refine E.AW.first 7 rfl K0 K0 K0 rfl rfl rfl (PV.move rfl rfl) ?_
    all_goals
     refine E.AW.first 8 rfl K0 K0 K0 rfl rfl rfl (PV.eql rfl rfl rfl) ?_
    all_goals
     refine E.AW.first 9 rfl K0 K0 K0 rfl rfl rfl (PV.va Ux Jx rfl rfl rfl rfl K1) ?_
    all_goals
     refine Z4H ?_
    all_goals
     refine OW.mi (i:=1) Js rfl rfl rfl rfl rfl rfl K1 ?_
    all_goals
     refine Z1G (k:=?_)
    all_goals
     refine E.AW.first 11 rfl K0 K0 K0 rfl rfl rfl (PV.va Ux Jx rfl rfl rfl rfl K1) ?_
    all_goals
     refine Z1L (k:=?_)
    all_goals
     refine OW.mi (i:=2) Js rfl rfl rfl rfl rfl rfl K1 ?_
    all_goals
     refine Z1G (k:=?_)
    all_goals
     refine E.AW.conv (cg 0 (HP.row 4 1 (some ⟨QI,0,.none⟩) g.l.length g.l.length (iO g.l.length (Cb (i+1) (fun j=>dz g.q (j:Int))))) rfl (aq (fun r=>HP.row 4 1 (some ⟨QI,0,.none⟩) g.l.length g.l.length (r)) (tx rfl))) ?_
    all_goals
     refine E.AW.conv (cg 1 (HP.row 4 1 (some ⟨QO,0,.none⟩) g.l.length g.l.length (iO g.l.length (Cb (i+1) (fun j=>Rt.gS g.q t (j:Int))))) rfl (aq (fun r=>HP.row 4 1 (some ⟨QO,0,.none⟩) g.l.length g.l.length (r)) (tx rfl))) ?_
    all_goals
     refine E.AW.sels [3,2,0,0,0,0,0,0,0,0,0,0] rfl ?_
    all_goals
     refine Z4E ?_
    all_goals
     skip;refine Z4B ?_;refine CW.cut [1,3,5,7,8,9,12,13,14,57,58,9999] 1 rfl rfl (fun mods Hm=>mods=[]/\Hm=[HP.row 4 1 (some ⟨QC,0,.none⟩) g.l.length g.l.length (iO g.l.length (Cb (i+1) (fun j=>Rt.has g.q t a b (j:Int))))]/\True) ?_ ?_
     ·skip;refine CW.dV mixed [1,1,1,1,1,1,1,1,1,1,1] rfl ?_
      all_goals
       refine E.AW.first 0 rfl K0 K0 K0 rfl rfl rfl (PV.load (i:=7) Nx rfl rfl rfl rfl) ?_
      all_goals
       refine Z2G (k:=?_)
      all_goals
       refine Z2H (k:=?_)
      all_goals
       refine E.AW.first 3 rfl K0 K0 K0 rfl rfl rfl (PV.load (i:=8) Nx rfl rfl rfl rfl) ?_
      all_goals
       refine E.AW.first 4 rfl K0 K0 K0 rfl rfl rfl (PV.load (i:=0) Nx rfl rfl rfl rfl) ?_
      all_goals
       refine Z2I (k:=?_)
      all_goals
       refine E.AW.first 6 rfl K0 K0 K0 rfl rfl rfl (PV.fieldAddr Ax rfl rfl) ?_
      all_goals
       refine E.AW.first 7 rfl K0 K0 K0 rfl rfl rfl (PV.load (i:=9) Nx rfl rfl rfl rfl) ?_
      all_goals
       refine E.AW.first 8 rfl K0 K0 K0 rfl rfl rfl (PV.eql rfl rfl rfl) ?_
      all_goals
       refine E.AW.first 9 rfl K0 K0 K0 rfl rfl rfl (PV.move rfl rfl) ?_
      all_goals
       refine E.AW.split 84 rfl (fun hc=>?_) (fun hc=>?_)<;>(try simp only[bz,reduceCtorEq] at hc)<;>try exact Kf
      all_goals
       first|(refine E.AW.xE 10 rfl K0 K0 K0 rfl rfl rfl ?_)|(refine E.AW.first 10 rfl K0 K0 K0 rfl rfl rfl (PV.load (i:=0) Nx rfl rfl rfl rfl) ?_)
      all_goals
       first|(refine E.AW.xE 11 rfl K0 K0 K0 rfl rfl rfl ?_)|(refine E.AW.first 11 rfl K0 K0 K0 rfl rfl rfl (PV.fieldAddr Ax rfl rfl) ?_)
      all_goals
       first|(refine E.AW.xE 12 rfl K0 K0 K0 rfl rfl rfl ?_)|(refine E.AW.first 12 rfl K0 K0 K0 rfl rfl rfl (PV.load (i:=9) Nx rfl rfl rfl rfl) ?_)
      all_goals
       first|(refine E.AW.xE 13 rfl K0 K0 K0 rfl rfl rfl ?_)|(refine E.AW.first 13 rfl K0 K0 K0 rfl rfl rfl (PV.eql rfl rfl rfl) ?_)
      all_goals
       first|(refine E.AW.first 14 rfl K0 K0 K0 rfl rfl rfl (PV.yi rfl rfl rfl) ?_)|(refine E.AW.first 14 rfl K0 K0 K0 rfl rfl rfl (PV.yo rfl rfl rfl) ?_)
      all_goals
       refine E.AW.first 15 rfl K0 K0 K0 rfl rfl rfl (PV.move rfl rfl) ?_
      all_goals
       first|(refine E.AW.put 90 (.bool true) (v:=.bool true) rfl rfl ?_)|(refine E.AW.split 90 rfl (fun hc=>?_) (fun hc=>?_)<;>(try simp only[bz,reduceCtorEq] at hc)<;>try exact Kf)
      all_goals
       first|(refine E.AW.xE 16 rfl K0 K0 K0 rfl rfl rfl ?_)|(refine E.AW.first 16 rfl K0 K0 K0 rfl rfl rfl (PV.move rfl rfl) ?_)
      all_goals
       first|(refine E.AW.xE 17 rfl K0 K0 K0 rfl rfl rfl ?_)|(refine E.AW.first 17 rfl K0 K0 K0 rfl rfl rfl (PV.load (i:=0) Nx rfl rfl rfl rfl) ?_)
      all_goals
       first|(refine E.AW.xE 18 rfl K0 K0 K0 rfl rfl rfl ?_)|(refine E.AW.first 18 rfl K0 K0 K0 rfl rfl rfl (PV.va Ux Jx rfl rfl rfl rfl ?_) ?_;(focus (omega)))
      all_goals
       first|(refine E.AW.xE 19 rfl K0 K0 K0 rfl rfl rfl ?_)|(refine E.AW.first 19 rfl K0 K0 K0 rfl rfl rfl (PV.ni (iH (i:=2) rfl) Nx rfl rfl ?_) ?_;(focus (omega)))
      all_goals
       first|(refine E.AW.first 20 rfl K0 K0 K0 rfl rfl rfl (PV.yi rfl rfl rfl) ?_)|(refine E.AW.first 20 rfl K0 K0 K0 rfl rfl rfl (PV.yo rfl rfl rfl) ?_)
      all_goals
       refine E.AW.first 21 rfl K0 K0 K0 rfl rfl rfl (PV.move rfl rfl) ?_
      all_goals
       first|(refine E.AW.put 96 (.bool true) (v:=.bool true) rfl rfl ?_)|(refine E.AW.split 96 rfl (fun hc=>?_) (fun hc=>?_)<;>(try simp only[bz,reduceCtorEq] at hc)<;>try exact Kf)
      all_goals
       first|(refine E.AW.xE 22 rfl K0 K0 K0 rfl rfl rfl ?_)|(refine E.AW.first 22 rfl K0 K0 K0 rfl rfl rfl (PV.move rfl rfl) ?_)
      all_goals
       first|(refine E.AW.xE 23 rfl K0 K0 K0 rfl rfl rfl ?_)|(refine E.AW.first 23 rfl K0 K0 K0 rfl rfl rfl (PV.load (i:=0) Nx rfl rfl rfl rfl) ?_)
      all_goals
       first|(refine E.AW.xE 24 rfl K0 K0 K0 rfl rfl rfl ?_)|(refine E.AW.first 24 rfl K0 K0 K0 rfl rfl rfl (PV.va Ux Jx rfl rfl rfl rfl ?_) ?_;(focus (omega)))
      all_goals
       first|(refine E.AW.xE 25 rfl K0 K0 K0 rfl rfl rfl ?_)|(refine E.AW.first 25 rfl K0 K0 K0 rfl rfl rfl (PV.ni (iH (i:=1) rfl) Nx rfl rfl ?_) ?_;(focus (omega)))
      all_goals
       first|(refine E.AW.xE 26 rfl K0 K0 K0 rfl rfl rfl ?_)|(refine E.AW.first 26 rfl K0 K0 K0 rfl rfl rfl (PV.move rfl rfl) ?_)
      all_goals
       first|(refine E.AW.put 101 (.tuple #[]) (v:=.tuple #[]) rfl rfl ?_)|(refine E.AW.split 101 rfl (fun hc=>?_) (fun hc=>?_)<;>(try simp only[bz,reduceCtorEq] at hc)<;>try exact Kf)
      all_goals
       first|(refine E.AW.xE 27 rfl K0 K0 K0 rfl rfl rfl ?_)|(refine E.AW.first 27 rfl K0 K0 K0 rfl rfl rfl (PV.move rfl rfl) ?_)
      all_goals
       first|(refine E.AW.xE 28 rfl K0 K0 K0 rfl rfl rfl ?_)|(refine E.AW.first 28 rfl K0 K0 K0 rfl rfl rfl (PV.load (i:=0) Nx rfl rfl rfl rfl) ?_)
      all_goals
       first|(refine E.AW.xE 29 rfl K0 K0 K0 rfl rfl rfl ?_)|(refine E.AW.first 29 rfl K0 K0 K0 rfl rfl rfl (PV.va Ux Jx rfl rfl rfl rfl ?_) ?_;(focus (omega)))
      all_goals
       first|(refine E.AW.xE 30 rfl K0 K0 K0 rfl rfl rfl ?_)|(refine E.AW.first 30 rfl K0 K0 K0 rfl rfl rfl (PV.ni (iH (i:=6) rfl) Nx rfl rfl ?_) ?_;(focus (omega)))
      all_goals
       first|(refine E.AW.xE 31 rfl K0 K0 K0 rfl rfl rfl ?_)|(refine E.AW.first 31 rfl K0 K0 K0 rfl rfl rfl (PV.not rfl rfl) ?_)
      all_goals
       first|(refine E.AW.xE 32 rfl K0 K0 K0 rfl rfl rfl ?_)|(first|(refine E.AW.first 32 rfl K0 K0 K0 rfl rfl rfl (PV.yi rfl rfl rfl) ?_)|(refine E.AW.first 32 rfl K0 K0 K0 rfl rfl rfl (PV.yo rfl rfl rfl) ?_))
      all_goals
       first|(refine E.AW.first 33 rfl K0 K0 K0 rfl rfl rfl (PV.yi rfl rfl rfl) ?_)|(refine E.AW.first 33 rfl K0 K0 K0 rfl rfl rfl (PV.yo rfl rfl rfl) ?_)
      all_goals
       refine E.AW.first 34 rfl K0 K0 K0 rfl rfl rfl (PV.va Ux Jx rfl rfl rfl rfl K1) ?_
      all_goals
       refine E.AW.one 35 K0 rfl ?_
      all_goals
       refine Z2B (k:=?_)
      all_goals
       first|(refine E.AW.nil [1,1,1,1,1,1,1,1,1,1,1] rfl ?_)|(refine E.AW.nil [2,2,2,2,2,2,2,2,2,2,2] rfl ?_)|(refine E.AW.nil [3,3,3,3,3,3,3,3,3,3,3] rfl ?_)|(refine E.AW.nil [4,4,4,4,4,4,4,4,4,4,4] rfl ?_)|(refine E.AW.nil [5,5,5,5,5,5,5,5,5,5,5] rfl ?_)|(refine E.AW.nil [6,6,6,6,6,6,6,6,6,6,6] rfl ?_)|(refine E.AW.nil [7,7,7,7,7,7,7,7,7,7,7] rfl ?_)|(refine E.AW.nil [0,0,0,0,0,0,0,0,0,0,0] rfl ?_)|(refine E.AW.nil [0,0,0,0,0,0,0,0,0,0,0] rfl ?_)
      all_goals
       refine Z4E ?_
      all_goals
       skip;refine Z1q (k:=?_);refine⟨[],[0,0,0,0,0,0,0,0,0,0,0,0],[_],Kc,rfl,rfl,aq (fun r=>[HP.row 4 1 (some ⟨QC,0,.none⟩) g.l.length g.l.length (r)]) (tx (by first|rfl|((try simp only[Xl] at*);unfold Rt.has;simp_all [inl]))),trivial⟩
     rintro _ _ ⟨rfl,rfl,hI⟩;refine Ze (k:=Z3 (k:=Z2q (k:=Z2E (k:=Z2r (k:=?_)))));refine OW.call Mx rfl rfl rfl rfl rfl rfl _ (fun w hw=>acP _ _ _ _ _ _ w) ?_;rintro _ _ ⟨Bp,Bf,rfl,rfl⟩;refine Zi (k:=Zb (k:=Z1j (k:=?_)));refine CW.conv (Rz [10,3,9,5,5,0,0,0,0,0,0,0,0,0] rfl hNA) ?_;have hhas:=Wu hL.c (show i<g.l.length by omega)
     refine CW.range (p:=HP.nb B8 PB B914 g.l.length (some ⟨QN,0,.none⟩) [J (g.s.length:Int),.slice (some ⟨QC,0,.none⟩) g.l.length g.l.length,.slice none 0 0,.slice none 0 0,.slice (some ⟨QN,0,.none⟩) g.l.length g.l.length] i Xn ln un xs) (xs:=iN g.a g.b (i:Int)) (ds:=ds) [8,14] rfl rfl rfl rfl rfl Mx rfl rfl 0 5 rfl rfl ?_ ?_ ?_
     ·intro w S L q hw hY hS hb hc;exact aac g.a g.b (i:Int) _ Bp Bf L q S w hhas hY hS (fun k hk=>(hb k hk).1) (zu hc (i:=0) rfl) (zu hc (i:=1) rfl)
     ·intro L pre x rest hxs;have hpl:=Oj hxs;refine⟨[(16,J x),(8,Y B8 0),(14,Y B914 0)],fun W F9=>?_,fun W F9=>?_⟩
      ·skip;refine Z3 (k:=Zf (k:=Zi (k:=?_)));exact⟨rfl,Kc,rfl⟩
      skip;refine CW.aaI rfl K1 (fun AR uR=>?_);refine Z1j (k:=?_);refine CW.dV mixed [2,2,2] rfl ?_
      all_goals
       refine Z2J (k:=?_)
      all_goals
       refine Z2G (k:=?_)
      all_goals
       refine Z2H (k:=?_)
      all_goals
       refine E.AW.first 3 rfl K0 K0 K0 rfl rfl rfl (PV.load (i:=2) Nx rfl rfl rfl rfl) ?_
      all_goals
       refine E.AW.first 4 rfl K0 K0 K0 rfl rfl rfl (PV.load (i:=1) Nx rfl rfl rfl rfl) ?_
      all_goals
       refine Z2I (k:=?_)
      all_goals
       refine E.AW.first 6 rfl K0 K0 K0 rfl rfl rfl (PV.nilCheck rfl rfl) ?_
      all_goals
       refine E.AW.first 7 rfl K0 K0 K0 rfl rfl rfl (PV.fieldAddr Ax rfl rfl) ?_
      all_goals
       refine E.AW.first 8 rfl K0 K0 K0 rfl rfl rfl (PV.load (i:=2) Nx rfl rfl rfl rfl) ?_
      all_goals
       refine E.AW.first 9 rfl K0 K0 K0 rfl rfl rfl (PV.load (i:=1) Nx rfl rfl rfl rfl) ?_
      all_goals
       refine E.AW.first 10 rfl K0 K0 K0 rfl rfl rfl (PV.va Ux Jx rfl rfl rfl rfl K1) ?_
      all_goals
       refine E.AW.first 12 rfl K0 K0 K0 rfl rfl rfl (PV.move rfl rfl) ?_
      all_goals
       refine E.AW.two 11 13 K0 rfl rfl ?_ ?_
       focus
        all_goals
         refine OW.pure rfl rfl rfl (PV.ta (iH (i:=5) rfl) Nx rfl rfl K1) ?_
        all_goals
         refine Z2K (k:=?_)
        all_goals
         refine E.AW.one 13 K0 rfl ?_
        all_goals
         refine OW.buildSlice (Et:=3) (sz:=1) (ps:=[(0,.tmp 127)]) rfl rfl rfl rfl rfl K7 K4 (fun w=>df _ w) (fun A34=>?_)
        all_goals
         refine Z2K (k:=?_)
        all_goals
         refine Z2L (k:=?_)
        all_goals
         refine Z2p (k:=?_)
        all_goals
         refine OW.ga (j:=0) (i:=0) Ux Jx rfl rfl rfl rfl rfl rfl rfl rfl rfl rfl K3 (fun A35 c35=>?_)
        all_goals
         refine Z2K (k:=?_)
        all_goals
         refine Z2M (k:=?_)
        all_goals
         refine E.AW.one 16 K0 rfl ?_
        all_goals
         refine OW.Bq (i:=5) Js rfl rfl rfl rfl rfl rfl K1 ?_
        all_goals
         refine Z2K (k:=?_)
        all_goals
         refine Z2N (k:=?_)
        all_goals
         refine Z4E ?_
       rotate_right
       focus
        all_goals
         refine OW.buildSlice (Et:=3) (sz:=1) (ps:=[(0,.tmp 127)]) rfl rfl rfl rfl rfl K7 K4 (fun w=>df _ w) (fun A36=>?_)
        all_goals
         refine Z2K (k:=?_)
        all_goals
         refine ZU (k:=?_)
        all_goals
         refine OW.pure rfl rfl rfl (PV.ta (iH (i:=6) rfl) Nx rfl rfl K1) ?_
        all_goals
         refine Z2K (k:=?_)
        all_goals
         refine Z2L (k:=?_)
        all_goals
         refine Z2p (k:=?_)
        all_goals
         refine OW.ga (j:=0) (i:=0) Ux Jx rfl rfl rfl rfl rfl rfl rfl rfl rfl rfl K3 (fun A37 c37=>?_)
        all_goals
         refine Z2K (k:=?_)
        all_goals
         refine Z2M (k:=?_)
        all_goals
         refine E.AW.one 16 K0 rfl ?_
        all_goals
         refine OW.Bq (i:=5) Js rfl rfl rfl rfl rfl rfl K1 ?_
        all_goals
         refine Z2K (k:=?_)
        all_goals
         refine Z2N (k:=?_)
        all_goals
         refine Z4E ?_
      all_goals
       skip;refine Z1u (k:=?_);exact⟨rfl,[0],rfl⟩
     intro DM;refine Z1u (k:=Z1u (k:=Z4B ?_));refine CW.sels [1,0,0,0,0,0,0,0,0,0] rfl ?_;refine CW.acK rfl (fun AE uE=>?_);have hnn:iN g.a g.b (i:Int)=nn (Rt.G g.q t a b) i:=(R3 g.q i).symm;rw[hnn];refine Z3 (k:=Z1l (k:=ZJ (k:=Zi (k:=Z1q (k:=?_)))));refine⟨_,[(58,_),(9999,_)],[9,9,8,3,3,3,5,0,1,3,3],[_,_,_,_,_,_],?_,Kc,rfl,i+1,_,_,_,_,_,rfl,rfl,rfl,K1,hNA.next _ _⟩;omega
  simp only[bz,reduceCtorEq] at hc
  all_goals
   refine Z1n (k:=Z1o (k:=Z1o (k:=Z1p (k:=Zb (k:=Ze (k:=Z4I ?_))))));obtain rfl:i=g.l.length:=K1;refine CW.conv (cg 2 (HP.row 4 1 (some ⟨QC,0,.none⟩) g.l.length g.l.length (iO g.l.length ((fun j=>Rt.has g.q t a b (j:Int))))) rfl K42) ?_;refine CW.conv (cg 1 (HP.row 4 1 (some ⟨QO,0,.none⟩) g.l.length g.l.length (iO g.l.length ((fun j=>Rt.gS g.q t (j:Int))))) rfl K42) ?_;refine CW.conv (cg 2 (HP.row 4 1 (some ⟨QI,0,.none⟩) g.l.length g.l.length (iO g.l.length ((fun j=>dz g.q (j:Int))))) rfl K42) ?_;refine CW.conv (cg 3 (HP.row 63 1 (some ⟨QN,0,.none⟩) g.l.length g.l.length (ea g.l.length Xn (fun p=>((Rt.G g.q t a b).nr p).length) un)) rfl (by rw[D7 fun j hj=>⟨rfl,(hNA.d j hj).1,rfl⟩])) ?_
   refine CW.conv (cg 4 (HP.rows 3 g.l.length Xn (fun p=>((Rt.G g.q t a b).nr p).length) un (fun p=>ints (nn (Rt.G g.q t a b) p))) rfl (DZ fun j hj=>⟨rfl,(hNA.d j hj).1,rfl,(hNA.d j hj).2⟩)) ?_;refine CW.bM 63 1 ?_;refine CW.Bj (Et:=3) (A:=fun _=>none) (len:=fun _=>g.l.length) (c:=fun _=>0) (xs:=(fun(_:Nat)=>oQ g.l.length fun _=> -1)) ?_;refine CW.bM 116 1 ?_;refine CW.Bj (Et:=4) (A:=fun _=>none) (len:=fun _=>g.l.length) (c:=fun _=>0) (xs:=(fun(k:Nat)=>iO g.l.length ((fun j=>nD g.q t a b (k:Int) (j:Int))))) ?_;refine Z4z ?_;refine OW.pure rfl rfl rfl (PV.load (i:=11) Nx rfl rfl rfl rfl) ?_;refine Z2O (k:=Z2q (k:=?_));refine OW.pure rfl rfl rfl (PV.load (i:=12) Nx rfl rfl rfl rfl) ?_;refine ZJ (k:=Zi (k:=Zb (k:=Z1j (k:=?_))));refine CW.sels [12,1,0,1,0,0,0,0,0,0,0,1,1,1] rfl ?_;refine CW.av [1,3,5,7,8,12,13,135,9999] 5 rfl rfl (fun mm mods Hm=>∃k:Nat,∃Aa:am,∃ca:Nat,∃Xa:Nat->am,∃ua:Nat->Nat,∃Ad:am,∃cd:Nat,∃Xd:Nat->am,∃ud:Nat->Nat,mm=g.s.length-k/\mods=[(136,J k)]/\Hm=[HP.aw PB 120 [J (g.s.length:Int),.slice (some ⟨QC,0,.none⟩) g.l.length g.l.length,.slice Aa k ca,.slice Ad k cd,.slice (some ⟨QN,0,.none⟩) g.l.length g.l.length],HP.row 116 1 Aa (k) ca (ea (k) Xa (fun _=>g.l.length) ua),HP.rows 4 (k) Xa (fun _=>g.l.length) ua (fun(k:Nat)=>iO g.l.length ((fun j=>nD g.q t a b (k:Int) (j:Int)))),HP.row 63 1 Ad (k) cd (ea (k) Xd (fun _=>g.l.length) ud),HP.rows 3 (k) Xd (fun _=>g.l.length) ud (fun(_:Nat)=>oQ g.l.length fun _=> -1)]/\k<=g.s.length) (g.s.length) ?_ ?_
   ·exact⟨[(136,_)],Kc,0,_,_,_,_,_,_,_,_,rfl,rfl,rfl,K1⟩
   rintro _ _ _ ⟨k,Aa,ca,Xa,ua,Ad,cd,Xd,ud,rfl,rfl,rfl,hk⟩;refine Ze (k:=Z3 (k:=Z1k (k:=Zi (k:=Zb (k:=Z4I ?_)))));refine CW.cond rfl (fun hc=>?_) (fun hc=>?_)
   ·simp only[bz,reduceCtorEq] at hc
    all_goals
     refine ZB (k:=Zb (k:=Ze (k:=Z1j (k:=Ze (k:=Z3 (k:=ZJ (k:=Zf (k:=Zi (k:=Z4B ?_)))))))));refine CW.cut [1,3,5,7,8,12,13,17,135,136,9999] 0 rfl rfl (fun mods Hm=>∃Ar:am,∃Af:am,mods=[(18,.slice Ar g.l.length g.l.length),(19,.slice Af g.l.length g.l.length)]/\Hm=[HP.row 4 1 Ar g.l.length g.l.length (iO g.l.length (fun _=>false)),HP.row 3 1 Af g.l.length g.l.length (oQ g.l.length fun _=>0)]/\True) ?_ ?_
     ·skip;refine ZY (k:=?_)
      all_goals
       refine Z1F (k:=?_)
      all_goals
       refine Z1y (k:=?_)
      all_goals
       refine E.AW.two 1 3 K0 rfl rfl ?_ ?_
       focus
        all_goals
         refine OW.gg _ Ux Jx rfl rfl rfl rfl rfl rfl rfl K4 K1 (fun A38=>?_)
        all_goals
         refine Z1s (k:=?_)
        all_goals
         refine Z2C (k:=?_)
        all_goals
         refine Z14 (k:=?_)
        all_goals
         refine OW.Hy _ Ux Jx rfl rfl rfl rfl rfl rfl rfl K4 K1 (fun A39=>?_)
        all_goals
         refine Z1s (k:=?_)
        all_goals
         refine Z2D (k:=?_)
        all_goals
         refine Z4E ?_
       rotate_right
       focus
        all_goals
         refine OW.Hy _ Ux Jx rfl rfl rfl rfl rfl rfl rfl K4 K1 (fun A40=>?_)
        all_goals
         refine Z1s (k:=?_)
        all_goals
         refine Z1O (k:=?_)
        all_goals
         refine OW.gg _ Ux Jx rfl rfl rfl rfl rfl rfl rfl K4 K1 (fun A41=>?_)
        all_goals
         refine Z1s (k:=?_)
        all_goals
         refine Z2C (k:=?_)
        all_goals
         refine Z2D (k:=?_)
        all_goals
         refine Z4E ?_
      all_goals
       skip;refine Z1q (k:=?_);first|(refine⟨[(18,_),(19,_)],[0,0,0,0,0,0,0,0,0,0,0,0,0,0,0,0],_,?_,rfl,_,_,rfl,rfl,trivial⟩;exact Kc)|(refine⟨[(18,_),(19,_)],[1,0,0,0,0,0,0,0,0,0,0,0,0,0,0,0],_,?_,rfl,_,_,rfl,rfl,trivial⟩;exact Kc)
     rintro _ _ ⟨Ar,Af,rfl,rfl,hI⟩;refine Ze (k:=Z3 (k:=Z2q (k:=?_)));refine OW.pure rfl rfl rfl (PV.load (i:=15) Nx rfl rfl rfl rfl) ?_;refine Z4A ?_;refine OW.pure rfl rfl rfl (PV.TJ Ux Ux rfl rfl (by first|exact wrap_u8 _|(simp only[IntKind.wrap_i64,IntKind.wrap_u64,IntKind.wrap_u8];omega))) ?_
     refine OW.call Mx rfl rfl rfl rfl rfl rfl _ (fun w hw=>nX _ _ _ _ K1 w K1 K27) ?_;rintro _ _ ⟨rfl,rfl⟩;refine ZJ (k:=Z2P (k:=Z2P (k:=Zf (k:=Zf (k:=Zi (k:=Zb (k:=Ze (k:=Z4I ?_))))))));refine CW.jE 0 rfl K1 (fun QR hQR=>?_);subst hQR;refine CW.jE 1 rfl K1 (fun QF hQF=>?_);subst hQF;refine Z3 (k:=ZJ (k:=ZJ (k:=Zi (k:=Zb (k:=Z1j (k:=?_))))));refine CW.sels [0,0,0,0,0,0,0,0,0,0,0,0,0,0,0,0] rfl ?_;refine CW.av [1,3,5,7,8,12,13,18,19,20,135,136,151,9999] 2 rfl rfl (fun mm mods Hm=>∃j:Nat,mm=g.l.length-j/\mods=[(152,J j)]/\Hm=[HP.row 4 1 (some ⟨QR,0,.none⟩) g.l.length g.l.length (iO g.l.length (Cb j (fun j=>nD g.q t a b (k:Int) (j:Int)))),HP.row 3 1 (some ⟨QF,0,.none⟩) g.l.length g.l.length (oQ g.l.length (fun i=>if i<j then(-1:Int) else 0))]/\j<=g.l.length) (g.l.length) ?_ ?_
     ·exact⟨[(152,_)],Kc,0,rfl,rfl,(by rw[<-oY]<;>rfl),K1⟩
     rintro _ _ _ ⟨j,rfl,rfl,rfl,hj⟩;refine Ze (k:=Z3 (k:=Z1k (k:=Zi (k:=Zb (k:=Z4I ?_)))));refine CW.cond rfl (fun hc=>?_) (fun hc=>?_)
     ·simp only[bz,reduceCtorEq] at hc
      all_goals
       refine ZB (k:=Zb (k:=Ze (k:=Z1j (k:=Ze (k:=Z3 (k:=ZJ (k:=Zf (k:=Zi (k:=Z4B ?_)))))))));refine CW.cut [1,3,5,7,8,12,13,18,19,20,22,135,136,151,152,9999] 1 rfl rfl (fun mods Hm=>mods=[]/\Hm=[HP.row 4 1 (some ⟨QR,0,.none⟩) g.l.length g.l.length (iO g.l.length (Cb (j+1) (fun j=>nD g.q t a b (k:Int) (j:Int))))]/\True) ?_ ?_
       ·skip;refine Z3 (k:=ZJ (k:=Z4A ?_));refine OW.pure rfl rfl rfl (PV.load (i:=13) Nx rfl rfl rfl rfl) ?_;refine Z2O (k:=Z2q (k:=Z2Q (k:=ZJ (k:=Z2R (k:=?_)))));refine OW.pure rfl rfl rfl (PV.ni (iH (i:=11) rfl) Nx rfl rfl K1) ?_;refine Z4A ?_
        all_goals
         refine OW.split 164 rfl (fun hc=>?_) (fun hc=>?_)<;>(try simp only[bz,reduceCtorEq] at hc)<;>try exact Kf
        all_goals
         refine Z4K ?_
        all_goals
         refine Z4K ?_
        all_goals
         refine Z2S (k:=?_)
        all_goals
         first|(refine OW.off rfl rfl rfl ?_)|(refine OW.pure rfl rfl rfl (PV.ni (iH (i:=10) rfl) Nx rfl rfl ?_) ?_;(focus (omega)))
        all_goals
         refine Z4K ?_
        all_goals
         first|(refine OW.put 169 (.tuple #[]) (v:=.tuple #[]) rfl rfl ?_)|(refine OW.split 169 rfl (fun hc=>?_) (fun hc=>?_)<;>(try simp only[bz,reduceCtorEq] at hc)<;>try exact Kf)
        all_goals
         refine Z4K ?_
        all_goals
         refine Z4K ?_
        all_goals
         refine Z2S (k:=?_)
        all_goals
         first|(refine OW.off rfl rfl rfl ?_)|(refine OW.pure rfl rfl rfl (PV.ni (iH (i:=9) rfl) Nx rfl rfl ?_) ?_;(focus (omega)))
        all_goals
         refine Z4K ?_
        all_goals
         first|(refine OW.put 174 (.tuple #[]) (v:=.tuple #[]) rfl rfl ?_)|(refine OW.split 174 rfl (fun hc=>?_) (fun hc=>?_)<;>(try simp only[bz,reduceCtorEq] at hc)<;>try exact Kf)
        all_goals
         refine Z4K ?_
        all_goals
         refine Z4K ?_
        all_goals
         refine Z1X (k:=?_)
        all_goals
         refine Z1U (k:=?_)
        all_goals
         refine Z1U (k:=?_)
        all_goals
         refine Z4F ?_
        all_goals
         refine Z2R (k:=?_)
        all_goals
         refine Z2B (k:=?_)
        all_goals
         refine Zi (k:=Z1q (k:=?_));refine⟨[],[0,0,0,0,0,0,0,0,0,0,0,0,0,0,0,0],[_],Kc,rfl,rfl,aq (fun r=>[HP.row 4 1 (some ⟨QR,0,.none⟩) g.l.length g.l.length (r)]) (tx (by first|rfl|(unfold nD;simp_all;try exact Iff.rfl))),trivial⟩
       rintro _ _ ⟨rfl,rfl,hI⟩;refine Z3 (k:=ZJ (k:=ZJ (k:=Z2R (k:=?_))));refine OW.CR (i:=1) Js rfl rfl rfl rfl rfl rfl K1 ?_;refine Zi (k:=Z1u (k:=Zb (k:=Z3 (k:=Z1l (k:=ZJ (k:=Zi (k:=Z1q (k:=?_))))))));refine⟨_,[(152,_)],[1,0,0,0,0,0,0,0,0,0,0,0,0,0,0,0],[_,_],?_,Kc,rfl,j+1,rfl,rfl,(by rw[F7]),K1⟩
       omega
     simp only[bz,reduceCtorEq] at hc
     all_goals
      refine Z1n (k:=Z1o (k:=Z1o (k:=Z1p (k:=Z4B ?_))));refine CW.cut [1,3,5,7,8,12,13,19,135,136,9999] 5 rfl rfl (fun mods Hm=>∃Aa2:am,∃ca2:Nat,mods=[]/\Hm=[HP.row 3 1 (some ⟨QF,0,.none⟩) g.l.length g.l.length (oQ g.l.length fun _=> -1),HP.aw PB 120 [J (g.s.length:Int),.slice (some ⟨QC,0,.none⟩) g.l.length g.l.length,.slice Aa2 (k+1) ca2,.slice Ad k cd,.slice (some ⟨QN,0,.none⟩) g.l.length g.l.length],HP.row 116 1 Aa2 (k+1) ca2 (ea (k+1) (up Xa k (some ⟨QR,0,.none⟩)) (fun _=>g.l.length) (up ua k g.l.length)),HP.rows 4 (k+1) (up Xa k (some ⟨QR,0,.none⟩)) (fun _=>g.l.length) (up ua k g.l.length) (fun(k:Nat)=>iO g.l.length ((fun j=>nD g.q t a b (k:Int) (j:Int))))]/\True) ?_ ?_
      ·skip;obtain rfl:j=g.l.length:=K1;refine CW.conv (cg 1 (HP.row 3 1 (some ⟨QF,0,.none⟩) g.l.length g.l.length (oQ g.l.length fun _=> -1)) rfl (by rw[KX fun i hi=>aa hi])) ?_
       refine CW.conv (cg 1 (HP.row 4 1 (some ⟨QR,0,.none⟩) g.l.length g.l.length (iO g.l.length ((fun j=>nD g.q t a b (k:Int) (j:Int))))) rfl K42) ?_;refine CW.dV mixed [13] rfl ?_
       all_goals
        refine Z2J (k:=?_)
       all_goals
        refine Z2u (k:=?_)
       all_goals
        refine E.AW.first 2 rfl K0 K0 K0 rfl rfl rfl (PV.nilCheck rfl rfl) ?_
       all_goals
        refine Z2T (k:=?_)
       all_goals
        refine Z2v (k:=?_)
       all_goals
        refine E.AW.two 4 6 K0 rfl rfl ?_ ?_
        focus
         all_goals
          refine Z2Q (k:=?_)
         all_goals
          refine Z2U (k:=?_)
         all_goals
          refine Z4N ?_
         all_goals
          refine OW.buildSlice (Et:=116) (sz:=1) (ps:=[(0,.tmp 191)]) rfl rfl rfl rfl rfl K7 K4 (fun w=>uj w) (fun A42=>?_)
         all_goals
          refine Z2U (k:=?_)
         all_goals
          refine Z4O ?_
         all_goals
          refine OW.append (i:=4) Ux Jx rfl rfl K6 rfl rfl rfl rfl rfl rfl rfl (iH (i:=0) rfl) K15 K16 K4 K3 (fun A43 c43=>?_)
         all_goals
          refine Z2U (k:=?_)
         all_goals
          refine Z2V (k:=?_)
         all_goals
          refine Z2W (k:=?_)
         all_goals
          refine Z4H ?_
         all_goals
          refine Z2X (k:=?_)
         all_goals
          refine Z2U (k:=?_)
         all_goals
          refine Z2Y (k:=?_)
         all_goals
          refine E.AW.conv (iu 3 4 rfl rfl rfl) ?_
         all_goals
          refine Z4E ?_
        rotate_right
        focus
         all_goals
          refine OW.buildSlice (Et:=116) (sz:=1) (ps:=[(0,.tmp 191)]) rfl rfl rfl rfl rfl K7 K4 (fun w=>uj w) (fun A44=>?_)
         all_goals
          refine Z2U (k:=?_)
         all_goals
          refine ZR (k:=?_)
         all_goals
          refine OW.pure rfl rfl rfl (PV.load (i:=3) Nx rfl rfl rfl rfl) ?_
         all_goals
          refine Z2U (k:=?_)
         all_goals
          refine Z4O ?_
         all_goals
          refine OW.append (i:=4) Ux Jx rfl rfl K6 rfl rfl rfl rfl rfl rfl rfl (iH (i:=0) rfl) K15 K16 K4 K3 (fun A45 c45=>?_)
         all_goals
          refine Z2U (k:=?_)
         all_goals
          refine Z2V (k:=?_)
         all_goals
          refine Z2W (k:=?_)
         all_goals
          refine Z4H ?_
         all_goals
          refine Z2X (k:=?_)
         all_goals
          refine Z2U (k:=?_)
         all_goals
          refine Z2Y (k:=?_)
         all_goals
          refine E.AW.conv (iu 3 4 rfl rfl rfl) ?_
         all_goals
          refine Z4E ?_
       all_goals
        skip;refine Z1q (k:=?_);refine⟨[],[4,2,1,0,1,1,1,1,1,1,1,1,1,1,1],[_,_,_,_],Kc,rfl,_,_,rfl,rfl,trivial⟩
      rintro _ _ ⟨Aa2,ca2,rfl,rfl,hI⟩;refine CW.dV mixed [12] rfl ?_
      all_goals
       refine Z2J (k:=?_)
      all_goals
       refine Z2u (k:=?_)
      all_goals
       refine E.AW.first 2 rfl K0 K0 K0 rfl rfl rfl (PV.nilCheck rfl rfl) ?_
      all_goals
       refine Z2T (k:=?_)
      all_goals
       refine Z2v (k:=?_)
      all_goals
       refine E.AW.two 4 6 K0 rfl rfl ?_ ?_
       focus
        all_goals
         refine Z2r (k:=?_)
        all_goals
         refine Z2Z (k:=?_)
        all_goals
         refine Z4N ?_
        all_goals
         refine OW.buildSlice (Et:=63) (sz:=1) (ps:=[(0,.tmp 201)]) rfl rfl rfl rfl rfl K7 K4 (fun w=>tT w) (fun A46=>?_)
        all_goals
         refine Z2Z (k:=?_)
        all_goals
         refine Z4O ?_
        all_goals
         refine OW.append (i:=5) Ux Jx rfl rfl K6 rfl rfl rfl rfl rfl rfl rfl (iH (i:=0) rfl) K15 K16 K4 K3 (fun A47 c47=>?_)
        all_goals
         refine Z2Z (k:=?_)
        all_goals
         refine Z2V (k:=?_)
        all_goals
         refine Z2W (k:=?_)
        all_goals
         refine Z4H ?_
        all_goals
         refine Z2A (k:=?_)
        all_goals
         refine Z2Z (k:=?_)
        all_goals
         refine Z2Y (k:=?_)
        all_goals
         refine E.AW.conv (iu 3 5 rfl rfl rfl) ?_
        all_goals
         refine Z4E ?_
       rotate_right
       focus
        all_goals
         refine OW.buildSlice (Et:=63) (sz:=1) (ps:=[(0,.tmp 201)]) rfl rfl rfl rfl rfl K7 K4 (fun w=>tT w) (fun A48=>?_)
        all_goals
         refine Z2Z (k:=?_)
        all_goals
         refine ZR (k:=?_)
        all_goals
         refine Z2Q (k:=?_)
        all_goals
         refine Z2Z (k:=?_)
        all_goals
         refine Z4O ?_
        all_goals
         refine OW.append (i:=5) Ux Jx rfl rfl K6 rfl rfl rfl rfl rfl rfl rfl (iH (i:=0) rfl) K15 K16 K4 K3 (fun A49 c49=>?_)
        all_goals
         refine Z2Z (k:=?_)
        all_goals
         refine Z2V (k:=?_)
        all_goals
         refine Z2W (k:=?_)
        all_goals
         refine Z4H ?_
        all_goals
         refine Z2A (k:=?_)
        all_goals
         refine Z2Z (k:=?_)
        all_goals
         refine Z2Y (k:=?_)
        all_goals
         refine E.AW.conv (iu 3 5 rfl rfl rfl) ?_
        all_goals
         refine Z4E ?_
      all_goals
       skip;refine Z1u (k:=Zb (k:=Z3 (k:=Z1l (k:=ZJ (k:=Zi (k:=Z1q (k:=?_)))))));refine⟨_,[(136,_)],[2,3,3,1,0,1,1,1,1,1,1,1,1,1],[_,_,_,_,_],?_,Kc,rfl,k+1,_,_,_,_,_,_,_,_,rfl,rfl,rfl,K1⟩;omega
   simp only[bz,reduceCtorEq] at hc
   all_goals
    refine Z1n (k:=Z1o (k:=Z1o (k:=Z1p (k:=Zb (k:=Z4I ?_)))));obtain rfl:k=g.s.length:=K1;refine CW.conv (ec [0,8,0,0,0,2,1,0,0,0,0,0,0,0] 7 rfl rfl) ?_;refine CW.conv (cg 0 (HP.y8 ⟨PB,(Rt.G g.q t a b),(some ⟨QC,0,.none⟩),g.l.length,Aa,ca,Xa,ua,Ad,cd,Xd,ud,(some ⟨QN,0,.none⟩),g.l.length,Xn,un⟩) rfl rfl) ?_;refine CW.conv (cg 1 (HP.fP ⟨PB,(Rt.G g.q t a b),(some ⟨QC,0,.none⟩),g.l.length,Aa,ca,Xa,ua,Ad,cd,Xd,ud,(some ⟨QN,0,.none⟩),g.l.length,Xn,un⟩ fun _ _=> -1) rfl rfl) ?_;refine Z4z ?_;refine OW.pure rfl rfl rfl (PV.load (i:=5) Nx rfl rfl rfl rfl) ?_;refine Z2q (k:=?_);refine OW.pure rfl rfl rfl (PV.load (i:=6) Nx rfl rfl rfl rfl) ?_;refine OW.put 209 (J ((b.toNat:Nat):Int)) rfl (aq (Value.int .i64) (af hrb.1).symm) ?_;refine OW.aU Mx rfl rfl rfl rfl rfl rfl _ 0 rfl (fun w S hw hs hb hc=>RM ⟨PB,(Rt.G g.q t a b),(some ⟨QC,0,.none⟩),g.l.length,Aa,ca,Xa,ua,Ad,cd,Xd,ud,(some ⟨QN,0,.none⟩),g.l.length,Xn,un⟩ S w hs (fun k hk=>(hb k hk).1) (We hc (i:=0) rfl) (rQ hL) hn64 hs16.2 (NZ _ _ _ _)) ?_;rintro _ _ ⟨DF,rfl,hDF⟩;refine OW.kz (ec [1,0,0,0,0,0,0,0] 2 rfl rfl) ?_;refine OW.kz (cg 0 (HP.jM ⟨PB,(Rt.G g.q t a b),(some ⟨QC,0,.none⟩),g.l.length,Aa,ca,Xa,ua,Ad,cd,Xd,ud,(some ⟨QN,0,.none⟩),g.l.length,Xn,un⟩ DF) rfl rfl) ?_;refine Zi (k:=Zb (k:=Ze (k:=Z4z ?_)));refine OW.pure rfl rfl rfl (PV.load (i:=4) Nx rfl rfl rfl rfl) ?_;refine Zf (k:=Zi (k:=Zb (k:=Zm (k:=?_))));refine yS.one [3,0] rfl results46 rfl rfl ?_;exact⟨_,_,rfl,rfl,rfl,hDF⟩
def VF(y:Pl)(tick:Int)(w0:World)(hr:y.rC w0 (Old w0))(hK:1<=y.x.K/\y.x.K<=16)(ht:0<=tick/\tick<18446744073709551616):
  CV 261 #[y.v,V tick] w0 (J ((sA y.x.K (tick):Nat):Int)):=by
 have hm:=uT hK.1 tick;have hm2:=zG hK.1 tick;refine Zq ?_;refine Zk ?_;exact⟨by rw[hm2],rfl⟩
def w7(y:Pl)(D:DD)(p:Nat)(tick n:Int)(w0:World)(hr:y.rC w0 (Old w0))(hd:y.DU w0 (Old w0) D)(hK:1<=y.x.K/\y.x.K<=16)(hok:y.x.ok)(hD:∀k p,k<y.x.K->p<y.x.n->y.x.cell p=true->D k p=arr y.x k p)(hp:p<y.x.n)(ht:0<=tick/\tick<10000000000000000000)(hn:1<=n/\n<=2000)(hnl:(y.x.nr p).length<=5):
  CV 227 #[y.v,J (p:Int),V tick,J n] w0 (J ((Bf.nx y.x (sA y.x.K (tick+1)) p n:Nat):Int)):=by
 have hkl:=uT hK.1 (tick+1);refine Zq ?_;refine Z4t ?_;refine OW.call Mx rfl rfl rfl rfl rfl rfl _ (fun w hw=>VF y (tick+1) w (hw.rC hr) hK K1) ?_;rintro _ _ ⟨rfl,rfl⟩;refine Z4t ?_;refine OW.pure rfl rfl rfl (PV.aY (AZ (yI hr)) Ux Jx rfl rfl rfl rfl K10 K1) ?_;refine OW.pure rfl rfl rfl (PV.Ig (AZ (yI hr)) Nx rfl rfl K1) ?_;refine Z4t ?_;refine CW.av [0,1,3,9,22,23] 0 rfl rfl (fun mm mods Hm=>∃j:Nat,mm=(y.x.nr p).length-j/\mods=[(24,J j)]/\Hm=[]/\(j<=(y.x.nr p).length/\∀i,i<j->(y.x.al (sA y.x.K (tick+1)) ((y.x.nr p).getD i 0)&&decide (arr y.x (sA y.x.K (tick+1)) ((y.x.nr p).getD i 0)=n-1))=false)) ((y.x.nr p).length) ?_ ?_
 ·exact⟨[(24,_)],Kc,0,rfl,rfl,rfl,K1,fun i hi=>by omega⟩
 rintro _ _ _ ⟨j,rfl,rfl,rfl,hj,hI⟩;refine Zc ?_ ?_
 ·refine Z4u ?_;intro hc;have hin:((y.x.nr p).getD j 0)∈y.x.nr p:=Jt K1;have hqn:=hok.rV _ _ hp hin;have hDq:y.x.al (sA y.x.K (tick+1)) ((y.x.nr p).getD j 0)=true->D (sA y.x.K (tick+1)) ((y.x.nr p).getD j 0)=arr y.x (sA y.x.K (tick+1)) ((y.x.nr p).getD j 0):=fun h=>hD _ _ hkl hqn (hok.EY _ _ h);refine Zr (k:=Z2n (k:=Z2o (k:=Zr (k:=Z2i (k:=Z2j (k:=Zr (k:=Z2k (k:=Z2l (k:=?_)))))))));refine Zs ?_ ?_;all_goals first|(iterate 5 refine Z4x ?_;intros)|intros
  all_goals first|(refine OW.off rfl rfl rfl ?_)|(refine OW.pure rfl rfl rfl (PV.aY (Rs (yI hr)) Ux Jx rfl rfl rfl rfl ?_ ?_) ?_;(focus (first|(simp;done)|(simp;omega)));(focus (omega)))|skip
  all_goals first|(refine OW.off rfl rfl rfl ?_)|(refine OW.pure rfl rfl rfl (PV.nQ (Rs (yI hr)) Nx rfl rfl ?_) ?_;(focus (omega)))|skip
  all_goals first|(refine Z4x ?_;intros)|intros
  all_goals first|(refine OW.off rfl rfl rfl ?_)|(refine OW.pure rfl rfl rfl (PV.aY (BG (srd hd) ?_) Ux Jx rfl rfl rfl rfl ?_ ?_) ?_;(focus (omega));(focus (first|(simp;done)|(simp;omega)));(focus (omega)))|skip
  all_goals first|(refine OW.off rfl rfl rfl ?_)|(refine OW.pure rfl rfl rfl (PV.tM (BG (srd hd) ?_) Nx rfl rfl ?_) ?_;(focus (omega));(focus (omega)))|skip
  all_goals
   refine Zd ?_ ?_
   ·try exact⟨⟩
    all_goals
     refine Zk ?_;intros;exact⟨by rw[abJ K1 hI K8],rfl⟩
   try exact⟨⟩
   all_goals
    refine Z4t ?_;intros;refine⟨_,[(24,_)],[],_,?_,Kc,rfl,j+1,rfl,rfl,rfl,K1,Tl hI K8⟩;omega
 refine Zk ?_;intros;exact⟨by rw[RV fun i hi=>hI i K1],rfl⟩
def Ot(g:aP)(t a b tick:Int)(w0:World)(hg:g.rd w0 (Old w0))(hgf:g.q.fit)(ht:0<=tick/\tick<18446744073709551616):
  CV 226 #[g.v,J t,.agg #[J a,J b],V tick] w0 (.tuple #[J (ao g.q t a b tick).1,J (ao g.q t a b tick).2]):=by
 obtain⟨hX1,hX2,hX3,hX4⟩:=id hg;have hgl:=aP.cj hgf;refine Zq ?_;refine Zg @ab6 ?_;refine Zc ?_ ?_
 ·refine Zk ?_;intros;exact⟨by rw[Ry K2],rfl⟩
 refine Z4u ?_;intro _ _ hc;obtain⟨hL,hlk⟩:=vQ (show gC g.q t a b tick=0 by assumption)
 refine Zg @NY ?_;refine Z4u ?_;intro yP _ hyx hyD;have hyn:yP.x.n=g.l.length:=by rw[hyx];rfl
 have hyK:yP.x.K=g.s.length:=by rw[hyx];rfl
 have hn64:g.l.length<=64:=Rt.gj hL.c;have hs16:1<=g.s.length/\g.s.length<=16:=iV hL.c;have hra:0<=a/\a<(g.l.length:Int):=hL.ra;have hok:yP.x.ok:=by rw[hyx];exact rQ hL
 have hkl:=uT (show 1<=yP.x.K by omega) tick
 refine Zx (k:=Z0 (k:=Z4t ?_));refine QW.call Mx rfl rfl rfl rfl rfl rfl _ (fun w hw=>bK.val (VF yP tick w (uO (i:=0) rfl w hw) K1 K2)) ?_;refine QW.pure rfl rfl rfl (PV.aY (Rs (uO (i:=0) rfl)) Ux Jx rfl rfl rfl rfl K10 K1) ?_;refine QW.pure rfl rfl rfl (PV.nQ (Rs (uO (i:=0) rfl)) Nx rfl rfl K1) ?_;refine Z4t ?_;refine QW.pure rfl rfl rfl (PV.aY (BG (KZ (i:=0) rfl) K1) Ux Jx rfl rfl rfl (E.tn K1) K10 K1) ?_;refine QW.pure rfl rfl rfl (PV.tM (BG (KZ (i:=0) rfl) K1) Nx rfl rfl K1) ?_;have hA:=PS hL hyx hyD (tick:=tick);refine Zc ?_ ?_
 ·refine Zk ?_;intros;exact⟨by rw[l8 K2,aa K1],rfl⟩
 refine Zk ?_;intros;exact⟨by rw[l8 K2,ae K1,hA],rfl⟩
def Vk(g:aP)(t a b tick:Int)(w0:World)(hg:g.rd w0 (Old w0))(hgf:g.q.fit)(ht:0<=tick/\tick<18446744073709551616):
  CO 195 #[g.v,J t,.agg #[J a,J b],V tick] w0 fun v Hn=>∃A2 c2,v=.tuple #[.slice A2 ((aZ g.q t a b tick).1).length c2,J (aZ g.q t a b tick).2]/\Hn=[HP.row 3 1 A2 ((aZ g.q t a b tick).1).length c2 (ints ((aZ g.q t a b tick).1))]:=by
 obtain⟨hX1,hX2,hX3,hX4⟩:=id hg;have hgl:=aP.cj hgf;refine Zq ?_;refine Zg @Ot ?_;refine Zc ?_ ?_
 ·refine Z4u ?_;intros;refine ZC (k:=?_);refine Zl ?_;rw[xx K2];exact⟨none,0,rfl,rfl⟩
 refine Z4u ?_;intro _ _ hc;obtain⟨hle,har1,har0,hrt⟩:=uw (show(ao g.q t a b tick).2=0 by assumption)
 obtain⟨hL,hlk⟩:=vQ hle;have hN1024:=N7 (tick:=tick) hL;obtain⟨N,hN⟩:∃N:Nat,eP g.q t a b tick=(N:Int):=⟨_,(af har0).symm⟩;refine Zg @NY ?_;refine Z4u ?_;intro yP DP hyx hyD;have hyn:yP.x.n=g.l.length:=by rw[hyx];rfl
 have hyK:yP.x.K=g.s.length:=by rw[hyx];rfl
 have hn64:g.l.length<=64:=Rt.gj hL.c;have hs16:1<=g.s.length/\g.s.length<=16:=iV hL.c;have hra:0<=a/\a<(g.l.length:Int):=hL.ra;have hok:yP.x.ok:=by rw[hyx];exact rQ hL
 have haN:arr yP.x (sA yP.x.K tick) a.toNat=(N:Int):=by rw[hyx];exact hN
 have hac:yP.x.cell a.toNat=true:=by rw[hyx];exact eH hL
 refine Z4t ?_;refine OW.bsl 1 _ rfl rfl (fun w=>df _ w) (fun A3=>?_);refine Z4t ?_;refine CW.sels [0,0,0,0] rfl ?_;refine CW.av [12] 1 rfl rfl (fun mm mods Hm=>∃i:Nat,∃p:Nat,∃o:bv,∃A:am,∃e:Nat,mm=N-i/\mods=[(3,V (tick+(i:Int))),(10,J ((N:Int)-(i:Int))),(13,.slice A o.length e),(14,J (p:Int))]/\Hm=[HP.row 3 1 A (o).length e (ints (o))]/\RI yP.x N tick a.toNat i p o) (N) ?_ ?_
 ·exact⟨[(3,_),(10,_),(13,_),(14,_)],Kc,0,a.toNat,[a],_,_,rfl,(by rw[har1,hN];simp[af hra.1]),rfl,(by have h:=RI.start (tick:=tick) (a0:=a.toNat) K1 hac haN;rwa[af hra.1] at h)⟩
 rintro _ _ _ ⟨i,p,o,A,e,rfl,rfl,rfl,hI⟩;have hil:=hI.hi;have hol:=hI.hl;refine Zc ?_ ?_
 ·refine Z4u ?_;intros;have hiN:i<N:=K1;refine Z4t ?_;refine OW.call Mx rfl rfl rfl rfl rfl rfl _ (fun w hw=>w7 yP DP p (tick+(i:Int)) ((N:Int)-(i:Int)) w (uO (i:=1) rfl w hw) (KZ (i:=1) rfl w hw) K1 hok (C0 hyD) hI.hp K1 K1 (by rw[hyx];exact NZ _ _ _ _ _)) ?_;rintro _ _ ⟨rfl,rfl⟩
  refine Z4t ?_;refine OW.bsl 1 _ rfl rfl (fun w=>df _ w) (fun A4=>?_);refine OW.ga (j:=0) (i:=0) Ux Jx rfl rfl rfl rfl rfl rfl rfl rfl rfl rfl K3 (fun A5 c5=>?_);refine Z4t ?_;refine⟨_,[(3,_),(10,_),(13,_),(14,_)],[0,0,0,0],[_],?_,Kc,rfl,i+1,_,_,_,_,rfl,(by rw[show tick+((i+1:Nat):Int)=tick+(i:Int)+1 by omega,show(N:Int)-((i+1:Nat):Int)=(N:Int)-(i:Int)-1 by omega]),rfl,hI.step hok K1 hiN⟩
  omega
 refine Zl ?_;intros;obtain rfl:i=N:=K1;rw[hrt,show xG g.q t a b tick=o from by rw[hI.fin,hyx];unfold xG;rw[hN];rfl]
 exact⟨_,_,rfl,rfl⟩
def acV(g:aP)(t a b tick:Int)(w0:World)(hg:g.rd w0 (Old w0))(hgf:g.q.fit)(ht:0<=tick/\tick<18446744073709551616):
  CV 236 #[g.v,J t,.agg #[J a,J b],V tick] w0 (.tuple #[J (gA g.q t a b tick).1,J (gA g.q t a b tick).2]):=by
 obtain⟨hX1,hX2,hX3,hX4⟩:=id hg;have hgl:=aP.cj hgf;refine Zq ?_;refine Zg @Vk ?_;refine Zc ?_ ?_
 ·refine Zk ?_;intros;exact⟨by rw[show gA g.q t a b tick=(0,(aZ g.q t a b tick).2) from ae K2]<;>rfl,rfl⟩
 refine Zc ?_ ?_
 ·refine Zk ?_;intros;exact⟨by rw[show gA g.q t a b tick=(0,6) from(aa K2).trans (aa K1)],rfl⟩
 refine Zk ?_;intros;exact⟨by rw[show gA g.q t a b tick=((aZ g.q t a b tick).1.getD 1 0,0) from(aa K2).trans (ae K1)]<;>rfl,rfl⟩
def NT(A1:am)(c1:Nat)(u1:bv)(A2:am)(c2:Nat)(u2:bv)(B:Nat)(A:am)(e:Nat)(L:List (Int×Int))(S:Nat->Prop)(w0:World)(hS:(HP.dj [HP.aw B 111 [.slice A (L).length e],HP.row 115 2 A (L).length e (pairs (L))]).bA S w0)(hb:∀k,S k->k<w0.heap.size)(hX:Rd w0 (Fm w0 S) A1 (ints u1))(hY:Rd w0 (Fm w0 S) A2 (ints u2))(hu1:u1.length<=3)(hu2:u2.length<=3)(hLl:L.length<=100):
  CF 76 #[.slice A1 u1.length c1,.slice A2 u2.length c2,Y B 0] w0 S fun v Hn=>∃A3 e3,Hn=[HP.aw B 111 [.slice A3 (L++qx u1 u2).length e3],HP.row 115 2 A3 (L++qx u1 u2).length e3 (pairs (L++qx u1 u2))]:=by
 refine Zp (HA.au hS hb) ?_;refine Zx (k:=Z24 (k:=Z4t ?_));refine CW.av [1,2,9,10] 2 rfl rfl (fun mm mods Hm=>∃i:Nat,∃A:am,∃e:Nat,mm=u1.length-i/\mods=[(11,J i)]/\Hm=[HP.aw B 111 [.slice A (L++qx (u1.take i) u2).length e],HP.row 115 2 A (L++qx (u1.take i) u2).length e (pairs (L++qx (u1.take i) u2))]/\i<=u1.length) (u1.length) ?_ ?_
 ·exact⟨[(11,_)],Kc,0,A,e,rfl,rfl,(by simp[qx]),K1⟩
 rintro _ _ _ ⟨i,A,e,rfl,rfl,rfl,hi⟩;refine Zc ?_ ?_
 ·refine Z4t ?_;intro hc;refine CW.av [1,2,6,9,10,11,15,16] 2 rfl rfl (fun mm mods Hm=>∃j:Nat,∃A:am,∃e:Nat,mm=u2.length-j/\mods=[(17,J j)]/\Hm=[HP.aw B 111 [.slice A ((L++qx (u1.take i) u2)++(u2.take j).map fun q=>(u1.getD i 0,q)).length e],HP.row 115 2 A ((L++qx (u1.take i) u2)++(u2.take j).map fun q=>(u1.getD i 0,q)).length e (pairs ((L++qx (u1.take i) u2)++(u2.take j).map fun q=>(u1.getD i 0,q)))]/\j<=u2.length) (u2.length) ?_ ?_
  ·exact⟨[(17,_)],Kc,0,A,e,rfl,rfl,K7,K1⟩
  rintro _ _ _ ⟨j,A,e,rfl,rfl,rfl,hj⟩;have hpl:=yT (u1.take i) u2;have hti:(u1.take i).length=i:=by rw[cf];omega
  rw[hti] at hpl;have hmul:=iS (show i<=3 by omega) hu2
  have htj:((u2.take j).map fun q=>(u1.getD i 0,q)).length=j:=by rw[bZ,cf];omega
  have hXl:((L++qx (u1.take i) u2)++(u2.take j).map fun q=>(u1.getD i 0,q)).length=L.length+(qx (u1.take i) u2).length+j:=by rw[aF,aF,htj]
  refine Zc ?_ ?_
  ·refine Z4t ?_;intros;refine OW.bsl 2 _ rfl rfl (fun w=>Fy w) (fun A1=>?_);refine OW.append (i:=2) Ux Jx rfl rfl K6 rfl rfl rfl rfl rfl rfl rfl (iH (i:=0) rfl) K15 K16 K4 K3 (fun A2 c2=>?_);refine Z4t ?_;refine⟨_,[(17,_)],[0,0],[_,_],?_,Kc,rfl,j+1,_,_,rfl,rfl,(by rw[Oh K1,<-Ms]<;>rfl),K1⟩
   omega
  refine Z4t ?_;intros;refine⟨_,[(11,_)],[0,0],[_,_],?_,Kc,rfl,i+1,_,_,rfl,rfl,(by rw[show u2.take j=u2 from bU K1,Mi K1,<-aQ]),K1⟩
  omega
 refine Z4t ?_;intros;refine Z2m (k:=?_);obtain rfl:i=u1.length:=K1;rw[bJ];exact⟨_,_,rfl⟩
def acz(g:aP)(t:Int)(w0:World)(hg:g.rd w0 (Old w0))(hgf:g.q.fit):
  CO 45 #[g.v,J t] w0 fun v Hn=>∃A2 c2,v=.tuple #[.slice A2 (pJ g.q t).1.length c2,J (pJ g.q t).2]/\Hn=[HP.row 115 2 A2 (pJ g.q t).1.length c2 (pairs (pJ g.q t).1)]:=by
 obtain⟨hX1,hX2,hX3,hX4⟩:=id hg;have hgl:=aP.cj hgf;refine Zq ?_;refine Zg @Ep ?_;refine Zc ?_ ?_
 ·refine Z4u ?_;intros;refine CW.bM 115 2 ?_;refine Zl ?_;rw[show pJ g.q t=([],asked g.q t 0) from ae K2];exact⟨none,0,rfl,rfl⟩
 refine Z4u ?_;intro _ hc;have hTn:=wQ (show asked g.q t 0=0 by assumption)
 obtain⟨ht0,ht3,htn⟩:=hTn.iF;have htl:t.toNat<g.ts.length:=by rw[<-aP.eJ g];exact htn
 have hmt:=hg.m _ (Tm.mem htl);have hsp:bQ g.q t=(g.ts.getD t.toNat Tm.z).q:=aP.lz g _;obtain⟨⟨_,h3h⟩,⟨_,h3p⟩,⟨_,h3d⟩⟩:=hTn.small;rw[hsp] at h3h h3p h3d;have hm1:=iS h3h h3p;have hm2:=iS h3p h3d;refine Z4y ?_;intro B2;refine CW.bM 115 2 ?_;refine Zy (k:=Z4y ?_);intros;refine CW.aX [2,1,0,0] 2 rfl rfl ?_;refine Z4t ?_;refine OW.vw Mx rfl rfl rfl rfl rfl rfl _ 0 rfl (fun w S hw hs hb hc=>NT _ _ (g.ts.getD t.toNat Tm.z).q.h _ _ (g.ts.getD t.toNat Tm.z).q.p B2 _ _ ([]) S w hs (fun k hk=>(hb k hk).1) (hw.vD hmt hb).1 (hw.vD hmt hb).2.1 h3h h3p K60) ?_;rintro _ _ ⟨AL7,eL7,rfl⟩;refine Z4u ?_;refine CW.aX [0,0,0,0] 2 rfl rfl ?_;refine Z4t ?_;refine OW.vw Mx rfl rfl rfl rfl rfl rfl _ 0 rfl (fun w S hw hs hb hc=>NT _ _ (g.ts.getD t.toNat Tm.z).q.p _ _ (g.ts.getD t.toNat Tm.z).q.d B2 _ _ ([]++qx (g.ts.getD t.toNat Tm.z).q.h (g.ts.getD t.toNat Tm.z).q.p) S w hs (fun k hk=>(hb k hk).1) (hw.vD hmt hb).2.1 (hw.vD hmt hb).2.2 h3p h3d K60) ?_;rintro _ _ ⟨AL8,eL8,rfl⟩;refine Z4u ?_;refine CW.aX [0,0,0,0] 2 rfl rfl ?_;refine Z4t ?_;refine OW.vw Mx rfl rfl rfl rfl rfl rfl _ 0 rfl (fun w S hw hs hb hc=>NT _ _ (g.ts.getD t.toNat Tm.z).q.d _ _ (g.ts.getD t.toNat Tm.z).q.h B2 _ _ ([]++qx (g.ts.getD t.toNat Tm.z).q.h (g.ts.getD t.toNat Tm.z).q.p++qx (g.ts.getD t.toNat Tm.z).q.p (g.ts.getD t.toNat Tm.z).q.d) S w hs (fun k hk=>(hb k hk).1) (hw.vD hmt hb).2.2 (hw.vD hmt hb).1 h3d h3h K60) ?_;rintro _ _ ⟨AL9,eL9,rfl⟩;refine Z4t ?_;refine KR.two [1] rfl rfl rfl rfl ?_;rw[show pJ g.q t=([]++qx (g.ts.getD t.toNat Tm.z).q.h (g.ts.getD t.toNat Tm.z).q.p++qx (g.ts.getD t.toNat Tm.z).q.p (g.ts.getD t.toNat Tm.z).q.d++qx (g.ts.getD t.toNat Tm.z).q.d (g.ts.getD t.toNat Tm.z).q.h,0) from by rw[show pJ g.q t=(fA (bQ g.q t),0) from aa K2,hsp];rfl]
 exact⟨_,_,rfl,rfl⟩
def abX(g:aP)(t:Int)(w0:World)(hg:g.rd w0 (Old w0))(hgf:g.q.fit)(hTn:fB g.q t):
  CV 23 #[g.v,J t] w0 (J (Rt.most g.q t)):=by
 obtain⟨hX1,hX2,hX3,hX4⟩:=id hg;have hgl:=aP.cj hgf;have hlr:(pJ g.q t).1=(fA (bQ g.q t)):=aq Prod.fst (show pJ g.q t=(fA (bQ g.q t),0) from aa (jk hTn.c hTn.p K1));have hll:=hTn.OX;refine Zq ?_;refine Zg @acz ?_;refine Z4u ?_;intros;rw[hlr];refine Z4t ?_;refine CW.av [1,2,18,19] 0 rfl rfl (fun mm mods Hm=>∃i:Nat,mm=(fA (bQ g.q t)).length-i/\mods=[(20,J i),(7,J (Uo (py g.q t i 0)))]/\Hm=[]/\(i<=(fA (bQ g.q t)).length/\∀v∈py g.q t i 0,0<=v)) ((fA (bQ g.q t)).length) ?_ ?_
 ·exact⟨[(20,_),(7,_)],Kc,0,rfl,(by rw[wF]<;>rfl),rfl,K1,fun v hv=>by rw[wF] at hv;cases hv⟩
 rintro _ _ _ ⟨i,rfl,rfl,rfl,hi,hI⟩;refine Zc ?_ ?_
 ·refine Z4u ?_;intro hc;have hmem:=S3 (m:=bQ g.q t) (i:=i) K1;obtain⟨x,hx⟩:∃x,(fA (bQ g.q t)).getD i (0,0)=x:=⟨_,rfl⟩;refine Z4y ?_;intros;rw[hx] at hmem⊢;have hL:sN g.q t x.1 x.2:=hTn.HF hmem;refine Zg @NY ?_;refine Z4u ?_;intro yP _ hyx hyD;have hyn:yP.x.n=g.l.length:=by rw[hyx];rfl
  have hyK:yP.x.K=g.s.length:=by rw[hyx];rfl
  have hn64:g.l.length<=64:=Rt.gj hL.c;have hs16:1<=g.s.length/\g.s.length<=16:=iV hL.c;have hra:0<=x.1/\x.1<(g.l.length:Int):=hL.ra;have hok:yP.x.ok:=by rw[hyx];exact rQ hL
  refine Z4t ?_;refine CW.av [1,2,9,18,19,20,30,31] 0 rfl rfl (fun mm mods Hm=>∃k:Nat,mm=yP.x.K-k/\mods=[(32,J k),(7,J (Uo (py g.q t i k)))]/\Hm=[]/\(k<=yP.x.K/\∀v∈py g.q t i k,0<=v)) (yP.x.K) ?_ ?_
  ·exact⟨[(32,_),(7,_)],Kc,0,rfl,rfl,rfl,K1,hI⟩
  rintro _ _ _ ⟨k,rfl,rfl,rfl,hk,hJ⟩;refine Zc ?_ ?_
  ·refine Z4t ?_;intro hc;refine OW.pure rfl rfl rfl (PV.aY (Rs (uO (i:=0) rfl)) Ux Jx rfl rfl rfl rfl K10 K1) ?_;refine OW.pure rfl rfl rfl (PV.nQ (Rs (uO (i:=0) rfl)) Nx rfl rfl K1) ?_;have hD:=HU hL hyx hyD (k:=k) K1;have hvm:=Mn (g:=g.q) (t:=t) (i:=i) (k:=k) K1 (show k<g.s.length by omega)
   refine Z4u ?_;rw[hx,<-hD] at hvm;have hvs:=Ko (g:=g.q) (t:=t) (i:=i) (k:=k) (show k<g.s.length by omega)
   rw[hx,<-hD] at hvs;refine Zr (k:=Z30 (k:=Z31 (k:=?_)));refine Zc ?_ ?_
   ·refine Zk ?_;intros;exact⟨by rw[Rf hvm K1],rfl⟩
   refine Z4t ?_;intros;refine Z30 (k:=Z31 (k:=Z4t ?_));refine⟨_,[(32,_),(7,_)],[0,0,0,0],_,?_,Kc,rfl,k+1,rfl,(by rw[hvs,P7]<;>rfl),rfl,K1,(by rw[hvs];exact WW hJ K1)⟩
   omega
  refine Z4t ?_;intros;refine⟨_,[(20,_),(7,_)],[2,2],_,?_,Kc,rfl,i+1,rfl,(by rw[CL K1 (show g.q.s.length<=k by show g.s.length<=k;omega)]<;>rfl),rfl,K1,(by rw[<-CL K1 (show g.q.s.length<=k by show g.s.length<=k;omega)];exact hJ)⟩
  omega
 refine Zk ?_;intros;rw[OY K1] at hI⊢;exact⟨by rw[BB hI],rfl⟩
def Pc(g:aP)(w0:World)(hg:g.rd w0 (Old w0))(hgf:g.q.fit):
  CV 8 #[g.v] w0 (J (fV g.q)):=by
 obtain⟨hX1,hX2,hX3,hX4⟩:=id hg;have hgl:=aP.cj hgf;refine Zq ?_;refine Zg @o0 ?_;refine Zc ?_ ?_
 ·refine Zk ?_;intros;exact⟨by rw[Lc K2],rfl⟩
 refine Z4u ?_;intro _ hc;have hcz:Cf.check g.q=0:=by assumption
 have htn:=aP.eJ g;have ht3:=dw (az hcz).2.2.1;have htl:=mg g.q.ts g.q.ts.length;refine Zg @acu ?_;refine Z4u ?_;intros;rw[show(iD g.q).1=(Cf.aH g.q.ts g.q.ts.length) from aq Prod.fst (Ef hcz)];refine Z4t ?_;refine CW.av [1,18,19] 0 rfl rfl (fun mm mods Hm=>∃i:Nat,mm=(Cf.aH g.q.ts g.q.ts.length).length-i/\mods=[(20,J i)]/\Hm=[]/\(i<=(Cf.aH g.q.ts g.q.ts.length).length/\∀j,j<i->0<=Rt.most g.q ((Cf.aH g.q.ts g.q.ts.length).getD j 0))) ((Cf.aH g.q.ts g.q.ts.length).length) ?_ ?_
 ·exact⟨[(20,_)],Kc,0,rfl,rfl,rfl,K1,fun j hj=>by omega⟩
 rintro _ _ _ ⟨i,rfl,rfl,rfl,hi,hI⟩;refine Zc ?_ ?_
 ·refine Z4t ?_;intro hc;refine OW.call Mx rfl rfl rfl rfl rfl rfl _ (fun w hw=>abX g ((Cf.aH g.q.ts g.q.ts.length).getD i 0) w K29 K2 (Yh hcz K1)) ?_;rintro _ _ ⟨rfl,rfl⟩;refine Zc ?_ ?_
  ·refine Zk ?_;intros;exact⟨by rw[N1 hcz (i:=i) K1 K1],rfl⟩
  refine Z4t ?_;intros;refine⟨_,[(20,_)],[0,0],_,?_,Kc,rfl,i+1,rfl,rfl,rfl,K1,qc hI K1⟩;omega
 refine Zk ?_;intros;exact⟨by rw[wG hcz fun j hj=>hI j K1],rfl⟩
def Cz(B:Nat)(s:Sh)(p:Int)(w0:World)(hkc:ce w0 (some ⟨B,0,.none⟩) s.cells)(hg:s.g.rd w0 (Old w0))(hc:Cf.check s.g.q=0)(hp:0<=p/\p<s.g.l.length):
  CV 230 #[Y B 0,J p] w0 (.bool (dz s.g.q p)):=by
 have hg0:=hg;obtain⟨hgl,hgs,hgt,hgm⟩:=hg0;refine Zq ?_;refine Zk ?_;exact⟨aq Value.bool (by rw[rB hc hp,<-rn]<;>rfl),rfl⟩
def QV(PB:Nat)(p:Int)(h:Hd)(w0:World)(hB:ce w0 (some ⟨PB,0,.none⟩) [J p]):
  CV 266 #[.agg h.cs.toArray,Y PB 0] w0 (.bool (decide (h.pl=p))):=by
 refine Zq ?_;refine Zk ?_;intros;exact⟨rfl,rfl⟩
def Wg(A:am)(c:Nat)(l:List Hd)(q:Hd->Bool)(f:Nat)(aE:Array Value)(w0:World)(hn:E.Nm prog f)(hq:∀w,HA w0 (Old w0) [] w->∀x:Hd,Calls prog f (#[.agg (Hd.cs x).toArray]++aE) w (bK w (Old w) fun v Hn=>v=.bool (q x)/\Hn=[]))(hl:l.length<=140737488355328)(hX:ce w0 A (fl Hd.cs l)):
  CV 295 #[.slice A l.length c,.func (.func f) #[] aE] w0 (J (Ff q l)):=by
 refine Zq ?_;refine Z4t ?_;refine CW.av [0,1,7] 0 rfl rfl (fun mm mods Hm=>∃k:Nat,mm=l.length-k/\mods=[(8,J k)]/\Hm=[]/\(k<=l.length/\∀j,j<k->q (l.getD j Hd.z)=false)) (l.length) ?_ ?_
 ·exact⟨[(8,_)],Kc,0,rfl,rfl,rfl,K1,fun j hj=>by omega⟩
 rintro _ _ _ ⟨k,rfl,rfl,rfl,hk,hI⟩;refine Zc ?_ ?_
 ·refine Z4t ?_;intro hc;refine Z2 (k:=?_);refine Zc ?_ ?_
  ·refine Zk ?_;intros;exact⟨by rw[JF (k:=k) K1 hI K2],rfl⟩
  refine Z4t ?_;intros
  refine⟨_,[(8,_)],[],_,?_,Kc,rfl,k+1,rfl,rfl,rfl,K1,fun j hj=>by
  rcases eG.1 hj with h|rfl
  ·exact hI j h
  ·assumption⟩
  omega
 refine Zk ?_;intros;exact⟨by rw[IV (fun j hj=>hI j K1)],rfl⟩
def WU(A:am)(c:Nat)(l:List Hd)(q:Hd->Bool)(f:Nat)(aE:Array Value)(w0:World)(hn:E.Nm prog f)(hq:∀w,HA w0 (Old w0) [] w->∀x:Hd,Calls prog f (#[.agg (Hd.cs x).toArray]++aE) w (bK w (Old w) fun v Hn=>v=.bool (q x)/\Hn=[]))(hl:l.length<=140737488355328)(hX:ce w0 A (fl Hd.cs l)):
  CV 265 #[.slice A l.length c,.func (.func f) #[] aE] w0 (.bool (l.any q)):=by
 refine Zq ?_;refine Z4t ?_;refine OW.call Mx rfl rfl rfl rfl rfl rfl _ (fun w hw=>Wg _ _ _ q _ aE w hn (fun w2 hw2=>hq w2 (hw2.pF hw)) K2 K27) ?_;rintro _ _ ⟨rfl,rfl⟩;refine Zk ?_;exact⟨by rw[MF],rfl⟩
def Uk(B:Nat)(s:Sh)(p:Int)(w0:World)(hs:s.rd w0 (Old w0) B)(hl:s.rs.length<=64):
  CV 232 #[Y B 0,J p] w0 (.bool (free s.rs p)):=by
 have hs2:=hs;obtain⟨hkc,hh,ho,hq,hg,hm⟩:=hs2;have hhl:=da s.rs;refine Zq ?_;refine Zx (k:=Z4y ?_);intro B1;refine Z4z ?_;iterate 5 refine Z4x ?_
 refine OW.put 8 (.slice s.A (fZ s.rs).length s.c) rfl (by rw[hhl]) ?_
 refine OW.call Mx rfl rfl rfl rfl rfl rfl _ (fun w hw=>WU _ _ (fZ s.rs) (fun h=>decide (h.pl=p)) 266 #[Y B1 0] w Mx (fun w2 hw2 x=>QV B1 p x w2 (hw2.rd (hw.dq (i:=0) rfl))) K1 (hw.rd hh)) ?_;rintro _ _ ⟨rfl,rfl⟩;refine Zk ?_;exact⟨aq Value.bool (by unfold free;rw[Ud]),rfl⟩
def CE(B:Nat)(s:Sh)(k:Nat)(goal:Int)(w0:World)(hs:s.rd w0 (Old w0) B)(hgf:s.g.q.fit)(htk:0<=s.tk/\s.tk<18446744073709551616)(hk:k<s.rs.length):
  CV 233 #[Y B 0,bB s.A (k*7),J goal] w0 (.bool (decide ((ao s.g.q s.t (Cr.at_ s.rs k).pl goal s.tk).2=0))):=by
 have hs2:=hs;obtain⟨hkc,hh,ho,hq,hg,hm⟩:=hs2;have hhl:=da s.rs;refine Zq ?_;refine Zx (k:=Zy (k:=Z0 (k:=Z4t ?_)));refine QW.call Mx rfl rfl rfl rfl rfl rfl _ (fun w hw=>bK.val (Ot s.g s.t _ _ s.tk w K29 K2 K2)) ?_;refine Zk ?_;exact⟨rfl,rfl⟩
def PU(B:Nat)(s:Sh)(k:Nat)(w0:World)(hs:s.rd w0 (Old w0) B)(hok:s.ok)(hk:k<s.rs.length):
  CV 258 #[Y B 0,bB s.A (k*7)] w0 (.bool true):=by
 have hs2:=hs;obtain⟨hkc,hh,ho,hq,hg,hm⟩:=hs2;have hhl:=da s.rs;have hle:=hok.le;have hlen:=hok.len;have htk:=hok.WD;have hm0:=hm;obtain⟨hm1,hm2,hm3⟩:=hm0;have hln:=cz hok.bk.n;have hx58:=hok.adM hk;have hlg:=hok.HF hk;have hal:=hok.al0 hk;have hsl:=(hok.v.rt k hk).sl;have hsl2:(Cr.at_ s.rs k).sl<=(s.g.s.length:Int):=hsl.2;have hsl1:0<=(Cr.at_ s.rs k).sl:=hsl.1;have hhd:0<(Cr.at_ s.rs k).sl->(Cr.at_ s.rs k).du=false/\dz s.g.q (Cr.at_ s.rs k).pl=false:=(hok.v.rt k hk).hd;have hstr:=hok.st hk;refine Zq ?_;refine Z4t ?_;refine OW.call Mx rfl rfl rfl rfl rfl rfl _ (fun w hw=>kj B s _ w (hw.Mh hs) hok.bk.l) ?_;rintro _ _ ⟨rfl,rfl⟩;refine Z4u ?_;intros;refine Z0 (k:=Z4t ?_);refine QW.call Mx rfl rfl rfl rfl rfl rfl _ (fun w hw=>bK.val (acO s.g s.t _ s.tk w (hw.lN hg) hok.f htk)) ?_;refine Z4L ?_;refine QW.put 7 (.bool true) rfl (by rw[hal]<;>rfl) ?_
 refine QW.put 8 (J 0) rfl (by rw[hal]<;>rfl) ?_
 refine Z4t ?_;refine OW.pure rfl rfl rfl (PV.bne Ux rfl rfl rfl) ?_;refine OW.put 58 (.bool false) rfl (aq Value.bool hx58) ?_;refine Zx (k:=Zy (k:=Z0 (k:=?_)));refine QW.join 6 [0,1,5,6,9] rfl [(65,.bool (assigned s.b.q (Cr.at_ s.rs k).od))] (fun hm=>?_) ?_
 ·skip;refine Z4 (k:=Z4S ?_)
  all_goals
   refine QW.split 61 rfl (fun hc=>?_) (fun hc=>?_)<;>(try simp only[bz,reduceCtorEq] at hc)<;>try exact Kf
  all_goals
   refine Z5 (k:=?_)
  all_goals
   refine Z6 (k:=?_)
  all_goals
   refine Z32 (k:=?_)
  all_goals
   refine Z8 (k:=?_)
  all_goals
   refine QW.put 65 (.bool (assigned s.b.q (Cr.at_ s.rs k).od)) rfl (by first|rfl|exact aq Value.bool (by first|assumption|omega|(simp;done)|(simp_all;done)|(unfold assigned;simp_all;done)|(unfold en;simp_all;done))) ?_
  all_goals
   exact QW.ti Kc hm
 refine QW.join 6 [0,1,5,6,9,65] rfl [(71,.bool (en s.b.q (Cr.at_ s.rs k).od))] (fun hm=>?_) ?_
 ·skip;refine Z4 (k:=Z4S ?_)
  all_goals
   refine QW.split 67 rfl (fun hc=>?_) (fun hc=>?_)<;>(try simp only[bz,reduceCtorEq] at hc)<;>try exact Kf
  all_goals
   refine Z5 (k:=?_)
  all_goals
   refine Z6 (k:=?_)
  all_goals
   refine Z32 (k:=?_)
  all_goals
   refine Z8 (k:=?_)
  all_goals
   refine QW.put 71 (.bool (en s.b.q (Cr.at_ s.rs k).od)) rfl (by first|rfl|exact aq Value.bool (by first|assumption|omega|(simp;done)|(simp_all;done)|(unfold assigned;simp_all;done)|(unfold en;simp_all;done))) ?_
  all_goals
   exact QW.ti Kc hm
 refine Zx (k:=Z3 (k:=Zf (k:=Zi (k:=Z4B ?_))));refine CW.cut [0,1] 0 rfl rfl (fun mods Hm=>mods=[(12,.bool true),(9,J (work s.e (Cr.at_ s.rs k).st))]/\Hm=[]/\True) ?_ ?_
 ·refine Zc ?_ ?_
  ·intros;have hst:(Cr.at_ s.rs k).st=0:=by assumption
   obtain⟨hio,hpl,hlf⟩:=hok.f0 hk hst;refine Z0 (k:=Zo (k:=Z33 (k:=Z34 (k:=Z4t ?_))));refine⟨[(12,_),(9,_)],[0],_,Kc,rfl,rfl,rfl,trivial⟩
  refine Zc ?_ ?_
  ·intros;have hst:(Cr.at_ s.rs k).st=1:=by assumption
   obtain⟨hio,hos,hpl,hlf⟩:=hok.f1 hk hst;have hasg:(assigned s.b.q (Cr.at_ s.rs k).od)=true:=by unfold assigned;rw[hio,hos];rfl
   refine Z0 (k:=Zo (k:=Z33 (k:=Z34 (k:=Z4t ?_))));refine⟨[(12,_),(9,_)],[0],_,Kc,rfl,rfl,rfl,trivial⟩
  refine Zc ?_ ?_
  ·intros;have hst:(Cr.at_ s.rs k).st=2:=by assumption
   obtain⟨hio,hos,hlf⟩:=hok.f2 hk hst;have hasg:(assigned s.b.q (Cr.at_ s.rs k).od)=true:=by unfold assigned;rw[hio,hos];rfl
   refine Zz (k:=Z35 (k:=Z36 (k:=Z4t ?_)));refine⟨[(12,_),(9,_)],[0],_,Kc,rfl,rfl,rfl,trivial⟩
  refine Zc ?_ ?_
  ·intros;have hst:(Cr.at_ s.rs k).st=3:=by assumption
   obtain⟨hio,hos,hpl,hlf⟩:=hok.f3 hk hst;have hasg:(assigned s.b.q (Cr.at_ s.rs k).od)=true:=by unfold assigned;rw[hio,hos];rfl
   have hodd:=Cr.kj hok.bk hio;refine Z0 (k:=Zo (k:=Z33 (k:=Z34 (k:=Z4t ?_))));refine⟨[(12,_),(9,_)],[0],_,Kc,rfl,rfl,rfl,trivial⟩
  refine Zc ?_ ?_
  ·intros;have hst:(Cr.at_ s.rs k).st=4:=by assumption
   obtain⟨hio,hos,hpl,hlf⟩:=hok.f4 hk hst;have hasg:(en s.b.q (Cr.at_ s.rs k).od)=true:=by unfold en;rw[hio,hos];rfl
   have hodd:=Cr.kj hok.bk hio;refine Z0 (k:=Zo (k:=Z33 (k:=Z34 (k:=Z4t ?_))));refine⟨[(12,_),(9,_)],[0],_,Kc,rfl,rfl,rfl,trivial⟩
  refine Zc ?_ ?_
  ·intros;have hst:(Cr.at_ s.rs k).st=5:=by assumption
   obtain⟨hio,hos,hlf⟩:=hok.f5 hk hst;have hasg:(en s.b.q (Cr.at_ s.rs k).od)=true:=by unfold en;rw[hio,hos];rfl
   refine Zz (k:=Z35 (k:=Z36 (k:=Z4t ?_)));refine⟨[(12,_),(9,_)],[0],_,Kc,rfl,rfl,rfl,trivial⟩
  refine Zc ?_ ?_
  ·intros;have hst:(Cr.at_ s.rs k).st=6:=by assumption
   obtain⟨hio,hos,hpl,hlf⟩:=hok.f6 hk hst;have hasg:(en s.b.q (Cr.at_ s.rs k).od)=true:=by unfold en;rw[hio,hos];rfl
   have hodd:=Cr.kj hok.bk hio;refine Z0 (k:=Zo (k:=Z33 (k:=Z34 (k:=Z4t ?_))));refine⟨[(12,_),(9,_)],[0],_,Kc,rfl,rfl,rfl,trivial⟩
  refine Zc ?_ ?_
  ·intros;have hst:(Cr.at_ s.rs k).st=7:=by assumption
   obtain⟨hio,hpd,hlf⟩:=hok.f7 hk hst;refine Z0 (k:=Z4t ?_);refine QW.call Mx rfl rfl rfl rfl rfl rfl _ (fun w hw=>bK.val (VJ _ _ s.m.q.d _ w K1 K27)) ?_;refine Zo (k:=Z33 (k:=Z34 (k:=Z4t ?_)));refine⟨[(12,_),(9,_)],[0],_,Kc,rfl,rfl,rfl,trivial⟩
  refine Zx (k:=Z4y ?_);intros;have hst:(Cr.at_ s.rs k).st=8:=by assumption
  obtain⟨hio,hlf⟩:=hok.f8 hk hst;refine Zz (k:=Z35 (k:=Z36 (k:=Z4t ?_)));refine⟨[(12,_),(9,_)],[0],_,Kc,rfl,rfl,rfl,trivial⟩
 rintro _ _ ⟨rfl,rfl,_⟩;have hlo:=hok.lf hk;refine Ze (k:=Ze (k:=Z3 (k:=ZJ (k:=Z37 (k:=Z4A ?_)))));refine OW.split 221 rfl (fun hc=>?_) (fun hc=>?_)<;>(try simp only[bz,reduceCtorEq] at hc)<;>try exact Kf
 all_goals
  refine Z4K ?_
 all_goals
  refine Z38 (k:=?_)
 all_goals
  refine Z39 (k:=?_)
 all_goals
  refine Z39 (k:=?_)
 all_goals
  refine Z3a (k:=?_)
 all_goals
  refine ZM (k:=?_)
 all_goals
  refine Z4F ?_
 all_goals
  refine Z4A ?_
 all_goals
  first|(refine OW.put 229 (.bool false) (v:=.bool false) rfl rfl ?_)|(refine OW.put 229 (.bool false) rfl (aq Value.bool ?_) ?_;(focus ((simp only[bz];omega))))
 all_goals
  refine Z4A ?_
 all_goals
  refine OW.pure rfl rfl rfl (PV.gtr rfl rfl rfl) ?_
 all_goals
  refine Z4A ?_
 all_goals
  first|(refine OW.put 232 (.bool true) rfl (aq Value.bool ?_) ?_;(focus ((simp only[bz];omega))))|(refine OW.put 232 (.bool false) rfl (aq Value.bool ?_) ?_;(focus ((simp only[bz];omega))))
 all_goals
  refine Z4K ?_
 all_goals
  refine Z38 (k:=?_)
 all_goals
  refine Z39 (k:=?_)
 all_goals
  refine Z39 (k:=?_)
 all_goals
  refine Z3a (k:=?_)
 all_goals
  refine Z28 (k:=?_)
 all_goals
  refine Z4K ?_
 all_goals
  first|(refine OW.put 239 (.tuple #[]) (v:=.tuple #[]) rfl rfl ?_)|(refine OW.put 239 (.bool false) rfl (aq Value.bool ?_) ?_;(focus ((simp only[bz];omega))))
 all_goals
  refine Z4K ?_
 all_goals
  refine Z38 (k:=?_)
 all_goals
  refine Z39 (k:=?_)
 all_goals
  refine Z39 (k:=?_)
 all_goals
  refine Z3a (k:=?_)
 all_goals
  refine Z4K ?_
 all_goals
  refine Z1T (k:=?_)
 all_goals
  first|(refine OW.off rfl rfl rfl ?_)|(refine OW.pure rfl rfl rfl (PV.yo rfl rfl rfl) ?_)
 all_goals
  refine Z4F ?_
 all_goals
  refine OW.pure rfl rfl rfl (PV.yo rfl rfl rfl) ?_
 all_goals
  refine Zi (k:=Z4B ?_);refine CW.cond rfl (fun hc=>?_) (fun hc=>?_)
  ·first|((cases hc;done))|(simp only[bz,reduceCtorEq] at hc)
   all_goals
    exfalso;omega
  simp only[bz,reduceCtorEq] at hc
  all_goals
   refine ZB (k:=Zb (k:=Ze (k:=Ze (k:=Z0 (k:=Z4 (k:=Z3b (k:=Z3c (k:=Z3c (k:=Z3d (k:=?_))))))))));refine QW.pure rfl rfl rfl (PV.lss rfl rfl rfl) ?_;refine Z4S ?_
   all_goals
    refine QW.put 256 (.bool false) rfl (aq Value.bool (by simp only[bz];omega)) ?_
   all_goals
    refine Z4S ?_
   all_goals
    refine Z3b (k:=?_)
   all_goals
    refine Z3c (k:=?_)
   all_goals
    refine Z3c (k:=?_)
   all_goals
    refine Z3d (k:=?_)
   all_goals
    refine Z4S ?_
   all_goals
    refine QW.pure rfl rfl rfl (PV.nilCheck rfl rfl) ?_
   all_goals
    refine Z3e (k:=?_)
   all_goals
    refine Z3e (k:=?_)
   all_goals
    refine Z3f (k:=?_)
   all_goals
    refine QW.pure rfl rfl rfl (PV.len Ux rfl rfl) ?_
   all_goals
    refine QW.pure rfl rfl rfl (PV.gtr rfl rfl rfl) ?_
   all_goals
    refine QW.pure rfl rfl rfl (PV.yo rfl rfl rfl) ?_
   all_goals
    refine Z4S ?_
   all_goals
    refine QW.put 270 (.bool false) rfl (aq Value.bool (by simp only[bz];omega)) ?_
   all_goals
    refine Z4S ?_
   all_goals
    refine QW.call Mx rfl rfl rfl rfl rfl rfl _ (fun w hw=>bK.val (lD s.A (fZ s.rs) k w (hw.rd hh) K1)) ?_
   all_goals
    refine QW.put 272 (.bool (decide (0<(Cr.at_ s.rs k).sl))) rfl (by rw[ow hk]<;>rfl) ?_
   all_goals
    refine Z4S ?_
   all_goals
    refine QW.split 273 rfl (fun hc=>?_) (fun hc=>?_)<;>(try simp only[bz,reduceCtorEq] at hc)<;>try exact Kf
   all_goals
    refine Z9 (k:=?_)
   all_goals
    refine Z3g (k:=?_)
   all_goals
    refine Z3h (k:=?_)
   all_goals
    refine Z3h (k:=?_)
   all_goals
    refine Z3i (k:=?_)
   all_goals
    first|have h9:=hhd K2|skip
   all_goals
    first|have hdu:=h9.1|skip
   all_goals
    refine Z9 (k:=?_)
   all_goals
    first|(refine QW.put 279 (.tuple #[]) (v:=.tuple #[]) rfl rfl ?_)|(refine QW.put 279 (.bool false) rfl (aq Value.bool ?_) ?_;(focus (assumption)))
   all_goals
    refine Z9 (k:=?_)
   all_goals
    refine Z9 (k:=?_)
   all_goals
    refine Z3g (k:=?_)
   all_goals
    refine Z3h (k:=?_)
   all_goals
    refine Z3h (k:=?_)
   all_goals
    refine Z3i (k:=?_)
   all_goals
    first|(refine QW.off rfl rfl rfl ?_)|((refine QW.call Mx rfl rfl rfl rfl rfl rfl _ (fun w hw=>bK.val (Cz B s _ w (hw.rd hkc) (hw.lN hg) hok.T.c (hok.on hk))) ?_))
   all_goals
    first|(refine QW.off rfl rfl rfl ?_)|(refine QW.pure rfl rfl rfl (PV.yo rfl rfl rfl) ?_)
   all_goals
    refine Z8 (k:=?_)
   all_goals
    first|refine QW.put 288 (.bool false) rfl (aq Value.bool h9.2) ?_|skip
   all_goals
    refine QW.pure rfl rfl rfl (PV.yo rfl rfl rfl) ?_
   all_goals
    refine QW.nil ?_;refine Z4B ?_;refine CW.cond rfl (fun hc=>?_) (fun hc=>?_)
    ·cases hc;done
    simp only[bz,reduceCtorEq] at hc
    all_goals
     refine ZB (k:=Zb (k:=Ze (k:=Z0 (k:=Z4 (k:=Z4S ?_)))))
     all_goals
      refine QW.put 291 (.bool true) (v:=.bool true) rfl rfl ?_
     all_goals
      refine Z4S ?_
     all_goals
      refine QW.call Mx rfl rfl rfl rfl rfl rfl _ (fun w hw=>bK.val (Pz s.A (fZ s.rs) k w (hw.rd hh) K1)) ?_
     all_goals
      refine QW.put 293 (.bool (decide ((k:Int)=s.mv))) rfl (aq Value.bool (by rw[ow hk];exact hlg)) ?_
     all_goals
      refine Z4S ?_
     all_goals
      refine Z3b (k:=?_)
     all_goals
      refine Z3c (k:=?_)
     all_goals
      refine Z3d (k:=?_)
     all_goals
      refine Z4S ?_
     all_goals
      refine QW.pure rfl rfl rfl (PV.nilCheck rfl rfl) ?_
     all_goals
      refine Z3e (k:=?_)
     all_goals
      refine Z3f (k:=?_)
     all_goals
      refine QW.pure rfl rfl rfl (PV.eql rfl rfl rfl) ?_
     all_goals
      refine QW.pure rfl rfl rfl (PV.beq Ux rfl rfl rfl) ?_
     all_goals
      refine QW.pure rfl rfl rfl (PV.yi rfl rfl rfl) ?_
     all_goals
      refine QW.pure rfl rfl rfl (PV.assign rfl rfl) ?_
     all_goals
      refine QW.nil ?_;refine Zb (k:=Zm (k:=Z4P ?_));exact⟨aq Value.bool K7,rfl⟩
end Go.Proofs.YtcgecopggfjojaaGreatDoor
