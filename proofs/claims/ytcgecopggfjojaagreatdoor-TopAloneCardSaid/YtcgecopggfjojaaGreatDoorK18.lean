/- Part 18: the logic, the plain laws and the walks behind TopAlone (lemmas only; each says its own conditions). -/
import Derived.LaidMore
import Derived.OpenShut
import Derived.Stop.Joined
import Derived.MakeChecks
import Derived.Test.YtcgecopggfjojaaGreatDoorK17
set_option maxRecDepth 100000
set_option linter.all false
set_option maxHeartbeats 0
namespace Go.Proofs.YtcgecopggfjojaaGreatDoor
open Go Go.RowKit Go.Proofs.Tryz E Fl Cf Od Bf Cr Rt Tr Gw Dg Au Wi
attribute [local irreducible] E.CW E.OW E.QW E.AW E.lJ E.blockK E.PV
def Sf(A:am)(c:Nat)(K:am)(kc:Nat)(AL:am)(cL:Nat)(pm:List Yb)(w0:World)(hc8:(kZ Cf.ex).1.length<=c)(hX:ce w0 A (aA (kZ Cf.ex).1))(hY:ce w0 K (aA [1]))(hL:ce w0 AL (fl Sw.cells [(⟨⟨1,0,0,0,0,[]⟩,none,0⟩:Sw),(⟨⟨4,0,0,1,5,[]⟩,none,0⟩:Sw),(⟨⟨1,0,0,0,0,[]⟩,none,0⟩:Sw),(⟨⟨4,1,0,4,5,[]⟩,none,0⟩:Sw),(⟨⟨4,1,0,3,7,[]⟩,none,0⟩:Sw)]))(hK:ce w0 (some ⟨1,0,.none⟩) (dm ks))(hP:Pm w0 (Old w0) pm):
  CO 10 #[.slice A (kZ Cf.ex).1.length c,.slice K (List.length ([1]:ap)) kc,.slice AL (List.length [(⟨⟨1,0,0,0,0,[]⟩,none,0⟩:Sw),(⟨⟨4,0,0,1,5,[]⟩,none,0⟩:Sw),(⟨⟨1,0,0,0,0,[]⟩,none,0⟩:Sw),(⟨⟨4,1,0,4,5,[]⟩,none,0⟩:Sw),(⟨⟨4,1,0,3,7,[]⟩,none,0⟩:Sw)]) cL] w0 fun v Hn=>∃A1 c1 A2 c2 AO cO,v=.tuple #[.slice AO (List.length [(⟨out Wi.ops 0 (Gw.eQ 1 0 Lr),A1,c1⟩:Ow),(⟨out Wi.ops 1 (Gw.eQ 2 0 Lq),A2,c2⟩:Ow)]) cO,J 0]/\Hn=[HP.row 50 3 AO (List.length [(⟨out Wi.ops 0 (Gw.eQ 1 0 Lr),A1,c1⟩:Ow),(⟨out Wi.ops 1 (Gw.eQ 2 0 Lq),A2,c2⟩:Ow)]) cO (fl Ow.cells [(⟨out Wi.ops 0 (Gw.eQ 1 0 Lr),A1,c1⟩:Ow),(⟨out Wi.ops 1 (Gw.eQ 2 0 Lq),A2,c2⟩:Ow)]),HP.ro (j2 [(⟨out Wi.ops 0 (Gw.eQ 1 0 Lr),A1,c1⟩:Ow),(⟨out Wi.ops 1 (Gw.eQ 2 0 Lq),A2,c2⟩:Ow)])]:=by
 refine(HH A c _ K kc [1] AL cL [(⟨⟨1,0,0,0,0,[]⟩,none,0⟩:Sw),(⟨⟨4,0,0,1,5,[]⟩,none,0⟩:Sw),(⟨⟨1,0,0,0,0,[]⟩,none,0⟩:Sw),(⟨⟨4,1,0,4,5,[]⟩,none,0⟩:Sw),(⟨⟨4,1,0,3,7,[]⟩,none,0⟩:Sw)] pm Cf.ex w0 hc8 (by rw[EA];decide) W4 Cf.uI M9 (by decide) hX hY hL (by decide) (fun y hy=>?_) hK hP).mono fun e w2 ⟨v,Hn,h1,h2,h4⟩=>?_
 ·simp only[er,bg,or_false] at hy;rcases hy with rfl|rfl|rfl|rfl|rfl<;>exact⟨⟨by decide,by decide,by decide⟩,Rd.nil⟩
 rcases h2 with⟨_,os,AO,cO,hos,rfl,rfl⟩|⟨h,_⟩
 ·rw[show([(⟨⟨1,0,0,0,0,[]⟩,none,0⟩:Sw),(⟨⟨4,0,0,1,5,[]⟩,none,0⟩:Sw),(⟨⟨1,0,0,0,0,[]⟩,none,0⟩:Sw),(⟨⟨4,1,0,4,5,[]⟩,none,0⟩:Sw),(⟨⟨4,1,0,3,7,[]⟩,none,0⟩:Sw)]:List Sw).map Sw.x=o8 from rfl,Y2] at hos;obtain⟨A1,c1,A2,c2,rfl⟩:=YR hos;exact⟨_,_,h1,⟨A1,c1,A2,c2,AO,cO,rfl,rfl⟩,h4⟩
 exact absurd h (by decide)
def Fk(pm:List Yb)(w0:World)(hK:ce w0 (some ⟨1,0,.none⟩) (dm ks))(hP:Pm w0 (Old w0) pm):
  CV 4 #[] w0 (.bool true):=by
 refine Zq ?_;refine Zg @Ww ?_;intro gX hgX;have hfX:gX.q.fit:=by rw[hgX];exact WJ
 refine Zg @LU ?_;refine Z4u ?_;intro AEn cEn;rw[hgX];refine CW.put 2 (J 0) rfl (by rw[Yr]<;>rfl) ?_
 refine Z4t ?_;refine OW.bsl 1 (aA ([1])) rfl rfl (fun w=>hO _ w) (fun AK=>?_);refine OW.chunk 0 (HP.row 5 1 AK (List.length ([1])) 1 (aA ([1]))) rfl rfl ?_;refine OW.put 14 (.slice AK (List.length ([1])) 1) rfl rfl ?_;refine Z4t ?_;refine OW.bsl 6 (fl Sw.cells [(⟨⟨1,0,0,0,0,[]⟩,none,0⟩:Sw),(⟨⟨4,0,0,1,5,[]⟩,none,0⟩:Sw),(⟨⟨1,0,0,0,0,[]⟩,none,0⟩:Sw),(⟨⟨4,1,0,4,5,[]⟩,none,0⟩:Sw),(⟨⟨4,1,0,3,7,[]⟩,none,0⟩:Sw)]) rfl rfl (fun w=>qh w) (fun AL=>?_);refine OW.call Mx rfl rfl rfl rfl rfl rfl _ (fun w hw=>Sf AEn cEn AK 1 AL 5 pm w K69 K35 K35 K35 (hw.rd hK) ⟨hw.rd hP.r,fun s hs=>hw.rd (hP.m s hs),hP.e⟩) ?_;rintro _ _ ⟨A1,c1,A2,c2,AO,cO,rfl,rfl⟩;refine Zr (k:=Z4i (k:=Z4j (k:=?_)));refine OW.pure rfl rfl rfl (PV.dR (k:=0) (v:=J 0) (iH (i:=0) rfl) Nx rfl rfl rfl) ?_;refine Zr (k:=Z4i (k:=Z4j (k:=?_)));refine OW.pure rfl rfl rfl (PV.dR (k:=1) (v:=V 1) (iH (i:=0) rfl) Nx rfl rfl rfl) ?_;refine Zr (k:=Z4k (k:=Z4l (k:=?_)));refine OW.pure rfl rfl rfl (PV.dR (k:=3) (v:=J 1) (iH (i:=0) rfl) Nx rfl rfl rfl) ?_;refine Zr (k:=Z4k (k:=Z4l (k:=?_)));refine OW.pure rfl rfl rfl (PV.dR (k:=4) (v:=V 2) (iH (i:=0) rfl) Nx rfl rfl rfl) ?_;refine Zr (k:=Z4k (k:=Z4l (k:=?_)));refine OW.pure rfl rfl rfl (PV.dR (k:=5) (v:=.slice A2 (oz (Gw.eQ 2 0 Lq)).length ((oz (Gw.eQ 2 0 Lq)).length+c2)) (iH (i:=0) rfl) Nx rfl rfl rfl) ?_;refine OW.call Mx rfl rfl rfl rfl rfl rfl _ (fun w hw=>T7 A2 _ (oz (Gw.eQ 2 0 Lq)) 2 Lq w (Nat.le_add_right _ _) (by rw[(VK (k:=2) (by decide) (by decide) yy).len];decide) (VK K6 K6 yy) K6 yy (show Rd _ _ A2 (aA (out Wi.ops 1 (Gw.eQ 2 0 Lq)).bs) from(hw.aL (i:=1) rfl).at 1 rfl)) ?_;rintro _ _ ⟨rfl,rfl⟩
 refine Zk ?_;intros;exact⟨by first|rfl|simp_all,rfl⟩
def Ym(A:am)(c:Nat)(l:ap)(A2:am)(c2:Nat)(m:ap)(w0:World)(hl:l.length<=100000)(hX:ce w0 A (aA l))(hY:ce w0 A2 (aA m)):
  CV 30 #[.slice A l.length c,.slice A2 m.length c2] w0 (.bool (decide (l=m))):=by
 refine Zq ?_;refine Zc ?_ ?_
 ·refine Zk ?_;intros;exact⟨by rw[xI K1],rfl⟩
 refine Z4t ?_;intro hc;refine CW.av [0,1] 0 rfl rfl (fun mm mods Hm=>∃k:Nat,mm=l.length-k/\mods=[(5,J k)]/\Hm=[]/\(k<=l.length/\∀j,j<k->l.getD j 0=m.getD j 0)) (l.length) ?_ ?_
 ·exact⟨[(5,_)],Kc,0,rfl,rfl,rfl,K1,fun j hj=>by omega⟩
 rintro _ _ _ ⟨k,rfl,rfl,rfl,hk,hI⟩;refine Zc ?_ ?_
 ·refine Z4u ?_;intro hc;refine Z0 (k:=?_);refine Zc ?_ ?_
  ·refine Zk ?_;intros;exact⟨by rw[Gr (k:=k) (d:=0) (abn K2)],rfl⟩
  refine Z4t ?_;intros;refine⟨_,[(5,_)],[],_,?_,Kc,rfl,k+1,rfl,rfl,rfl,K1,Cf.upto hI (acn K2)⟩;omega
 refine Zk ?_;intros;exact⟨by rw[HR (d:=0) K1 (fun j hj=>hI j K1)],rfl⟩
def Qn(A:am)(c:Nat)(l:List Ow)(A2:am)(c2:Nat)(m:List Ow)(w0:World)(hl:l.length<=10000000)(hbl:∀x∈l,x.o.bs.length<=100000)(hX:ce w0 A (fl Ow.cells l))(hY:ce w0 A2 (fl Ow.cells m))(hmx:E.dc w0 (Old w0) (j2 l))(hmy:E.dc w0 (Old w0) (j2 m)):
  CV 12 #[.slice A l.length c,.slice A2 m.length c2] w0 (.bool (decide (l.map Ow.o=m.map Ow.o))):=by
 refine Zq ?_;refine Ze (k:=Z3 (k:=Zf (k:=Zi (k:=Zb (k:=Ze (k:=Ze (k:=Z3 (k:=ZJ (k:=Z2s (k:=ZJ (k:=Z2s (k:=ZK (k:=Zi (k:=Z4B ?_))))))))))))));refine CW.cond rfl (fun hc=>?_) (fun hc=>?_)
 ·simp only[bz,reduceCtorEq] at hc
  all_goals
   refine Ze (k:=Z3 (k:=Zf (k:=Zi (k:=Zb (k:=Zm (k:=Zv (k:=Z4P ?_)))))));exact⟨by rw[R5 K1],rfl⟩
 simp only[bz,reduceCtorEq] at hc
 all_goals
  refine ZB (k:=Zb (k:=Ze (k:=Ze (k:=Z3 (k:=Zf (k:=Zi (k:=Zb (k:=Z1j (k:=?_)))))))));refine CW.av [0,1] 0 rfl rfl (fun mm mods Hm=>∃k:Nat,mm=l.length-k/\mods=[(5,J k)]/\Hm=[]/\(k<=l.length/\∀j,j<k->(l.getD j Ow.z).o=(m.getD j Ow.z).o)) (l.length) ?_ ?_
  ·exact⟨[(5,_)],Kc,0,rfl,rfl,rfl,K1,fun j hj=>by omega⟩
  rintro _ _ _ ⟨k,rfl,rfl,rfl,hk,hI⟩;refine Ze (k:=Ze (k:=Z3 (k:=ZJ (k:=ZJ (k:=Z2s (k:=Z1k (k:=Zi (k:=Z4B ?_))))))));refine CW.cond rfl (fun hc=>?_) (fun hc=>?_)
  ·simp only[bz,reduceCtorEq] at hc
   all_goals
    refine ZB (k:=Zb (k:=Ze (k:=Z1j (k:=Ze (k:=Z0 (k:=Z4 (k:=Z4S ?_)))))));refine QW.pure rfl rfl rfl (PV.indexAddr (oh hX) Ux Jx rfl rfl rfl rfl (by first|(simp;done)|(simp;omega)|(rw[E.Fx.ct Ow.fx];done)|(rw[E.Fx.ct Ow.fx];omega)|(rw[E.Fx.iW Ow.fx];done)|(rw[E.Fx.iW Ow.fx];omega)) K1 K6) ?_
    refine QW.pure rfl rfl rfl (PV.eU Ow.fx (oh hX) Gx rfl rfl K1) ?_;refine QW.pure rfl rfl rfl (PV.oZ Ow.z Ow.fx (oh hX) Nx rfl rfl K1 rfl) ?_;refine Z4 (k:=Z4S ?_);refine QW.pure rfl rfl rfl (PV.indexAddr (oh hY) Ux Jx rfl rfl rfl rfl (by first|(simp;done)|(simp;omega)|(rw[E.Fx.ct Ow.fx];done)|(rw[E.Fx.ct Ow.fx];omega)|(rw[E.Fx.iW Ow.fx];done)|(rw[E.Fx.iW Ow.fx];omega)) K1 K6) ?_
    refine QW.pure rfl rfl rfl (PV.eU Ow.fx (oh hY) Gx rfl rfl K1) ?_;refine QW.pure rfl rfl rfl (PV.oZ Ow.z Ow.fx (oh hY) Nx rfl rfl K1 rfl) ?_;refine QW.pure rfl rfl rfl (PV.neq rfl rfl rfl) ?_;refine Z4S ?_
    all_goals
     refine QW.split 28 rfl (fun hc=>?_) (fun hc=>?_)<;>(try simp only[bz,reduceCtorEq] at hc)<;>try exact Kf
    all_goals
     refine Z9 (k:=?_)
    all_goals
     refine Z9 (k:=?_)
    all_goals
     refine Z4m (k:=?_)
    all_goals
     refine Z4n (k:=?_)
    all_goals
     refine Z4o (k:=?_)
    all_goals
     refine Z9 (k:=?_)
    all_goals
     refine Z9 (k:=?_)
    all_goals
     refine Z4p (k:=?_)
    all_goals
     refine Z4q (k:=?_)
    all_goals
     refine Z4r (k:=?_)
    all_goals
     refine Z7 (k:=?_)
    all_goals
     refine Z8 (k:=?_)
    all_goals
     refine Z4S ?_
    all_goals
     first|(refine QW.put 41 (.bool true) (v:=.bool true) rfl rfl ?_)|(refine QW.split 41 rfl (fun hc=>?_) (fun hc=>?_)<;>(try simp only[bz,reduceCtorEq] at hc)<;>try exact Kf)
    all_goals
     refine Z9 (k:=?_)
    all_goals
     refine Z9 (k:=?_)
    all_goals
     refine Z4m (k:=?_)
    all_goals
     refine Z4n (k:=?_)
    all_goals
     refine Z4o (k:=?_)
    all_goals
     refine Z9 (k:=?_)
    all_goals
     refine Z9 (k:=?_)
    all_goals
     refine Z4p (k:=?_)
    all_goals
     refine Z4q (k:=?_)
    all_goals
     refine Z4r (k:=?_)
    all_goals
     first|(refine QW.off rfl rfl rfl ?_)|((refine QW.call Mx rfl rfl rfl rfl rfl rfl _ (fun w hw=>bK.val (Ym (l.getD k Ow.z).A _ (l.getD k Ow.z).o.bs (m.getD k Ow.z).A _ (m.getD k Ow.z).o.bs w (hbl _ (ED K1)) (hw.rd (NK hmx K1)) (hw.rd (NK hmy K1)))) ?_))
    all_goals
     first|(refine QW.off rfl rfl rfl ?_)|(refine QW.pure rfl rfl rfl (PV.not rfl rfl) ?_)
    all_goals
     refine Z8 (k:=?_)
    all_goals
     refine QW.nil ?_;refine Z4B ?_;refine CW.cond rfl (fun hc=>?_) (fun hc=>?_)
     ·simp only[bz,reduceCtorEq] at hc
      all_goals
       refine Ze (k:=Z3 (k:=Zf (k:=Zi (k:=Zb (k:=Zm (k:=?_))))));refine pY ?_;refine Zv (k:=Zv (k:=?_));refine pY ?_;refine Zv (k:=Z4P ?_);exact⟨by rw[VW (k:=k) (z:=Ow.z) K1 K1 (fun e=>by simp_all)],rfl⟩
     first|((cases hc;done))|(simp only[bz,reduceCtorEq] at hc)
     all_goals
      refine ZB (k:=Z1u (k:=Zb (k:=Z3 (k:=ZJ (k:=Z1l (k:=Zf (k:=Zi (k:=Z1q (k:=?_)))))))));refine⟨_,[(5,_)],[],_,?_,Kc,rfl,k+1,rfl,rfl,rfl,K1,abS (f:=Ow.o) hI (aa9 K2 K2 K2)⟩;omega
  simp only[bz,reduceCtorEq] at hc
  all_goals
   refine Z1n (k:=Z1o (k:=Z1o (k:=Z1p (k:=Zb (k:=Ze (k:=Z3 (k:=Zf (k:=Zi (k:=Zb (k:=Zm (k:=Z4P ?_)))))))))));exact⟨by rw[Cf.map_eq (z:=Ow.z) K1 (fun j hj=>hI j K1)],rfl⟩
def Np(A:am)(c:Nat)(l:List Sw)(w0:World)(hX:ce w0 A (fl Sw.cells l)):
  CO 6 #[.slice A l.length c,J 200,J 5000] w0 fun v Hn=>∃b:Bool,v=.bool b/\Hn=[]/\(b=false->l.length<=200/\∀y∈l,y.x.bs.length<=5000):=by
 refine Zq ?_;refine Zc ?_ ?_
 ·refine Zk ?_;intros;exact⟨_,rfl,rfl,fun h=>by cases h⟩
 refine Z4t ?_;intro hc;refine CW.av [0,2] 0 rfl rfl (fun mm mods Hm=>∃k:Nat,∃s:Int,mm=l.length-k/\mods=[(8,J k),(7,J s)]/\Hm=[]/\(k<=l.length/\(0<=s/\s<=5000*k)/\∀j,j<k->(l.getD j Sw.z).x.bs.length<=5000)) (l.length) ?_ ?_
 ·exact⟨[(8,_),(7,_)],Kc,0,0,rfl,rfl,rfl,K1,K1,fun j hj=>by omega⟩
 rintro _ _ _ ⟨k,s,rfl,rfl,rfl,hk,hsm,hI⟩;refine Zc ?_ ?_
 ·refine Zc ?_ ?_
  ·refine Zk ?_;intros;exact⟨_,rfl,rfl,fun h=>by cases h⟩
  refine Z4t ?_;intros;refine⟨_,[(8,_),(7,_)],[],_,?_,Kc,rfl,k+1,_,rfl,rfl,rfl,K1,K1,SE hI K1⟩;omega
 refine Zk ?_;intros;exact⟨_,rfl,rfl,fun _=>⟨K1,Yq (fun j hj=>hI j K1)⟩⟩
def UU(A:am)(c:Nat)(l:List Ow)(t:Int)(w0:World)(hl:l.length<=10000000)(hbl:∀x∈l,x.o.bs.length<=100000)(hX:ce w0 A (fl Ow.cells l))(hmx:E.dc w0 (Old w0) (j2 l)):
  CO 13 #[.slice A l.length c,J t] w0 fun v Hn=>∃os:List Ow,∃A2 c2,os.map Ow.o=port (l.map Ow.o) t/\v=.slice A2 os.length c2/\Hn=[HP.row 50 3 A2 os.length c2 (fl Ow.cells os),HP.ro (j2 os)]:=by
 refine Zq ?_;refine Zx (k:=Zy (k:=Z4y ?_));refine CW.bM 50 3 ?_;refine Z3F (k:=Zr (k:=Z1I (k:=?_)));refine CW.av [1,8,9] 2 rfl rfl (fun mm mods Hm=>∃k:Nat,∃os:List Ow,∃A2:am,∃c2:Nat,mm=l.length-k/\mods=[(10,J k),(5,.slice A2 os.length c2)]/\Hm=[HP.row 50 3 A2 os.length c2 (fl Ow.cells os),HP.ro (j2 os)]/\k<=l.length/\os.length<=k/\os.map Ow.o=port ((l.take k).map Ow.o) t) (l.length) ?_ ?_
 ·exact⟨[(10,_),(5,_)],Kc,0,[],none,0,rfl,rfl,rfl,K1,by simp,rfl⟩
 rintro _ _ _ ⟨k,os,A2,c2,rfl,rfl,rfl,hk,hol,hos⟩;refine Zc ?_ ?_
 ·refine Zc ?_ ?_
  ·refine Z4t ?_;intros;refine OW.call Mx rfl rfl rfl rfl rfl rfl _ (fun w hw=>fF _ _ (l.getD k Ow.z).o.bs w (by have:=hbl _ (ED (show k<l.length by omega));omega) (hw.rd (NK hmx K1))) ?_;rintro _ _ ⟨AK,cK,rfl,rfl⟩
   refine Z4u ?_;first|refine CW.wh (Et:=5) 0 rfl (fun hkc=>?_)|refine CW.wh (Et:=5) 1 rfl (fun hkc=>?_)|refine CW.wh (Et:=5) 2 rfl (fun hkc=>?_)
   obtain⟨eK,rfl⟩:∃e,cK=(l.getD k Ow.z).o.bs.length+e:=⟨cK-(l.getD k Ow.z).o.bs.length,K1⟩;refine Z4t ?_;refine OW.bsl 3 (fl Ow.cells [(Ow.mk (l.getD k Ow.z).o AK eK)]) rfl rfl (fun w=>xc w) (fun AN=>?_);refine OW.dJ (j:=0) (i:=2) Ow.fx Ux Jx rfl rfl rfl rfl rfl rfl rfl rfl rfl rfl K3 K3 (fun A3 c3=>?_);refine Z4L ?_;first|refine OW.conv (dh [2,2,0] 2 rfl rfl (j2 (os++[(Ow.mk (l.getD k Ow.z).o AK eK)])) (pA os _ AK eK)) ?_|refine OW.conv (dh [3,3,0] 2 rfl rfl (j2 (os++[(Ow.mk (l.getD k Ow.z).o AK eK)])) (pA os _ AK eK)) ?_|refine OW.conv (dh [2,3,0] 2 rfl rfl (j2 (os++[(Ow.mk (l.getD k Ow.z).o AK eK)])) (pA os _ AK eK)) ?_|refine OW.conv (dh [1,2,0] 2 rfl rfl (j2 (os++[(Ow.mk (l.getD k Ow.z).o AK eK)])) (pA os _ AK eK)) ?_
   refine Z4t ?_;refine⟨_,[(10,_),(5,_)],[1,0],[_,_],?_,Kc,rfl,k+1,os++[(Ow.mk (l.getD k Ow.z).o AK eK)],A3,c3,rfl,rfl,rfl,K1,(by rw[aF];simp;omega),(by rw[Iw K1,Pj (by assumption),dZ,hos]<;>rfl)⟩
   omega
  refine Z4t ?_;intros;refine⟨_,[(10,_),(5,_)],[1,1],[_,_],?_,Kc,rfl,k+1,os,A2,c2,rfl,rfl,rfl,K1,K1,(by rw[Iw K1,Tn (by assumption)];exact hos)⟩
  omega
 refine Z4t ?_;intros;refine Z1e (k:=?_);exact⟨os,A2,c2,(by rw[show k=l.length from K1,bJ] at hos;exact hos),rfl,rfl⟩
def RA(A:am)(c:Nat)(l:List Sw)(t:Int)(w0:World)(hl:l.length<=100000)(hbl:∀y∈l,y.x.bs.length<=5000)(hX:ce w0 A (fl Sw.cells l))(hsw:∀y∈l,y.fit/\ce w0 y.A (aA y.x.bs)):
  CO 11 #[.slice A l.length c,J t] w0 fun v Hn=>∃ls:List Sw,∃A2 c2,(ls.map Sw.x=eA (l.map Sw.x) t/\ls.length<=l.length/\∀y∈ls,y.fit)/\v=.slice A2 ls.length c2/\Hn=[HP.row 48 6 A2 ls.length c2 (fl Sw.cells ls),HP.ro (wq ls)]:=by
 refine Zq ?_;refine Zx (k:=Zy (k:=Z4y ?_));refine CW.bM 48 6 ?_;refine Z3F (k:=Zr (k:=Z1I (k:=?_)));refine CW.av [1,8,9] 2 rfl rfl (fun mm mods Hm=>∃k:Nat,∃os:List Sw,∃A2:am,∃c2:Nat,mm=l.length-k/\mods=[(10,J k),(5,.slice A2 os.length c2)]/\Hm=[HP.row 48 6 A2 os.length c2 (fl Sw.cells os),HP.ro (wq os)]/\k<=l.length/\os.length<=k/\(os.map Sw.x=eA ((l.take k).map Sw.x) t/\∀y∈os,y.fit)) (l.length) ?_ ?_
 ·exact⟨[(10,_),(5,_)],Kc,0,[],none,0,rfl,rfl,rfl,K1,by simp,rfl,fun y hy=>by cases hy⟩
 rintro _ _ _ ⟨k,os,A2,c2,rfl,rfl,rfl,hk,hol,hos,hof⟩;refine Zc ?_ ?_
 ·refine Z4u ?_;intro hc;have hmk:(l.getD k Sw.z)∈l:=Pa K1;have hfk:=(hsw _ hmk).1;refine Zs ?_ ?_;all_goals first|(refine Zt ?_ ?_<;>try exact⟨⟩)|((iterate 5 (refine Z4x ?_;intros)))|skip
  all_goals first|(refine Zt ?_ ?_<;>try exact⟨⟩)|((iterate 5 (refine Z4x ?_;intros)))|skip
  all_goals
   refine Zd ?_ ?_
   ·try exact⟨⟩
    all_goals
     refine Z4t ?_;intros;refine OW.call Mx rfl rfl rfl rfl rfl rfl _ (fun w hw=>fF _ _ (l.getD k Sw.z).x.bs w (by have:=hbl _ hmk;omega) (hw.rd (hsw _ hmk).2)) ?_;rintro _ _ ⟨AK,cK,rfl,rfl⟩
     refine Z4u ?_;first|refine CW.wh (Et:=5) 0 rfl (fun hkc=>?_)|refine CW.wh (Et:=5) 1 rfl (fun hkc=>?_)|refine CW.wh (Et:=5) 2 rfl (fun hkc=>?_)
     refine Z4t ?_;refine OW.bsl 6 (fl Sw.cells [(Sw.mk (l.getD k Sw.z).x AK cK)]) rfl rfl (fun w=>Li w) (fun AN=>?_);refine OW.dJ (j:=0) (i:=2) Sw.fx Ux Jx rfl rfl rfl rfl rfl rfl rfl rfl rfl rfl K3 K3 (fun A3 c3=>?_);refine Z4L ?_;first|refine OW.conv (dh [2,2,0] 2 rfl rfl (wq (os++[(Sw.mk (l.getD k Sw.z).x AK cK)])) (pP os _ AK cK)) ?_|refine OW.conv (dh [3,3,0] 2 rfl rfl (wq (os++[(Sw.mk (l.getD k Sw.z).x AK cK)])) (pP os _ AK cK)) ?_|refine OW.conv (dh [2,3,0] 2 rfl rfl (wq (os++[(Sw.mk (l.getD k Sw.z).x AK cK)])) (pP os _ AK cK)) ?_|refine OW.conv (dh [1,2,0] 2 rfl rfl (wq (os++[(Sw.mk (l.getD k Sw.z).x AK cK)])) (pP os _ AK cK)) ?_
     refine Z4t ?_;refine⟨_,[(10,_),(5,_)],[1,0],[_,_],?_,Kc,rfl,k+1,os++[(Sw.mk (l.getD k Sw.z).x AK cK)],A3,c3,rfl,rfl,rfl,K1,(by rw[aF];simp;omega),(by rw[sS K1,Ye K1,dZ,hos]<;>rfl),(fun y hy=>(aN.1 hy).elim (hof y) (fun h=>by rw[bw.1 h];exact⟨hfk.kd,hfk.role,hkc⟩))⟩
     omega
   try exact⟨⟩
   all_goals
    refine Z4t ?_;intros;refine⟨_,[(10,_),(5,_)],[1,1],[_,_],?_,Kc,rfl,k+1,os,A2,c2,rfl,rfl,rfl,K1,K1,(by rw[sS K1,YX K1];exact hos),hof⟩
    omega
 refine Z4t ?_;intros;refine Z1e (k:=?_);exact⟨os,A2,c2,⟨(by rw[show k=l.length from K1,bJ] at hos;exact hos),K1,hof⟩,rfl,rfl⟩
def Y0(a b:Int)(A:am)(c:Nat)(l:ap)(w0:World):
  CO 16 #[.agg #[J a,J b,.slice A l.length c]] w0 fun v Hn=>∃b:Bool,v=.bool b/\Hn=[]:=by
 refine Zq ?_;refine Zk ?_;intros;exact⟨_,rfl,rfl⟩
def X9(m:Tm)(w0:World):
  CO 17 #[m.v] w0 fun v Hn=>∃b:Bool,v=.bool b/\Hn=[]:=by
 refine Zq ?_;refine Zs ?_ ?_;all_goals first|(refine Zt ?_ ?_<;>try exact⟨⟩)|((iterate 6 (refine Z4x ?_;intros)))|skip
 all_goals
  refine Zk ?_;intros;exact⟨_,rfl,rfl⟩
def abt(g:aP)(w0:World)(hg:g.rd w0 (Old w0))(hgf:g.q.fit):
  CO 5 #[g.v] w0 fun v Hn=>∃b:Bool,v=.bool b/\Hn=[]:=by
 obtain⟨hX1,hX2,hX3,hX4⟩:=id hg;have hgl:=aP.cj hgf;refine Zq ?_;refine Zg @Y0 ?_;refine Zs ?_ ?_;all_goals first|(refine Zt ?_ ?_<;>try exact⟨⟩)|((iterate 6 (refine Z4x ?_;intros)))|skip
 all_goals
  refine Zd ?_ ?_
  ·try exact⟨⟩
   all_goals
    refine Zk ?_;intros;exact⟨_,rfl,rfl⟩
  try exact⟨⟩
  all_goals
   refine Z4t ?_;intros;refine CW.av [1] 0 rfl rfl (fun mm mods Hm=>∃k:Nat,mm=g.ts.length-k/\mods=[(3,J k)]/\Hm=[]/\k<=g.ts.length) (g.ts.length) ?_ ?_
   ·exact⟨[(3,_)],Kc,0,rfl,rfl,rfl,K1⟩
   rintro _ _ _ ⟨k,rfl,rfl,rfl,hk⟩;refine Zc ?_ ?_
   ·refine Zg @X9 ?_;refine Zc ?_ ?_
    ·refine Zk ?_;intros;exact⟨_,rfl,rfl⟩
    refine Z4t ?_;intros;refine⟨_,[(3,_)],[0],_,?_,Kc,rfl,k+1,rfl,rfl,rfl,K1⟩;omega
   refine Zk ?_;intros;exact⟨_,rfl,rfl⟩
def Gk(A:am)(c:Nat)(b:ap)(K:am)(kc:Nat)(key:ap)(AL:am)(cL:Nat)(l:List Sw)(pm:List Yb)(g0:Cf.C)(w0:World)(hc8:b.length<=c)(hl:b.length<=100000)(hd:Cf.dec b=(g0,0))(hck:Cf.check g0=0)(hsr:fV g0=0)(hst:0<=g0.st/\g0.st<=last)(hX:ce w0 A (aA b))(hY:ce w0 K (aA key))(hL:ce w0 AL (fl Sw.cells l))(hll:l.length<=1000)(hsw:∀y∈l,y.fit/\ce w0 y.A (aA y.x.bs))(hK:ce w0 (some ⟨1,0,.none⟩) (dm ks))(hP:Pm w0 (Old w0) pm):
  CO 10 #[.slice A b.length c,.slice K key.length kc,.slice AL l.length cL] w0 fun v Hn=>∃os:List Ow,∃AO cO,(os.map Ow.o=w6 g0 key (l.map Sw.x)/\os.length<=5000000/\∀x∈os,x.o.bs.length<=100000)/\v=.tuple #[.slice AO os.length cO,J (if keyed key=true then 0 else 2)]/\Hn=[HP.row 50 3 AO os.length cO (fl Ow.cells os),HP.ro (j2 os)]:=by
 refine(HH A c b K kc key AL cL l pm g0 w0 hc8 hl hd hck hsr hst hX hY hL hll hsw hK hP).mono fun e w2 ⟨v,Hn,h1,h2,h4⟩=>?_;rcases h2 with⟨hk,os,AO,cO,hos,rfl,rfl⟩|⟨hk,rfl,rfl⟩
 ·have ho:=R9 (key:=key) hck hst (l:=l.map Sw.x) (fun x hx=>by obtain⟨y,hy,rfl⟩:=cm.1 hx;exact(hsw y hy).1.role)
  rw[<-hos,bZ,bZ] at ho;exact⟨_,_,h1,⟨os,AO,cO,⟨by unfold w6;rw[aa hk];exact hos,K1,fun x hx=>by have:=ho.2 x.o (cm.2 ⟨x,hx,rfl⟩);omega⟩,by rw[aa hk],rfl⟩,h4⟩
 exact⟨_,[HP.row 50 3 none 0 0 [],HP.ro []],h1,⟨[],none,0,⟨by unfold w6;rw[ae (by rw[hk];decide)];rfl,by decide,fun x hx=>by cases hx⟩,by rw[ae (by rw[hk];decide)];rfl,rfl⟩,(h4.wg (fun p hp=>by cases hp)).bM 50 3⟩
def Db(g:aP)(K:am)(kc:Nat)(key:ap)(AL:am)(cL:Nat)(l:List Sw)(t:Int)(pm:List Yb)(w0:World)(hg:g.rd w0 (Old w0))(hgf:g.q.fit)(hY:ce w0 K (aA key))(hL:ce w0 AL (fl Sw.cells l))(hsw:∀y∈l,y.fit/\ce w0 y.A (aA y.x.bs))(hK:ce w0 (some ⟨1,0,.none⟩) (dm ks))(hP:Pm w0 (Old w0) pm):
  CV 3 #[g.v,.slice K key.length kc,.slice AL l.length cL,J t] w0 (.bool true):=by
 obtain⟨hX1,hX2,hX3,hX4⟩:=id hg;have hgl:=aP.cj hgf;refine Zq ?_;refine Ze (k:=Z3 (k:=Z1i (k:=fun B1=>Zf (k:=Zi (k:=Zb (k:=Ze (k:=Z4z ?_)))))));refine OW.call Mx rfl rfl rfl rfl rfl rfl _ (fun w hw=>Fk pm w (hw.rd hK) ⟨hw.rd hP.r,fun s hs=>hw.rd (hP.m s hs),hP.e⟩) ?_;rintro _ _ ⟨rfl,rfl⟩;refine Zf (k:=Zi (k:=Zb (k:=Ze (k:=Ze (k:=Z3 (k:=Z3M (k:=?_)))))));refine OW.call Mx rfl rfl rfl rfl rfl rfl _ (fun w hw=>abt g w K29 K2) ?_;rintro _ _ ⟨bG,rfl,rfl⟩;refine Z4A ?_
 all_goals
  refine OW.split 23 rfl (fun hc=>?_) (fun hc=>?_)<;>(try simp only[bz,reduceCtorEq] at hc)<;>try exact Kf
 all_goals
  refine Z4K ?_
 all_goals
  first|(refine OW.off rfl rfl rfl ?_)|((refine OW.call Mx rfl rfl rfl rfl rfl rfl _ (fun w hw=>Np AL cL l w (hw.rd hL)) ?_;rintro _ _ ⟨bH,rfl,rfl,hHv⟩))
 all_goals
  refine Z4F ?_
 all_goals
  refine Z4A ?_
 all_goals
  first|(refine OW.put 27 (.bool true) (v:=.bool true) rfl rfl ?_)|(refine OW.split 27 rfl (fun hc=>?_) (fun hc=>?_)<;>(try simp only[bz,reduceCtorEq] at hc)<;>try exact Kf)
 all_goals
  refine Z4K ?_
 all_goals
  refine Z27 (k:=?_)
 all_goals
  refine Z1T (k:=?_)
 all_goals
  refine Z4F ?_
 all_goals
  refine Z4A ?_
 all_goals
  first|(refine OW.put 32 (.bool true) (v:=.bool true) rfl rfl ?_)|(refine OW.split 32 rfl (fun hc=>?_) (fun hc=>?_)<;>(try simp only[bz,reduceCtorEq] at hc)<;>try exact Kf)
 all_goals
  refine Z4K ?_
 all_goals
  refine ZP (k:=?_)
 all_goals
  refine Z4F ?_
 all_goals
  refine Zi (k:=Z4B ?_);refine CW.cond rfl (fun hc=>?_) (fun hc=>?_)
  ·first|((cases hc;done))|(simp only[bz,reduceCtorEq] at hc)
   all_goals
    refine Ze (k:=Z3 (k:=ZJ (k:=Zf (k:=Zi (k:=Zb (k:=Zm (k:=Zv (k:=Z4P ?_))))))));exact⟨by first|rfl|simp_all,rfl⟩
  first|((cases hc;done))|(simp only[bz,reduceCtorEq] at hc)
  all_goals
   refine ZB (k:=Zb (k:=Ze (k:=Z3 (k:=Z3M (k:=Z4A ?_)))));refine OW.call Mx rfl rfl rfl rfl rfl rfl _ (fun w hw=>ac8 g t w K29 K2) ?_;rintro _ _ ⟨gO,rfl,rfl,hgO⟩;refine ZJ (k:=Z2P (k:=Z2P (k:=Z41 (k:=fun B2=>Z2x (k:=Zf (k:=Zi (k:=Zb (k:=Ze (k:=Ze (k:=Z3 (k:=ZJ (k:=ZK (k:=Z4A ?_)))))))))))))
   all_goals
    refine OW.split 45 rfl (fun hc=>?_) (fun hc=>?_)<;>(try simp only[bz,reduceCtorEq] at hc)<;>try exact Kf
   all_goals
    first|(refine OW.off rfl rfl rfl ?_)|(refine OW.pure rfl rfl rfl (PV.jD (i:=2) Ix rfl rfl rfl rfl) ?_)
   all_goals
    first|(refine OW.off rfl rfl rfl ?_)|((refine OW.call Mx rfl rfl rfl rfl rfl rfl _ (fun w hw=>Pc g w ?_ ?_) ?_;(focus (refine hw.lN ?_;assumption));(focus (assumption));rintro _ _ ⟨rfl,rfl⟩))
   all_goals
    refine ZM (k:=?_)
   all_goals
    refine Z4F ?_
   all_goals
    refine Zi (k:=Z4B ?_);refine CW.cond rfl (fun hc=>?_) (fun hc=>?_)
    ·simp only[bz,reduceCtorEq] at hc
     all_goals
      refine Ze (k:=Z3 (k:=ZJ (k:=Zf (k:=Zi (k:=Zb (k:=Zm (k:=Zv (k:=Z4P ?_))))))));exact⟨by first|rfl|simp_all,rfl⟩
    first|((cases hc;done))|(simp only[bz,reduceCtorEq] at hc)
    all_goals
     refine ZB (k:=Zb (k:=Z4I ?_));have hso:fV g.q=0:=by assumption
     have hT:xO g.q t:=top hgf.st.1 K2 hso;obtain⟨hlb1,hlb⟩:=hHv K2;have hfO:gO.q.fit:=by rw[hgO];exact Km hgf
     have hOq:gO.q=Cf.only g.q t:=by rw[hgO,hT.on]
     refine Z4z ?_;refine OW.pure rfl rfl rfl (PV.jD (i:=2) Ix rfl rfl rfl rfl) ?_;refine OW.call Mx rfl rfl rfl rfl rfl rfl _ (fun w hw=>LU g w K29 K2) ?_;rintro _ _ ⟨AEn,cEn,rfl,rfl⟩;refine ZJ (k:=Z2P (k:=Z2P (k:=Zf (k:=Zf (k:=Zi (k:=Zb (k:=Ze (k:=Z3 (k:=Z3L (k:=?_))))))))));refine OW.call Mx rfl rfl rfl rfl rfl rfl _ (fun w hw=>LU gO w (by first|exact hw.iY (i:=0) rfl|exact hw.iY (i:=1) rfl|exact hw.iY (i:=2) rfl|exact hw.iY (i:=3) rfl|exact hw.iY (i:=4) rfl|exact hw.iY (i:=5) rfl) hfO) ?_;rintro _ _ ⟨AE2,cE2,rfl,rfl⟩
     refine ZJ (k:=Z2P (k:=Z2P (k:=Zf (k:=Zf (k:=Zi (k:=Zb (k:=Z4I ?_)))))));rw[hOq];refine CW.put 13 (J 0) rfl (by rw[(nN hT.ck).2]<;>rfl) ?_
     refine CW.put 15 (J 0) rfl (by rw[(nN hT.za).2]<;>rfl) ?_
     refine Z3 (k:=ZJ (k:=ZJ (k:=Z4A ?_)));refine OW.call Mx rfl rfl rfl rfl rfl rfl _ (fun w hw=>Gk AEn cEn (kZ g.q).1 K kc key AL cL l pm g.q w K69 (nN hT.ck).1 hT.dec hT.ck hso hT.st K35 (hw.rd hY) (hw.rd hL) K1 (fun y hy=>⟨(hsw y hy).1,hw.rd (hsw y hy).2⟩) (hw.rd hK) ⟨hw.rd hP.r,fun s hs=>hw.rd (hP.m s hs),hP.e⟩) ?_;rintro _ _ ⟨os,AO,cO,⟨ho1,ho2,ho3⟩,rfl,rfl⟩;refine ZJ (k:=Z2P (k:=Z2P (k:=Zf (k:=Zf (k:=Zi (k:=Zb (k:=Ze (k:=Z3 (k:=ZJ (k:=ZJ (k:=ZJ (k:=Z4A ?_))))))))))));refine OW.call Mx rfl rfl rfl rfl rfl rfl _ (fun w hw=>RA AL cL l t w K1 hlb (hw.rd hL) (fun y hy=>⟨(hsw y hy).1,hw.rd (hsw y hy).2⟩)) ?_;rintro _ _ ⟨ls,A2,c2,⟨hls,hll2,hlf⟩,rfl,rfl⟩;refine OW.call Mx rfl rfl rfl rfl rfl rfl _ (fun w hw=>Gk AE2 cE2 (kZ (Cf.only g.q t)).1 K kc key A2 c2 ls pm (Cf.only g.q t) w K69 (nN hT.za).1 hT.aem hT.za hT.so2 hT.st2 K35 (hw.rd hY) K35 K1 (fun y hy=>⟨hlf y hy,(by first|exact(hw.aL (i:=0) rfl) (y.A,aA y.x.bs) (cm.2 ⟨y,hy,rfl⟩)|exact(hw.aL (i:=1) rfl) (y.A,aA y.x.bs) (cm.2 ⟨y,hy,rfl⟩)|exact(hw.aL (i:=2) rfl) (y.A,aA y.x.bs) (cm.2 ⟨y,hy,rfl⟩)|exact(hw.aL (i:=3) rfl) (y.A,aA y.x.bs) (cm.2 ⟨y,hy,rfl⟩)|exact(hw.aL (i:=4) rfl) (y.A,aA y.x.bs) (cm.2 ⟨y,hy,rfl⟩)|exact(hw.aL (i:=5) rfl) (y.A,aA y.x.bs) (cm.2 ⟨y,hy,rfl⟩))⟩) (hw.rd hK) ⟨hw.rd hP.r,fun s hs=>hw.rd (hP.m s hs),hP.e⟩) ?_;rintro _ _ ⟨o2,AO2,cO2,⟨hp1,hp2,hp3⟩,rfl,rfl⟩
     refine ZJ (k:=Z2P (k:=Z2P (k:=Zf (k:=Zf (k:=Zi (k:=Zb (k:=Ze (k:=Z3 (k:=ZJ (k:=Z4A ?_))))))))))
     all_goals
      refine OW.put 78 (.bool true) (v:=.bool true) rfl rfl ?_
     all_goals
      refine Z4A ?_
     all_goals
      refine Z37 (k:=?_)
     all_goals
      refine Z4s (k:=?_)
     all_goals
      refine Z4A ?_
     all_goals
      refine OW.put 82 (.bool true) (v:=.bool true) rfl rfl ?_
     all_goals
      refine Z4A ?_
     all_goals
      refine Z37 (k:=?_)
     all_goals
      refine Z4s (k:=?_)
     all_goals
      refine Z4A ?_
     all_goals
      refine OW.put 86 (.bool true) (v:=.bool true) rfl rfl ?_
     all_goals
      refine Z4A ?_
     all_goals
      refine Z4A ?_
     all_goals
      refine Z37 (k:=?_)
     all_goals
      refine OW.put 89 (.bool true) rfl (aq Value.bool (bu rfl)) ?_
     all_goals
      refine Z4s (k:=?_)
     all_goals
      refine Z4A ?_
     all_goals
      refine OW.put 91 (.bool true) (v:=.bool true) rfl rfl ?_
     all_goals
      refine Z4A ?_
     all_goals
      refine Z4A ?_
     all_goals
      refine OW.call Mx rfl rfl rfl rfl rfl rfl _ (fun w hw=>UU AO cO os t w K1 ho3 K70 K71) ?_;rintro _ _ ⟨ps,AP,cP,hps,rfl,rfl⟩
     all_goals
      refine Z4A ?_
     all_goals
      refine OW.call Mx rfl rfl rfl rfl rfl rfl _ (fun w hw=>Qn AP cP ps AO2 cO2 o2 w (by have:=(C9 hps).1;omega) ((C9 hps).2 _ ho3) K70 K70 K71 K71) ?_;rintro _ _ ⟨rfl,rfl⟩
     all_goals
      refine OW.put 96 (.bool true) rfl (aq Value.bool (bu (by rw[hps,ho1,hp1,hls,hT.al]))) ?_
     all_goals
      refine Z4s (k:=?_)
     all_goals
      refine Zf (k:=?_)
     all_goals
      refine Zi (k:=Zb (k:=Zm (k:=Z4P ?_)));exact⟨by first|rfl|simp_all,rfl⟩
namespace E
open Go Go.RowKit Go.WideShapes Go.ChangeShapes Go.ChangeAt
section
variable{H:Type}{enc:TypeId×Value->H}{P:Program}{w:World}{base:Nat}{sp:Nat->Bool}{hd:Bool}{fuel n:Nat}{t e:TypeId}{cs:bi}{x:DataW H×List MemPlace}
theorem J1{k:IntKind}{l:bv}(ht:P.underlying t=some (.array n e))(he:P.underlying e=some (.int k))(hc:P.cellsOf e=1)(hct:P.cellsOf t=n)(h:DataW.trod enc P w base sp hd fuel t cs=some x)
  (hx:x.1=.agg (l.map fun z=>.lit (.int k z))):cs=l.map (Value.int k):=by
 obtain⟨xs,m,_,rfl,hl,hn,hel⟩:=DataW.trod_array ht h;rw[hct] at hl;simp only[DataW.agg.injEq] at hx;have hll:l.length=n:=by grind [List.length_map]
 refine fU (by grind) fun i h1 h2=>?_
 have h3:=hel i K1;rw[hc,mF,aC (show i<xs.length by omega)] at h3
 obtain⟨z,e1,e2,_⟩:=DataW.trod_int he h3
 have e3:cs[i]=.int k z:=by
  have:=aq (fun q:bi=>q[0]?) e1;grind
 have e4:l[i]'K1=z:=by
  have:=aq (fun q:List (DataW H)=>q[i]?) hx;grind
 grind
instance:Inhabited Yb:=⟨Yb.z⟩
theorem SA{zs:bv}{q:ap}(h:lits (H:=H) .u8 zs=q.map fun b=>.lit (.int .u8 (b.toNat:Int))):zs=q.map fun b=>(b.toNat:Int):=by
 refine fU (by have:=aq List.length h;simpa[lits] using this) fun i h1 h2=>?_
 rw[bZ] at h2;have:=aq (fun l:List (DataW H)=>l[i]?) h;grind [lits]
theorem Jc{e2:TypeId}{L:List (ap)}(ht:P.underlying t=some (.array n e))(he:P.underlying e=some (.slice e2))(he2:P.underlying e2=some (.int .u8))(hc:P.cellsOf e=1)(hc2:P.cellsOf e2=1)(hct:P.cellsOf t=n)
  (h:DataW.trod enc P w base sp hd fuel t cs=some x) (hx:x.1=.agg (L.map fun q=>.slice (q.map fun b=>.lit (.int .u8 (b.toNat:Int))) [])):
  ∃pm:List Yb,pm.map Yb.l=L/\cs=fl Yb.cs pm/\∀s∈pm,ce w s.A (aA s.l):=by
 obtain⟨xs,m,_,rfl,hl,hn,hel⟩:=DataW.trod_array ht h;rw[hct] at hl;simp only[DataW.agg.injEq] at hx;have hll:L.length=n:=by grind [List.length_map]
 have hall:∀i,i<n->∃y:Yb,y.l=L.getD i []/\cs[i]? =some (.slice y.A y.l.length y.c)/\ce w y.A (aA y.l):=by
  intro i hi;have h3:=hel i hi;rw[hc,mF,aC (show i<xs.length by omega)] at h3
  have e4:(xs[i]'K1).1=.slice ((L.getD i []).map fun b=>.lit (.int .u8 (b.toNat:Int))) []:=by
   have:=aq (fun q:List (DataW H)=>q[i]?) hx;grind
  have hcell:∀v,(cs.drop i).take 1=[v]->cs[i]? =some v:=fun v e1=>by
   have:=aq (fun q:bi=>q[0]?) e1;grind
  rcases open_ints he he2 hc2 h3 with⟨_,e5⟩|⟨a,len,cap,zs,e1,_,hle,_,hz,e5,hcl,hwf⟩
  ·rw[e5] at e4;cases e4
  rw[e5] at e4;simp only[DataW.slice.injEq] at e4;have q1:=SA e4.1
  have q2:zs.drop len=[]:=by
   grind [lits,List.length_nil]
  have q3:zs=zs.take len:=by
   grind [List.take_append_drop]
  have q4:zs=(L.getD i []).map fun b=>(b.toNat:Int):=q3.trans q1
  have q5:len=(L.getD i []).length:=by
   grind
  refine⟨⟨some a,cap,L.getD i []⟩,rfl,by rw[hcell _ e1,q5],eO fun j v hv=>?_⟩
  grind [aA]
 obtain⟨pm,hp1,hp2⟩:=mA hall;have hg:∀i (h:i<pm.length),pm.getD i default=pm[i]:=fun i h=>by rw[aW,aC h,dW]
 have hfl:∀l:List Yb,fl Yb.cs l=l.map fun s=>Value.slice s.A s.l.length s.c:=by
  intro l;induction l with
  |nil=>rfl
  |cons s r ih=>rw[fl,ih];rfl
 refine⟨pm,fU (by grind) fun i h1 h2=>?_,?_,fun s hs=>?_⟩
 ·grind
 ·rw[hfl];refine nB fun i=>?_;grind
 grind [List.getElem_of_mem]
end
theorem gk1:Tryz.prog.globalNamed "dunnage/digest.constants" =some 1:=K0
theorem gk0:Tryz.prog.globalNamed "dunnage/auth.permissions" =some 0:=K0
theorem gt1:(Tryz.prog.globals[1]?).map (·.type)=some 459:=K0
theorem gt0:(Tryz.prog.globals[0]?).map (·.type)=some 366:=K0
theorem Xw{H:Type}:(Rows.laid_dunnage_digest_constants:DataW H)=.agg (ks.map fun z=>.lit (.int .u32 z)):=rfl
theorem Ji{H:Type}:(Rows.laid_dunnage_auth_permissions:DataW H)=.agg (perms.map fun q=>.slice (q.map fun b=>.lit (.int .u8 (b.toNat:Int))) []):=rfl
theorem add_zero(g i:Nat):(⟨g,0,none⟩:Addr).add i=⟨g,i,none⟩:=by simp[Addr.add];exact fun h=>h.symm
theorem RQ{W:World}(h:laidMetH prog Rows.topAloneRow.laid W):Rd W (Old W) (some ⟨1,0,.none⟩) (dm ks)/\∃pm,Pm W (Old W) pm:=by
 rw[MakeChecks.laidMetH_plain _ _ _ K0] at h;obtain⟨ps,⟨g0,t0,cs0,f0,p0,q0,hg0,ht0,hv0,Ue,⟨g1,t1,cs1,f1,p1,q1,hg1,ht1,hv1,hd1,_,_⟩,_⟩,_,_⟩:=h;obtain rfl:=Option.some.inj (gk1.symm.trans hg0);obtain rfl:=Option.some.inj (gk0.symm.trans hg1);obtain rfl:=Option.some.inj (gt1.symm.trans ht0);obtain rfl:=Option.some.inj (gt0.symm.trans ht1);have hk:=J1 (l:=ks) Ux K0 K0 K0 Ue Xw;obtain⟨pm,hp1,hp2,hp3⟩:=Jc (e2:=5) (L:=perms) Ux K0 K0 K0 K0 K0 hd1 Ji;refine⟨eO fun i v hv=>?_,pm,eO fun i v hv=>?_,hp3,hp1⟩
 ·rw[add_zero,World.var?_cell hg0 hv0 i,<-hv,<-kh,hk];rfl
 grind [add_zero,World.var?_cell]
end E
end Go.Proofs.YtcgecopggfjojaaGreatDoor
