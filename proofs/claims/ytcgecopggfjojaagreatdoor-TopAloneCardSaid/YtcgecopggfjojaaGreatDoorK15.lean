/- Part 15: the logic, the plain laws and the walks behind TopAlone (lemmas only; each says its own conditions). -/
import Derived.Test.YtcgecopggfjojaaGreatDoorK14
set_option maxRecDepth 100000
set_option linter.all false
set_option maxHeartbeats 0
namespace Go.Proofs.YtcgecopggfjojaaGreatDoor
open Go Go.RowKit Go.Proofs.Tryz E Fl Cf Od Bf Cr Rt Tr Gw Dg Au Wi
attribute [local irreducible] E.CW E.OW E.QW E.AW E.lJ E.blockK E.PV
def Jm(f:Fe)(w0:World)(hm:E.dc w0 (Old w0) f.mem)(hsm:f.sm):
  CO 187 #[f.v] w0 fun v Hn=>∃z:Fe,z.q=f.q/\v=z.v/\Hn=[HP.row 198 6 z.A z.cs.length z.c (fl Cw.cells z.cs),HP.ro ((z.A2,fl Cl.cs z.cl)::jN z.cs)]:=by
 obtain⟨hs1,hs2,hs3⟩:=id hsm;have hXC:=Fe.rc hm;have hXL:=Fe.rl hm;refine Zq ?_;refine Z4t ?_;intros;refine OW.Hq Cw.z Cw.fx _ Ux Jx rfl rfl rfl rfl rfl rfl rfl K4 K1 (fun AN=>?_);refine Z4u ?_;refine CW.wA (jN (List.replicate f.cs.length Cw.z)) (Lz _) ?_;refine Zr (k:=Z1g (k:=?_));refine CW.av [1,2,3,11,12] 2 rfl rfl (fun mm mods Hm=>∃k:Nat,∃ds:List Cw,mm=f.cs.length-k/\mods=[(13,J k)]/\Hm=[HP.row 198 6 AN f.cs.length f.cs.length (fl Cw.cells ds),HP.ro (jN ds)]/\k<=f.cs.length/\ds.length=f.cs.length/\∀j,j<k->(ds.getD j Cw.z).q=(f.cs.getD j Cw.z).q) (f.cs.length) ?_ ?_
 ·exact⟨[(13,_)],Kc,0,_,rfl,rfl,rfl,K1,by simp,fun j hj=>by omega⟩
 rintro _ _ _ ⟨k,ds,rfl,rfl,rfl,hk,hdl,hdq⟩;refine Zc ?_ ?_
 ·refine Z4t ?_;intros;refine OW.call Mx rfl rfl rfl rfl rfl rfl _ (fun w hw=>TV (bm f k) w (hw.sy (Fe.rw hm K1)) (hs3 k K1).1 (hs3 k K1).2.1 (hs3 k K1).2.2) ?_;rintro _ _ ⟨zT,hzT,rfl,rfl⟩;refine Z4t ?_;refine OW.u6 (i:=2) (zT) Cw.z Cw.fx Js rfl rfl rfl rfl rfl rfl K1 ?_;refine OW.gT [1,2,0,1,1] 2 rfl rfl (jN (ds.set k zT)) (fun p hp=>(aN.1 (BZ hp)).elim (fun h=>by simp[h]) (fun h=>by simp[h])) ?_
  refine Z4t ?_;refine⟨_,[(13,_)],[1,0,0,0],[_,_],?_,Kc,rfl,k+1,ds.set k zT,rfl,rfl,rfl,K1,by simp[hdl],fun j hj=>by rw[fY K1];split;(subst_vars;exact hzT);(exact hdq j K1)⟩
  omega
 refine Zg @XI ?_;refine Zx (k:=Z4J ?_);intro _ AK cK;refine OW.gT [2,3,2,0] 2 rfl rfl ((AK,fl Cl.cs f.cl)::jN ds) K7 ?_;refine OW.chunk 1 (HP.row 198 6 AN ds.length f.cs.length (fl Cw.cells ds)) rfl (by rw[hdl]) ?_
 refine Z4t ?_;refine KR.we [0,0] rfl (rv.cell Ix rfl (dU 2 rfl) rfl) rfl ?_;exact⟨⟨ds,AN,f.cs.length,f.cl,AK,cK,f.tk⟩,by unfold Fe.q;rw[E.map_eq hdl (fun j hj=>hdq j K1)],by unfold Fe.v Fe.cells;rw[hdl],rfl⟩
def adN(g:aP)(t p q tick:Int)(r:bv)(w0:World)(hg:g.rd w0 (Old w0))(hgf:g.q.fit)(ht:0<=tick/\tick<18446744073709551616)(h:aZ g.q t p q tick=(p::r,0)):CO 195 #[g.v,J t,.agg #[J p,J q],V tick] w0 fun v Hn=>∃A c,v=.tuple #[.slice A (r.length+1) c,J 0]/\Hn=[HP.row 3 1 A (r.length+1) c (ints (p::r))]:=by
 have:=Vk g t p q tick w0 hg hgf ht;rw[h] at this;exact this
def ub(g:aP)(t:Int)(y:Cw)(tick:Int)(w0:World)(hg:g.rd w0 (Old w0))(hgf:g.q.fit)(hT:fB g.q t)(htk:0<=tick/\tick<=last)(hmem:E.dc w0 (Old w0) y.mem)(hV:Cr.V (Cr.ev g.q t) tick y.q)(hmv:0<=y.mv):
  CO 152 #[g.v,J t,y.v,V tick] w0 fun v Hn=>∃A c,v=.slice A (aB (Cr.ev g.q t) t tick y.q).length c/\Hn=[HP.row 258 4 A (aB (Cr.ev g.q t) t tick y.q).length c (fl Cl.cs (aB (Cr.ev g.q t) t tick y.q))]:=by
 obtain⟨hrl,hol,hql⟩:=Cw.small hT hV;have htl:=gU hT;have htm:=hg.tm hT;have hmw:=hV.mv.2;have hmw2:y.mv<(y.rs.length:Int):=hmw;obtain⟨p9,q9,r9,hp9,hq9,ha9,hrt9,hlen9,hpq9,hnp9,hal9,hcl9⟩:=mover (fy hT) htk hV hmv;have hrt8:aZ g.q t p9 q9 tick=(p9::r9,0):=hrt9;have hgo:(Cr.goal (Cr.ev g.q t) y.b.q y.mv.toNat (Cr.at_ y.rs y.mv.toNat)).2=true:=(hV.go hmv).g;have hwr:=hmem.at 0 rfl;have htk9:=htk.2;unfold last at htk9;refine Zq ?_;refine Zg @PY ?_;refine Z4L ?_;intros;refine OW.put 9 (J q9) rfl (by rw[hq9]<;>rfl) ?_
 refine Zx (k:=Zy (k:=Z23 (k:=?_)));iterate 10 refine Z4v ?_
 refine E.AW.put 36 (J p9) rfl (by rw[hp9]<;>rfl) ?_
 iterate 2 refine Z4v ?_
 refine Z1L (k:=?_);refine Zg @adN ?_;refine Zx (k:=Zy (k:=Z4y ?_));intro ARo cRo;refine CW.cap 0 rfl (fun hcR=>?_);refine CW.bM 258 4 ?_;refine Z4t ?_;refine OW.pure rfl rfl rfl (PV.tail Ux Jx rfl rfl rfl K1) ?_;refine OW.put 46 (.slice (tl ARo cRo) r9.length (cRo-1)) rfl rfl ?_;refine Z4t ?_;refine CW.av [1,6,46,47] 1 rfl rfl (fun mm mods Hm=>∃k:Nat,∃A:am,∃c:Nat,mm=r9.length-k/\mods=[(48,J k),(3,V (tick+k)),(12,.slice A (clFrom t y.mv tick (r9.take k)).length c)]/\Hm=[HP.row 258 4 A (clFrom t y.mv tick (r9.take k)).length c (fl Cl.cs (clFrom t y.mv tick (r9.take k)))]/\k<=r9.length) (r9.length) ?_ ?_
 ·exact⟨[(48,_),(3,_),(12,_)],Kc,0,.none,0,rfl,(by rw[show tick+((0:Nat):Int)=tick by omega]<;>rfl),rfl,K1⟩
 rintro _ _ _ ⟨k,A,c,rfl,rfl,rfl,hk⟩;refine Zc ?_ ?_
 ·refine Z4t ?_;intros;refine OW.pure rfl rfl rfl (PV.aY (fun w hw=>(show ce w (tl ARo cRo) (ints r9) from Rd.tail (l:=p9::r9) (hw.bh (i:=1) rfl) hcR)) Ux Jx rfl rfl rfl rfl (by first|(simp;done)|(simp;omega)|(rw[E.Fx.ct Cr.R.fx];done)|(rw[E.Fx.ct Cr.R.fx];omega)|(rw[E.Fx.iW Cr.R.fx];done)|(rw[E.Fx.iW Cr.R.fx];omega)|(rw[E.Fx.ct Cl.fx];done)|(rw[E.Fx.ct Cl.fx];omega)|(rw[E.Fx.iW Cl.fx];done)|(rw[E.Fx.iW Cl.fx];omega)) K1) ?_
  refine OW.pure rfl rfl rfl (PV.qf (fun w hw=>(show ce w (tl ARo cRo) (ints r9) from Rd.tail (l:=p9::r9) (hw.bh (i:=1) rfl) hcR)) Nx rfl rfl K1) ?_;have hk1:=CG t y.mv r9 tick k K1;have hl9:(clFrom t y.mv tick (r9.take k)).length=k:=by rw[tV,cf];omega
  refine Z4t ?_;refine OW.bsl 4 (fl Cl.cs [(⟨tick+k+1,r9.getD k 0,t,y.mv⟩:Cl)]) rfl rfl (fun w=>xF w) (fun A3=>?_);refine OW.dJ (j:=0) (i:=0) Cl.fx Ux Jx rfl rfl rfl rfl rfl rfl rfl rfl rfl rfl K3 K3 (fun A4 c4=>?_);refine Z4t ?_;refine⟨_,[(48,_),(3,_),(12,_)],[0,0,0,0],[_],?_,Kc,rfl,k+1,A4,c4,rfl,(by rw[hk1,show tick+((k+1:Nat):Int)=tick+k+1 by omega]<;>rfl),by rw[hk1],K1⟩
  omega
 refine Zl ?_;intros;obtain rfl:k=r9.length:=K1;exact⟨A,c,by rw[hcl9,bJ]<;>rfl,by rw[hcl9,bJ]<;>rfl⟩
def XJ(B Ba Br m:Nat)(L:List Cl)(g:aP)(t:Int)(y:Cw)(tick:Int)(S:Nat->Prop)(w0:World)(hS:(HP.dj [HP.aw B 297 [.map (some Ba),.map (some Br)],HP.mw prog 299 Ba m (Tr.l2 prog) Tr.o2 (gV (L)),HP.mw prog 305 Br m (l3 prog) o3 (ko (L))]).bA S w0)(hb:∀k,S k->k<w0.heap.size)(hU:Uq L)(hm:m<=90000)(hg:g.rd w0 (Fm w0 S))(hgf:g.q.fit)(hT:fB g.q t)(htk:0<=tick/\tick<=last)(hmem:E.dc w0 (Fm w0 S) y.mem)(hV:Cr.V (Cr.ev g.q t) tick y.q):
  CF 121 #[Y B 0,g.v,J t,y.v,V tick] w0 S fun v Hn=>∃m2,m2<=m+1024/\Hn=[(HP.dj [HP.aw B 297 [.map (some Ba),.map (some Br)],HP.mw prog 299 Ba m2 (Tr.l2 prog) Tr.o2 (gV ((jM (Cr.ev g.q t) t tick y.q L))),HP.mw prog 305 Br m2 (l3 prog) o3 (ko ((jM (Cr.ev g.q t) t tick y.q L)))])]:=by
 obtain⟨hrl,hol,hql⟩:=Cw.small hT hV;have htl:=gU hT;have htm:=hg.tm hT;have hwr:=hmem.at 0 rfl;have hmw2:y.mv<(y.rs.length:Int):=hV.mv.2;have htn:=hT.iF;have hcln:=kW (t:=t) (fy hT) htk hV;refine Zp (HA.au hS hb) ?_;refine Zc ?_ ?_
 ·refine Z4t ?_;intros;refine(KR.zero [3] rfl rfl ?_).2;have e9:(jM (Cr.ev g.q t) t tick y.q L)=L:=aa (show y.mv<0 by omega)
  exact⟨m,K1,by rw[e9]⟩
 refine Zc ?_ ?_
 ·refine Z4t ?_;intro _ B2 B3 hc hc;refine OW.aU Mx rfl rfl rfl rfl rfl rfl _ 3 rfl (fun w S hw hs hb hc=>Mp B Ba Br m L (fun x=>decide (x.tn=t)&&decide (x.rb=y.mv)) 158 #[Y B2 0,Y B3 0] S w hs (fun k hk=>(hb k hk).1) hU Mx (fun w9 h9 x=>Sz x B2 B3 y t w9 (h9.rd ((ez hc (i:=1) rfl).at 0 rfl)) (h9.rd ((ez hc (i:=0) rfl).at 0 rfl)))) ?_;rintro _ _ rfl;refine Zl ?_;have e9:(jM (Cr.ev g.q t) t tick y.q L)=L.filter fun x=> !(decide (x.tn=t)&&decide (x.rb=y.mv)):=(ae (show¬y.mv<0 by omega)).trans (aa (show 0<(y.rs.getD y.mv.toNat Cr.R.z).sl by first|assumption|omega))
  exact⟨m,K1,by rw[e9]⟩
 refine Z4t ?_;intro _ _ _ hc hc;refine OW.aU Mx rfl rfl rfl rfl rfl rfl _ 3 rfl (fun w S hw hs hb hc=>Vq B Ba Br m L t y.mv S w hs (fun k hk=>(hb k hk).1) hU.f) ?_;rintro _ _ ⟨rfl,rfl⟩;refine Zc ?_ ?_
 ·refine Zl ?_;intros;have e9:(jM (Cr.ev g.q t) t tick y.q L)=L:=(ae (show¬y.mv<0 by omega)).trans ((ae (show¬0<(y.rs.getD y.mv.toNat Cr.R.z).sl by first|assumption|(intro h;simp_all;done)|omega)).trans (aa (show Tr.has L t y.mv=true by assumption)))
  exact⟨m,K1,by rw[e9]⟩
 refine Zg @ub ?_;refine Z4t ?_;intro hc _ _;refine CW.sels [1,0,0,0,0] rfl ?_;refine CW.av [0,35,36] 1 rfl rfl (fun mm mods Hm=>∃k:Nat,∃m2:Nat,mm=(aB (Cr.ev g.q t) t tick y.q).length-k/\mods=[(37,J k)]/\Hm=[(HP.dj [HP.aw B 297 [.map (some Ba),.map (some Br)],HP.mw prog 299 Ba m2 (Tr.l2 prog) Tr.o2 (gV ((((aB (Cr.ev g.q t) t tick y.q).take k).foldl put L))),HP.mw prog 305 Br m2 (l3 prog) o3 (ko ((((aB (Cr.ev g.q t) t tick y.q).take k).foldl put L)))])]/\k<=(aB (Cr.ev g.q t) t tick y.q).length/\m2<=m+k) ((aB (Cr.ev g.q t) t tick y.q).length) ?_ ?_
 ·exact⟨[(37,_)],Kc,0,m,rfl,rfl,rfl,K1,K1⟩
 rintro _ _ _ ⟨k,m2,rfl,rfl,rfl,hk,hmk⟩;refine Zc ?_ ?_
 ·refine Z4u ?_;intro hc;have hxf:=uP (fy hT) htk (t:=t) K30 hV (by show y.mv<_;omega) (Hj (L:=(aB (Cr.ev g.q t) t tick y.q)) (k:=k) K1)
  refine Zh @VC ?_;refine Z4t ?_;intro _ m3 _;refine⟨_,[(37,_)],[0,1,1,1,1],[_],?_,Kc,rfl,k+1,m3,rfl,rfl,by rw[<-FH K1],K1,K1⟩
  omega
 refine Zl ?_;intros;have e9:(jM (Cr.ev g.q t) t tick y.q L)=(((aB (Cr.ev g.q t) t tick y.q).take k).foldl put L):=(ae (show¬y.mv<0 by omega)).trans ((ae (show¬0<(y.rs.getD y.mv.toNat Cr.R.z).sl by first|assumption|(intro h;simp_all;done)|omega)).trans ((ae (show¬Tr.has L t y.mv=true by simp_all)).trans (by rw[show k=(aB (Cr.ev g.q t) t tick y.q).length by omega,bJ])))
 exact⟨m2,K1,by rw[e9]⟩
def Je(g:aP)(f:Fe)(w0:World)(hck:Cf.check g.q=0)(hg:g.rd w0 (Old w0))(hgf:g.q.fit)(hm:E.dc w0 (Old w0) f.mem)(hF:FI g.q f.q):
  CV 117 #[g.v,f.v] w0 (J 0):=by
 have hsm:=Fe.small hck hF;obtain⟨hs1,hs2,hs3⟩:=id hsm;have hXC:=Fe.rc hm;have hXL:=Fe.rl hm;have hln:=Fe.ln hF;have hl3:=Fe.lim hck;have htk:0<=f.tk/\f.tk<=last:=hF.tk;have htk9:=htk.2;unfold last at htk9;have hgl:=aP.eJ g;have hok:=fI hck hF;have hUq:=Fe.uq hck hF
 have h0t:∀x∈f.cl,0<=x.tk:=fun x hx=>by
   have:=(hUq.f x hx).1;unfold rM at this;omega
 refine Zq ?_;refine Zg @o0 ?_;refine Zg @C2 ?_;refine Z4t ?_;intro _ _ hc hc BT Ba Br m _;refine CW.av [2,3,6,42,43] 1 rfl rfl (fun mm mods Hm=>∃k:Nat,mm=f.cs.length-k/\mods=[(44,J k),(8,J (nl f.cl k))]/\Hm=[(HP.dj [HP.aw BT 297 [.map (some Ba),.map (some Br)],HP.mw prog 299 Ba m (Tr.l2 prog) Tr.o2 (gV (f.cl)),HP.mw prog 305 Br m (l3 prog) o3 (ko (f.cl))])]/\k<=f.cs.length) (f.cs.length) ?_ ?_
 ·exact⟨[(44,_),(8,_)],Kc,0,rfl,(by rw[UB hck hF]<;>rfl),rfl,K1⟩
 rintro _ _ _ ⟨k,rfl,rfl,rfl,hk⟩;refine Zc ?_ ?_
 ·refine Zg @mK ?_;refine Zc ?_ ?_
  ·refine Z4u ?_;intro hc _ hc;have hnp:¬Pr g.q k:=by unfold Pr;simp_all
   refine Z4t ?_;refine OW.call Mx rfl rfl rfl rfl rfl rfl _ (fun w hw=>Mm (bm f k) w (Fe.ab hF K1 hnp)) ?_;rintro _ _ ⟨rfl,rfl⟩;refine Z4t ?_;refine⟨_,[(44,_),(8,_)],[1,1,1],[_],?_,Kc,rfl,k+1,rfl,(by rw[(tA hck hF (k:=k) K1).2.2 hnp]<;>rfl),rfl,K1⟩
   omega
  refine Z4u ?_;intro hc _ hc;have hpr:Pr g.q k:=by assumption
  have hT:=Fe.tn hck hpr;have hV:=Fe.cw hF hpr;refine Z4t ?_;refine OW.call Mx rfl rfl rfl rfl rfl rfl _ (fun w hw=>IJ g (k:Int) (bm f k) f.tk w (hw.lN hg) hgf hT htk (hw.sy (Fe.rw hm K1)) hV) ?_;rintro _ _ ⟨rfl,rfl⟩;refine Zs ?_ ?_;all_goals first|(iterate 4 refine Z4x ?_;intros)|intros
  all_goals first|(refine OW.off rfl rfl rfl ?_)|(refine OW.aU Mx rfl rfl rfl rfl rfl rfl _ 1 rfl (fun w S hw hs hb hc=>Vq BT Ba Br m f.cl (k:Int) (bm f k).mv S w hs (fun k hk=>(hb k hk).1) hUq.f) ?_;rintro _ _ ⟨rfl,rfl⟩)|skip
  all_goals
   refine Zd ?_ ?_
   ·try exact⟨⟩
    all_goals
     refine Z4t ?_;intros;first|(refine⟨_,[(44,_),(8,_)],[1,1,1],[_],?_,Kc,rfl,k+1,rfl,(by rw[(tA hck hF (k:=k) K1).1 hpr (by first|(left;show(f.cs.getD k Cw.z).mv<0;omega)|(right;assumption))]<;>rfl),rfl,K1⟩)|(refine⟨_,[(44,_),(8,_)],[0,1,1],[_],?_,Kc,rfl,k+1,rfl,(by rw[(tA hck hF (k:=k) K1).1 hpr (by first|(left;show(f.cs.getD k Cw.z).mv<0;omega)|(right;assumption))]<;>rfl),rfl,K1⟩)
     omega
   try exact⟨⟩
   all_goals
    refine Z4u ?_;intros;have hnst:=(tA hck hF (k:=k) K1).2.1 hpr;have hmv:0<=(bm f k).mv:=by show 0<=(f.cs.getD k Cw.z).mv;omega
    have hhs:Tr.has f.cl (k:Int) (bm f k).mv=true:=by assumption
    refine Z4t ?_;refine OW.call Mx rfl rfl rfl rfl rfl rfl _ (fun w hw=>ub g (k:Int) (bm f k) f.tk w (hw.lN hg) hgf hT htk (hw.sy (Fe.rw hm K1)) hV K1) ?_;rintro _ _ ⟨AC,cC,rfl,rfl⟩;refine Z4t ?_;refine CW.sels [1,0,0,0,0] rfl ?_;refine CW.av [2,3,6,42,43,44,79,80] 1 rfl rfl (fun mm mods Hm=>∃j:Nat,mm=(aB (Cr.ev g.q (k:Int)) (k:Int) f.tk (bm f k).q).length-j/\mods=[(81,J j),(8,J (nl f.cl k-j))]/\Hm=[(HP.dj [HP.aw BT 297 [.map (some Ba),.map (some Br)],HP.mw prog 299 Ba m (Tr.l2 prog) Tr.o2 (gV (f.cl)),HP.mw prog 305 Br m (l3 prog) o3 (ko (f.cl))])]/\j<=(aB (Cr.ev g.q (k:Int)) (k:Int) f.tk (bm f k).q).length) ((aB (Cr.ev g.q (k:Int)) (k:Int) f.tk (bm f k).q).length) ?_ ?_
    ·exact⟨[(81,_),(8,_)],Kc,0,rfl,K7,rfl,K1⟩
    rintro _ _ _ ⟨j,rfl,rfl,rfl,hj⟩;refine Zc ?_ ?_
    ·refine Zx (k:=Z4y ?_);intro hc _;refine CW.open 1 rfl ?_;have hxm:(aB (Cr.ev g.q (k:Int)) (k:Int) f.tk (bm f k).q).getD j Cl.z∈f.cl:=(hnst hmv hhs).1 _ (Hj K1);have hxf:=hUq.f _ hxm;have hxa:=hUq.abu hxm;refine CW.dV mixed [0,0,1] rfl ?_;iterate 9 refine Z4v ?_
     refine E.AW.first 9 rfl K0 K0 K0 rfl rfl rfl (PV.W6 (i:=1) (a:=(((aB (Cr.ev g.q (k:Int)) (k:Int) f.tk (bm f k).q).getD j Cl.z).tk,((aB (Cr.ev g.q (k:Int)) (k:Int) f.tk (bm f k).q).getD j Cl.z).pl)) pb Jx rfl rfl rfl rfl hxf.a) ?_;refine Z4v ?_;refine E.AW.put 94 (.agg #[V ((aB (Cr.ev g.q (k:Int)) (k:Int) f.tk (bm f k).q).getD j Cl.z).tk,J ((aB (Cr.ev g.q (k:Int)) (k:Int) f.tk (bm f k).q).getD j Cl.z).pl,J ((aB (Cr.ev g.q (k:Int)) (k:Int) f.tk (bm f k).q).getD j Cl.z).tn,J ((aB (Cr.ev g.q (k:Int)) (k:Int) f.tk (bm f k).q).getD j Cl.z).rb]) rfl (by show Option.getD (gV f.cl (oO ((aB (Cr.ev g.q (k:Int)) (k:Int) f.tk (bm f k).q).getD j Cl.z))) _=_;rw[hxa];rfl) ?_
     refine E.AW.first 11 rfl K0 K0 K0 rfl rfl rfl (PV.yD (p:=True) YP rfl rfl rfl (Q9 _ _ _ _ (AY hxf.1) (Tr.I9 hxf.2.1) (Tr.I9 hxf.2.2.1) (Tr.I9 hxf.2.2.2)).choose_spec (Q9 _ _ _ _ (AY hxf.1) (Tr.I9 hxf.2.1) (Tr.I9 hxf.2.2.1) (Tr.I9 hxf.2.2.2)).choose_spec K7) ?_;have hnl:=acQ f.cl k;have hcn:=kW (t:=(k:Int)) (fy hT) htk hV;refine Z4u ?_;refine CW.aX [0,0,0,0,0,0,0,0] 3 rfl rfl ?_;refine Z4t ?_;refine⟨_,[(81,_),(8,_)],[0,1,1,1,1],[_],?_,Kc,rfl,j+1,rfl,(by rw[show nl f.cl k-((j+1:Nat):Int)=nl f.cl k-j-1 by omega]<;>rfl),rfl,K1⟩
     omega
    refine Z4t ?_;intros;refine⟨_,[(44,_),(8,_)],[0,2,2],[_],?_,Kc,rfl,k+1,rfl,(by rw[(hnst hmv hhs).2,show((aB (Cr.ev g.q (k:Int)) (k:Int) f.tk (bm f k).q).length:Int)=j by omega]<;>rfl),rfl,K1⟩
    omega
 refine Z4u ?_;intro hc;refine Z4z ?_;refine OW.put 8 (J 0) rfl (by rw[show k=f.cs.length by omega,Yt hck hF]) ?_
 refine Zk ?_;exact⟨rfl,rfl⟩
def U1:∀p∈Cw.z.mem,p.2=[]:=fun p hp=>by
 simp only[Cw.mem,Cw.z,er,bg,or_false] at hp
 rcases hp with rfl|rfl|rfl<;>rfl
def L7(g:aP)(t:Int)(y:Cw)(n tick:Int)(w0:World)(hg:g.rd w0 (Old w0))(hgf:g.q.fit)(hT:fB g.q t)(htk:0<=tick/\tick<=last)(hmem:E.dc w0 (Old w0) y.mem)(hV:Cr.V (Cr.ev g.q t) tick y.q):CO 138 #[g.v,J t,y.v,J n,V tick] w0 fun v Hn=>∃z:Cw,v=.tuple #[z.v,J (ew y.q n).2]/\Hn=[HP.ro z.mem]/\((ew y.q n).2=0->z.q=(ew y.q n).1):=
 (Jo g t y n tick w0 hg hgf hT htk hmem hV).mono fun e w h=>by
  obtain⟨v,Hn,h1,h2,h4⟩:=h
  rcases h2 with⟨hr,z,hz,rfl,rfl⟩|⟨hr,rfl,rfl⟩
  ·have e9:ew y.q n=(Cr.due y.q n.toNat,0):=ae (show¬(n<0\/(y.rs.length:Int)<=n) by omega)
   exact⟨_,_,h1,⟨z,by rw[e9],rfl,fun _=>by rw[e9];exact hz⟩,h4⟩
  ·have e9:ew y.q n=(y.q,2):=aa (show(n<0\/(y.rs.length:Int)<=n) by omega)
   exact⟨_,_,h1,⟨Cw.z,by rw[e9],rfl,fun h=>by rw[e9] at h;cases h⟩,h4.wg U1⟩
def KW(g:aP)(t:Int)(y:Cw)(n tick:Int)(w0:World)(hg:g.rd w0 (Old w0))(hgf:g.q.fit)(hT:fB g.q t)(htk:0<=tick/\tick<=last)(hmem:E.dc w0 (Old w0) y.mem)(hV:Cr.V (Cr.ev g.q t) tick y.q):CO 212 #[g.v,J t,y.v,J n,V tick] w0 fun v Hn=>∃z:Cw,v=.tuple #[z.v,J (ee (Cr.ev g.q t) y.q n).2]/\Hn=[HP.ro z.mem]/\((ee (Cr.ev g.q t) y.q n).2=0->z.q=(ee (Cr.ev g.q t) y.q n).1):=
 (Fq g t y n tick w0 hg hgf hT htk hmem hV).mono fun e w h=>by
  have hck:eb (Cr.ev g.q t).m y.q.b=0:=dN.2 hV.bk
  have hmv:l7 (Cr.ev g.q t).m y.q.b n 5 0=Od.move y.b.q n 5 0:=aa hck
  obtain⟨v,Hn,h1,h2,h4⟩:=h
  rcases h2 with⟨b,hb,z,hz,rfl,rfl⟩|⟨e,hb,rfl,rfl⟩
  ·have e9:ee (Cr.ev g.q t) y.q n=({y.q with b:=b},0):=by unfold ee;rw[hmv,hb]
   exact⟨_,_,h1,⟨z,by rw[e9],rfl,fun _=>by rw[e9];exact hz⟩,h4⟩
  ·have e9:ee (Cr.ev g.q t) y.q n=(y.q,e):=by unfold ee;rw[hmv,hb]
   exact⟨_,_,h1,⟨Cw.z,by rw[e9],rfl,fun h=>by rw[e9] at h;exact absurd h (vo hb)⟩,h4.wg U1⟩
def IE(g:aP)(t:Int)(y:Cw)(pick drop tick:Int)(w0:World)(hg:g.rd w0 (Old w0))(hgf:g.q.fit)(hT:fB g.q t)(htk:0<=tick/\tick<=last)(hmem:E.dc w0 (Old w0) y.mem)(hV:Cr.V (Cr.ev g.q t) tick y.q):CO 210 #[g.v,J t,y.v,J pick,J drop,V tick] w0 fun v Hn=>∃z:Cw,v=.tuple #[z.v,J (if(submW (Cr.ev g.q t) tick y.q pick drop).2=0 then((submW (Cr.ev g.q t) tick y.q pick drop).1.b.os.length:Int) else 0),J (submW (Cr.ev g.q t) tick y.q pick drop).2]/\Hn=[HP.ro z.mem]/\((submW (Cr.ev g.q t) tick y.q pick drop).2=0->z.q=(submW (Cr.ev g.q t) tick y.q pick drop).1):=
 (D3 g t y pick drop tick w0 hg hgf hT htk hmem hV).mono fun e w h=>by
  obtain⟨v,Hn,h1,h2,h4⟩:=h
  rcases h2 with⟨b,hb,z,hz,rfl,rfl⟩|⟨e,hb,rfl,rfl⟩
  ·have e9:submW (Cr.ev g.q t) tick y.q pick drop=({y.q with b:=b},0):=by
    have hb2:dH (Cr.ev g.q t).m y.q.b pick drop tick=.ok b:=hb;unfold submW;rw[hb2]
   exact⟨_,_,h1,⟨z,by rw[e9];rfl,rfl,fun _=>by rw[e9];exact hz⟩,h4⟩
  ·have hne:¬e=0:=vS hb
   have e9:submW (Cr.ev g.q t) tick y.q pick drop=(y.q,e):=by
    have hb2:dH (Cr.ev g.q t).m y.q.b pick drop tick=.error e:=hb;unfold submW;rw[hb2]
   exact⟨_,_,h1,⟨Cw.z,by rw[e9];simp only[ae hne],rfl,fun h=>by rw[e9] at h;exact absurd h hne⟩,h4.wg U1⟩
def PH(g:aP)(f:Fe)(t n:Int)(y:Cw)(P1 P2 P3 P4:Nat)(S:Nat->Prop)(w0:World)(hS:(HP.ro []).bA S w0)(hb:∀k,S k->k<w0.heap.size)(hg:g.rd w0 (Fm w0 S))(hgf:g.q.fit)(hT:fB g.q t)(htk:0<=f.tk/\f.tk<=last)(hmem:E.dc w0 (Fm w0 S) y.mem)(hV:Cr.V (Cr.ev g.q t) f.tk y.q)(h1:(Rd w0 (Fm w0 S) (some ⟨P1,0,.none⟩) g.cells))(h2:(Rd w0 (Fm w0 S) (some ⟨P2,0,.none⟩) [J t]))(h3:(Rd w0 (Fm w0 S) (some ⟨P3,0,.none⟩) [J n]))(h4:(Rd w0 (Fm w0 S) (some ⟨P4,0,.none⟩) f.cells)):
  CF 137 #[y.v,Y P1 0,Y P2 0,Y P3 0,Y P4 0] w0 S fun v Hn=>∃z:Cw,v=.tuple #[z.v,J (ew y.q n).2]/\Hn=[HP.ro [],HP.ro z.mem]/\((ew y.q n).2=0->z.q=(ew y.q n).1):=by
 refine Zp (HA.au hS hb) ?_;refine Zg @L7 ?_;refine Z4t ?_;intro _ _ zS hzS;refine Z3R (k:=?_);exact⟨zS,rfl,rfl,hzS⟩
def KM(g:aP)(f:Fe)(t n:Int)(y:Cw)(P1 P2 P3 P4:Nat)(S:Nat->Prop)(w0:World)(hS:(HP.ro []).bA S w0)(hb:∀k,S k->k<w0.heap.size)(hg:g.rd w0 (Fm w0 S))(hgf:g.q.fit)(hT:fB g.q t)(htk:0<=f.tk/\f.tk<=last)(hmem:E.dc w0 (Fm w0 S) y.mem)(hV:Cr.V (Cr.ev g.q t) f.tk y.q)(h1:(Rd w0 (Fm w0 S) (some ⟨P1,0,.none⟩) g.cells))(h2:(Rd w0 (Fm w0 S) (some ⟨P2,0,.none⟩) [J t]))(h3:(Rd w0 (Fm w0 S) (some ⟨P3,0,.none⟩) [J n]))(h4:(Rd w0 (Fm w0 S) (some ⟨P4,0,.none⟩) f.cells)):
  CF 211 #[y.v,Y P1 0,Y P2 0,Y P3 0,Y P4 0] w0 S fun v Hn=>∃z:Cw,v=.tuple #[z.v,J (ee (Cr.ev g.q t) y.q n).2]/\Hn=[HP.ro [],HP.ro z.mem]/\((ee (Cr.ev g.q t) y.q n).2=0->z.q=(ee (Cr.ev g.q t) y.q n).1):=by
 refine Zp (HA.au hS hb) ?_;refine Zg @KW ?_;refine Z4t ?_;intro _ _ zS hzS;refine Z3R (k:=?_);exact⟨zS,rfl,rfl,hzS⟩
def Vx:∀p∈Fe.z.mem,p.2=[]:=fun p hp=>by
 simp only[Fe.mem,Fe.z,jN,List.flatMap_nil,er,bg,or_false] at hp
 rcases hp with rfl|rfl<;>rfl
def J4(g:aP)(f:Fe)(t pick drop i0:Int)(y:Cw)(P1 P2 P3 P4 P5 PX:Nat)(S:Nat->Prop)(w0:World)(hS:(HP.aw PX 3 [J i0]).bA S w0)(hb:∀k,S k->k<w0.heap.size)(hg:g.rd w0 (Fm w0 S))(hgf:g.q.fit)(hT:fB g.q t)(htk:0<=f.tk/\f.tk<=last)(hmem:E.dc w0 (Fm w0 S) y.mem)(hV:Cr.V (Cr.ev g.q t) f.tk y.q)(h1:(Rd w0 (Fm w0 S) (some ⟨P1,0,.none⟩) g.cells))(h2:(Rd w0 (Fm w0 S) (some ⟨P2,0,.none⟩) [J t]))(h3:(Rd w0 (Fm w0 S) (some ⟨P3,0,.none⟩) [J pick]))(h4:(Rd w0 (Fm w0 S) (some ⟨P4,0,.none⟩) [J drop]))(h5:(Rd w0 (Fm w0 S) (some ⟨P5,0,.none⟩) f.cells)):
  CF 209 #[y.v,Y P1 0,Y P2 0,Y P3 0,Y P4 0,Y P5 0,Y PX 0] w0 S fun v Hn=>∃z:Cw,v=.tuple #[z.v,J (submW (Cr.ev g.q t) f.tk y.q pick drop).2]/\Hn=[HP.aw PX 3 [J (if(submW (Cr.ev g.q t) f.tk y.q pick drop).2=0 then((submW (Cr.ev g.q t) f.tk y.q pick drop).1.b.os.length:Int) else 0)],HP.ro z.mem]/\((submW (Cr.ev g.q t) f.tk y.q pick drop).2=0->z.q=(submW (Cr.ev g.q t) f.tk y.q pick drop).1):=by
 refine Zp (HA.au hS hb) ?_;refine Zg @IE ?_;refine Z4t ?_;intro _ _ zS hzS _;refine KR.kR [1,2] rfl (rv.cell Ix rfl (dU 0 rfl) rfl) rfl rfl ?_;exact⟨zS,rfl,rfl,hzS⟩
def uV(g:aP)(f:Fe)(t:Int)(fb:Nat)(aE:Array Value)(p p2:HP)(w2:Cr.W)(e:Int)(S:Nat->Prop)(w0:World)(hS:p.bA S w0)(hb:∀k,S k->k<w0.heap.size)(hck:Cf.check g.q=0)(hg:g.rd w0 (Fm w0 S))(hgf:g.q.fit)(hm:E.dc w0 (Fm w0 S) f.mem)(hF:FI g.q f.q)(hn:E.Nm prog fb)(hq:ag g.q.ts t=true->∀w Sx,HA w0 (Fm w0 S) [p] w->p.bA Sx w->(∀k,Sx k->k<w.heap.size/\¬Fm w0 S k)->Calls prog fb (#[(bm f t.toNat).v]++aE) w (bK w (Fm w Sx) fun v Hn=>∃z:Cw,v=.tuple #[z.v,J e]/\Hn=[p2,HP.ro z.mem]/\(e=0->z.q=w2))):
  CF 136 #[g.v,f.v,J t,.func (.func fb) #[] aE] w0 S fun v Hn=>∃z:Fe,v=.tuple #[z.v,J (if ag g.q.ts t=true then e else 2)]/\Hn=[if ag g.q.ts t=true then p2 else p,HP.ro z.mem]/\((ag g.q.ts t=true/\e=0)->z.q=bL f.q t.toNat w2):=by
 have hsm:=Fe.small hck hF;obtain⟨hs1,hs2,hs3⟩:=id hsm;have hXC:=Fe.rc hm;have hXL:=Fe.rl hm;have hln:=Fe.ln hF;have hl3:=Fe.lim hck;have htk:0<=f.tk/\f.tk<=last:=hF.tk;have htk9:=htk.2;unfold last at htk9;have hgl:=aP.eJ g;have hok:=fI hck hF;have hUq:=Fe.uq hck hF
 have h0t:∀x∈f.cl,0<=x.tk:=fun x hx=>by
   have:=(hUq.f x hx).1;unfold rM at this;omega
 refine Zp (HA.au hS hb) ?_;refine Zg @Je ?_;refine Zg @mK ?_;refine Zc ?_ ?_
 ·refine Z4u ?_;intros;have hnp:¬ag g.q.ts t=true:=by simp_all
  refine CW.wA Fe.z.mem Vx ?_;refine Z4t ?_;refine KR.kR [4,1] rfl (rv.cell Ix rfl (dU 0 rfl) rfl) rfl rfl ?_;exact⟨Fe.z,by rw[ae hnp]<;>rfl,by rw[ae hnp],fun h=>absurd h.1 hnp⟩
 refine Z4u ?_;intro _ _ _ hc;have hpt:ag g.q.ts t=true:=by assumption
 have hpb:=dS hpt;refine Z4t ?_;refine OW.NL hn rfl rfl rfl rfl rfl rfl _ 3 rfl (fun w S2 hw hs hb2 hc=>hq hpt w S2 (hw.sels (is:=[0]) rfl) hs hb2) ?_;rintro _ _ ⟨zW,rfl,rfl,hzW⟩;refine Zc ?_ ?_
 ·refine Z4u ?_;intros;refine CW.wA Fe.z.mem Vx ?_;refine Zr (k:=Z3R (k:=?_));exact⟨Fe.z,by rw[aa hpt]<;>rfl,by rw[aa hpt],fun h=>absurd h.2 K64⟩
 refine Zg @Jm ?_;refine Z4u ?_;intro _ _ zF hzF;have hzl:zF.cs.length=f.cs.length:=by have:=aq (fun q=>q.cs.length) hzF;rw[Fe.len,Fe.len] at this;exact this
 refine Z4t ?_;refine OW.u6 (i:=1) (zW) Cw.z Cw.fx Js rfl rfl rfl rfl rfl rfl K1 ?_;refine Zx (k:=Z4J ?_);refine OW.gT [1,2,4,0,2] 3 rfl rfl (Fe.mk (zF.cs.set t.toNat zW) zF.A zF.c zF.cl zF.A2 zF.c2 zF.tk).mem (Fe.TG t.toNat zW) ?_;refine Z4t ?_;refine KR.kR [2,0] rfl (rv.cell Ix rfl (dU 1 rfl) rfl) rfl rfl ?_;exact⟨Fe.mk (zF.cs.set t.toNat zW) zF.A zF.c zF.cl zF.A2 zF.c2 zF.tk,by rw[aa hpt,show e=0 by omega];simp only[Fe.v,Fe.cells,aM],by rw[aa hpt],fun h=>by rw[<-hzW h.2];exact Fe.O0 hzF t.toNat zW⟩
def JT(g:aP)(f:Fe)(t n:Int)(w0:World)(hck:Cf.check g.q=0)(hg:g.rd w0 (Old w0))(hgf:g.q.fit)(hm:E.dc w0 (Old w0) f.mem)(hF:FI g.q f.q):
  CO 92 #[g.v,f.v,J t,J n] w0 fun v Hn=>∃z:Fe,v=.tuple #[z.v,J (if ag g.q.ts t=true then(ew (bm f t.toNat).q n).2 else 2)]/\Hn=[HP.ro z.mem]/\((ag g.q.ts t=true/\(ew (bm f t.toNat).q n).2=0)->z.q=bL f.q t.toNat (ew (bm f t.toNat).q n).1):=by
 have hsm:=Fe.small hck hF;obtain⟨hs1,hs2,hs3⟩:=id hsm;have hXC:=Fe.rc hm;have hXL:=Fe.rl hm;have hln:=Fe.ln hF;have hl3:=Fe.lim hck;have htk:0<=f.tk/\f.tk<=last:=hF.tk;have htk9:=htk.2;unfold last at htk9;have hgl:=aP.eJ g;have hok:=fI hck hF;have hUq:=Fe.uq hck hF
 have h0t:∀x∈f.cl,0<=x.tk:=fun x hx=>by
   have:=(hUq.f x hx).1;unfold rM at this;omega
 have htl:ag g.q.ts t=true->t.toNat<f.cs.length:=fun hp=>by have:=dS hp;rw[hln];omega
 have hVt:ag g.q.ts t=true->Cr.V (Cr.ev g.q t) f.tk (bm f t.toNat).q:=fun hp=>by
   have hb:=dS hp;have:=Fe.cw hF (k:=t.toNat) K66;rwa[af hb.1] at this
 refine Zq ?_;refine Zx (k:=Z4y ?_);intro B1 B2 B3 B4 _;refine Z3F (k:=Z4t ?_);refine OW.aU Mx rfl rfl rfl rfl rfl rfl _ 0 rfl (fun w S hw hs hb hc=>uV g f t 137 #[Y B1 0,Y B3 0,Y B4 0,Y B2 0] (HP.ro []) (HP.ro []) (ew (bm f t.toNat).q n).1 (ew (bm f t.toNat).q n).2 S w hs (fun k hk=>(hb k hk).1) hck (hw.sH hg hb) hgf (hw.vJ hm hb) hF Mx (fun hpt w9 Sx h9 hs9 hb9=>PH g f t n (bm f t.toNat) B1 B3 B4 B2 Sx w9 hs9 (fun k hk=>(hb9 k hk).1) (h9.sH (hw.sH hg hb) hb9) hgf ⟨hck,hpt⟩ htk (Fe.rw (h9.vJ (hw.vJ hm hb) hb9) (htl hpt)) (hVt hpt) (h9.fD ((ez hc (i:=4) rfl).at 0 rfl) hb9) (h9.fD ((ez hc (i:=2) rfl).at 0 rfl) hb9) (h9.fD ((ez hc (i:=1) rfl).at 0 rfl) hb9) (h9.fD ((ez hc (i:=3) rfl).at 0 rfl) hb9))) ?_;rintro _ _ ⟨zF,rfl,rfl,hzF⟩;refine Z4t ?_;refine KR.kR [2] rfl (rv.cell Ix rfl (dU 0 rfl) rfl) rfl rfl ?_;exact⟨zF,rfl,rfl,hzF⟩
def DR(g:aP)(f:Fe)(t n:Int)(w0:World)(hck:Cf.check g.q=0)(hg:g.rd w0 (Old w0))(hgf:g.q.fit)(hm:E.dc w0 (Old w0) f.mem)(hF:FI g.q f.q):
  CO 180 #[g.v,f.v,J t,J n] w0 fun v Hn=>∃z:Fe,v=.tuple #[z.v,J (if ag g.q.ts t=true then(ee (Cr.ev g.q t) (bm f t.toNat).q n).2 else 2)]/\Hn=[HP.ro z.mem]/\((ag g.q.ts t=true/\(ee (Cr.ev g.q t) (bm f t.toNat).q n).2=0)->z.q=bL f.q t.toNat (ee (Cr.ev g.q t) (bm f t.toNat).q n).1):=by
 have hsm:=Fe.small hck hF;obtain⟨hs1,hs2,hs3⟩:=id hsm;have hXC:=Fe.rc hm;have hXL:=Fe.rl hm;have hln:=Fe.ln hF;have hl3:=Fe.lim hck;have htk:0<=f.tk/\f.tk<=last:=hF.tk;have htk9:=htk.2;unfold last at htk9;have hgl:=aP.eJ g;have hok:=fI hck hF;have hUq:=Fe.uq hck hF
 have h0t:∀x∈f.cl,0<=x.tk:=fun x hx=>by
   have:=(hUq.f x hx).1;unfold rM at this;omega
 have htl:ag g.q.ts t=true->t.toNat<f.cs.length:=fun hp=>by have:=dS hp;rw[hln];omega
 have hVt:ag g.q.ts t=true->Cr.V (Cr.ev g.q t) f.tk (bm f t.toNat).q:=fun hp=>by
   have hb:=dS hp;have:=Fe.cw hF (k:=t.toNat) K66;rwa[af hb.1] at this
 refine Zq ?_;refine Zx (k:=Z4y ?_);intro B1 B2 B3 B4 _;refine Z3F (k:=Z4t ?_);refine OW.aU Mx rfl rfl rfl rfl rfl rfl _ 0 rfl (fun w S hw hs hb hc=>uV g f t 211 #[Y B1 0,Y B3 0,Y B4 0,Y B2 0] (HP.ro []) (HP.ro []) (ee (Cr.ev g.q t) (bm f t.toNat).q n).1 (ee (Cr.ev g.q t) (bm f t.toNat).q n).2 S w hs (fun k hk=>(hb k hk).1) hck (hw.sH hg hb) hgf (hw.vJ hm hb) hF Mx (fun hpt w9 Sx h9 hs9 hb9=>KM g f t n (bm f t.toNat) B1 B3 B4 B2 Sx w9 hs9 (fun k hk=>(hb9 k hk).1) (h9.sH (hw.sH hg hb) hb9) hgf ⟨hck,hpt⟩ htk (Fe.rw (h9.vJ (hw.vJ hm hb) hb9) (htl hpt)) (hVt hpt) (h9.fD ((ez hc (i:=4) rfl).at 0 rfl) hb9) (h9.fD ((ez hc (i:=2) rfl).at 0 rfl) hb9) (h9.fD ((ez hc (i:=1) rfl).at 0 rfl) hb9) (h9.fD ((ez hc (i:=3) rfl).at 0 rfl) hb9))) ?_;rintro _ _ ⟨zF,rfl,rfl,hzF⟩;refine Z4t ?_;refine KR.kR [2] rfl (rv.cell Ix rfl (dU 0 rfl) rfl) rfl rfl ?_;exact⟨zF,rfl,rfl,hzF⟩
def FE(g:aP)(f:Fe)(t pick drop:Int)(w0:World)(hck:Cf.check g.q=0)(hg:g.rd w0 (Old w0))(hgf:g.q.fit)(hm:E.dc w0 (Old w0) f.mem)(hF:FI g.q f.q):
  CO 179 #[g.v,f.v,J t,J pick,J drop] w0 fun v Hn=>∃z:Fe,v=.tuple #[z.v,J (if ag g.q.ts t=true then(if(submW (Cr.ev g.q t) f.tk (bm f t.toNat).q pick drop).2=0 then((submW (Cr.ev g.q t) f.tk (bm f t.toNat).q pick drop).1.b.os.length:Int) else 0) else 0),J (if ag g.q.ts t=true then(submW (Cr.ev g.q t) f.tk (bm f t.toNat).q pick drop).2 else 2)]/\Hn=[HP.ro z.mem]/\((ag g.q.ts t=true/\(submW (Cr.ev g.q t) f.tk (bm f t.toNat).q pick drop).2=0)->z.q=bL f.q t.toNat (submW (Cr.ev g.q t) f.tk (bm f t.toNat).q pick drop).1):=by
 have hsm:=Fe.small hck hF;obtain⟨hs1,hs2,hs3⟩:=id hsm;have hXC:=Fe.rc hm;have hXL:=Fe.rl hm;have hln:=Fe.ln hF;have hl3:=Fe.lim hck;have htk:0<=f.tk/\f.tk<=last:=hF.tk;have htk9:=htk.2;unfold last at htk9;have hgl:=aP.eJ g;have hok:=fI hck hF;have hUq:=Fe.uq hck hF
 have h0t:∀x∈f.cl,0<=x.tk:=fun x hx=>by
   have:=(hUq.f x hx).1;unfold rM at this;omega
 have htl:ag g.q.ts t=true->t.toNat<f.cs.length:=fun hp=>by have:=dS hp;rw[hln];omega
 have hVt:ag g.q.ts t=true->Cr.V (Cr.ev g.q t) f.tk (bm f t.toNat).q:=fun hp=>by
   have hb:=dS hp;have:=Fe.cw hF (k:=t.toNat) K66;rwa[af hb.1] at this
 refine Zq ?_;refine Z4t ?_;intro B1 B2 B3 B4 B5 _ B7;refine OW.aU Mx rfl rfl rfl rfl rfl rfl _ 0 rfl (fun w S hw hs hb hc=>uV g f t 209 #[Y B1 0,Y B3 0,Y B4 0,Y B5 0,Y B2 0,Y B7 0] (HP.aw B7 3 [J 0]) (HP.aw B7 3 [J (if(submW (Cr.ev g.q t) f.tk (bm f t.toNat).q pick drop).2=0 then((submW (Cr.ev g.q t) f.tk (bm f t.toNat).q pick drop).1.b.os.length:Int) else 0)]) (submW (Cr.ev g.q t) f.tk (bm f t.toNat).q pick drop).1 (submW (Cr.ev g.q t) f.tk (bm f t.toNat).q pick drop).2 S w hs (fun k hk=>(hb k hk).1) hck (hw.sH hg hb) hgf (hw.vJ hm hb) hF Mx (fun hpt w9 Sx h9 hs9 hb9=>J4 g f t pick drop 0 (bm f t.toNat) B1 B3 B4 B5 B2 B7 Sx w9 hs9 (fun k hk=>(hb9 k hk).1) (h9.sH (hw.sH hg hb) hb9) hgf ⟨hck,hpt⟩ htk (Fe.rw (h9.vJ (hw.vJ hm hb) hb9) (htl hpt)) (hVt hpt) (h9.fD ((ez hc (i:=5) rfl).at 0 rfl) hb9) (h9.fD ((ez hc (i:=3) rfl).at 0 rfl) hb9) (h9.fD ((ez hc (i:=2) rfl).at 0 rfl) hb9) (h9.fD ((ez hc (i:=1) rfl).at 0 rfl) hb9) (h9.fD ((ez hc (i:=4) rfl).at 0 rfl) hb9))) ?_;rintro _ _ ⟨zF,rfl,rfl,hzF⟩
 refine OW.chunk 0 (HP.aw B7 3 [J (if ag g.q.ts t=true then(if(submW (Cr.ev g.q t) f.tk (bm f t.toNat).q pick drop).2=0 then((submW (Cr.ev g.q t) f.tk (bm f t.toNat).q pick drop).1.b.os.length:Int) else 0) else 0)]) rfl (by split<;>rfl) ?_
 refine Z4u ?_;intros;refine Z23 (k:=Z4t ?_);refine KR.wa [3] rfl (rv.cell Ix rfl (dU 0 rfl) rfl) rfl rfl rfl ?_;exact⟨zF,rfl,rfl,hzF⟩
def Y3(g:aP)(t:Int)(w0:World)(hck:Cf.check g.q=0)(hg:g.rd w0 (Old w0))(hgf:g.q.fit):CO 86 #[g.v,J t] w0 fun v Hn=>∃z:Cw,∃e:Int,v=.tuple #[z.v,J e]/\Hn=[HP.ro z.mem]/\(e=0->ag g.q.ts t=true/\z.q=Cr.new (bQ g.q t))/\(¬e=0->¬ag g.q.ts t=true):=
 (TS g t w0 hck hg hgf).mono fun e w h=>by
  obtain⟨v,Hn,h1,h2,h4⟩:=h
  rcases h2 with⟨hr,z,hz,rfl,rfl⟩|⟨hr,rfl,rfl⟩
  ·exact⟨_,_,h1,⟨z,0,rfl,rfl,fun _=>⟨hr,hz⟩,fun h=>absurd rfl h⟩,h4⟩
  ·exact⟨_,_,h1,⟨Cw.z,2,rfl,rfl,fun h=>absurd h (by decide),fun _=>by rw[hr];decide⟩,h4.wg U1⟩
def UZ(g:aP)(w0:World)(hck:Cf.check g.q=0)(hsr:fV g.q=0)(hg:g.rd w0 (Old w0))(hgf:g.q.fit):
  CO 50 #[g.v] w0 fun v Hn=>∃z:Fe,z.q=Tr.new g.q/\v=.tuple #[z.v,J 0]/\Hn=[HP.ro z.mem]:=by
 obtain⟨hX1,hX2,hX3,hX4⟩:=id hg;have hgl:=aP.eJ g;have hl3:=Fe.lim hck;refine Zq ?_;refine Zg @Pc ?_;refine Z4u ?_;intros;refine Z3 (k:=Z4x ?_);refine OW.put 4 (J 0) rfl (by rw[hsr]) ?_
 refine Zx (k:=Z4y ?_);intro hc B3;refine CW.bM 198 6 ?_;refine Z3F (k:=Z4t ?_);refine CW.sels [2,1,0,0,0] rfl ?_;refine CW.av [1,2,5,20] 3 rfl rfl (fun mm mods Hm=>∃k:Nat,∃ds:List Cw,∃A:am,∃c:Nat,mm=g.ts.length-k/\mods=[(21,J k)]/\Hm=[HP.aw B3 81 [.slice A ds.length c,.slice none 0 0,V g.st],HP.row 198 6 A ds.length c (fl Cw.cells ds),HP.ro (jN ds)]/\k<=g.ts.length/\ds.length=k/\ds.map Cw.q=(List.range k).map (XF g.q)) (g.ts.length) ?_ ?_
 ·exact⟨[(21,_)],Kc,0,[],none,0,rfl,rfl,rfl,K1,rfl,rfl⟩
 rintro _ _ _ ⟨k,ds,A,c,rfl,rfl,rfl,hk,hdl,hdq⟩;refine Zc ?_ ?_
 ·refine Zg @Y3 ?_;intro hc zN _ hy1 hy2;refine ZJ (k:=Z2P (k:=Z2P (k:=?_)));refine OW.alloc (Jr) rfl rfl rfl rfl rfl (fun BW=>?_);refine Z2x (k:=Zf (k:=Zi (k:=Z4B ?_)));refine CW.cut [1,2,5,7,20,21] 2 rfl rfl (fun mods Hm=>∃zz:Cw,mods=[]/\Hm=[HP.aw BW 198 zz.cells,HP.ro zz.mem]/\zz.q=XF g.q k) ?_ ?_
  ·refine Zc ?_ ?_
   ·intros;refine CW.wA Ru.mem abF ?_;refine Z4t ?_;first|(refine⟨[],[0,0,1,1,1,1,1],[_,_],?_,rfl,Ru,rfl,rfl,by rw[XF,ae (hy2 K2)]<;>rfl⟩;exact Kc)|(refine⟨[],[0,0,0,0,0,0,0],[_,_],?_,rfl,zN,rfl,rfl,by rw[XF,aa (hy1 K1).1];exact(hy1 K1).2⟩;exact Kc)
   refine Z4t ?_;intros;first|(refine⟨[],[0,0,1,1,1,1,1],[_,_],?_,rfl,Ru,rfl,rfl,by rw[XF,ae (hy2 K2)]<;>rfl⟩;exact Kc)|(refine⟨[],[0,0,0,0,0,0,0],[_,_],?_,rfl,zN,rfl,rfl,by rw[XF,aa (hy1 K1).1];exact(hy1 K1).2⟩;exact Kc)
  rintro _ _ ⟨zz,rfl,rfl,hzz⟩;refine Z4t ?_;refine OW.bsl 6 (fl Cw.cells [zz]) rfl rfl (fun w=>ri w) (fun A5=>?_);refine OW.dJ (j:=0) (i:=3) Cw.fx Ux Jx rfl rfl rfl rfl rfl rfl rfl rfl rfl rfl K3 K3 (fun A6 c6=>?_);refine Z4L ?_;refine OW.gT [3,3,0,0,1,1] 2 rfl rfl (jN (ds++[zz])) (rz ds zz) ?_;refine Z4t ?_;refine⟨_,[(21,_)],[1,1,0,0,0],[_,_,_],?_,Kc,rfl,k+1,ds++[zz],A6,c6,rfl,rfl,rfl,K1,by simp[hdl],by rw[dZ,hdq,Fj,<-hzz]<;>rfl⟩
  omega
 refine Z4u ?_;intros;refine CW.wA [(none,[])] K7 ?_;refine Z4J ?_;refine OW.gT [3,3,1,0] 3 rfl rfl (Fe.mk ds A c [] none 0 g.st).mem (by simp[Fe.mem,fl]) ?_
 refine Zl ?_;exact⟨Fe.mk ds A c [] none 0 g.st,by rw[WT];unfold Fe.q;rw[hdq,show k=g.q.ts.length by omega];rfl,rfl,rfl⟩
def N2(g:aP)(f:Fe)(w0:World)(hck:Cf.check g.q=0)(hg:g.rd w0 (Old w0))(hgf:g.q.fit)(hm:E.dc w0 (Old w0) f.mem)(hF:FI g.q f.q)(hlt:f.tk<4611686018427387904):
  CO 89 #[g.v,f.v] w0 fun v Hn=>∃z:Fe,∃A c,z.q=(Tr.step g.q f.q).1/\v=.tuple #[z.v,.slice A (Tr.step g.q f.q).2.length c,J 0]/\Hn=[HP.ro z.mem,HP.row 206 2 A (Tr.step g.q f.q).2.length c (fl Tr.Fin.cs (Tr.step g.q f.q).2)]:=by
 have hsm:=Fe.small hck hF;obtain⟨hs1,hs2,hs3⟩:=id hsm;have hXC:=Fe.rc hm;have hXL:=Fe.rl hm;have hln:=Fe.ln hF;have hl3:=Fe.lim hck;have htk:0<=f.tk/\f.tk<=last:=hF.tk;have htk9:=htk.2;unfold last at htk9;have hgl:=aP.eJ g;have hok:=fI hck hF;have hUq:=Fe.uq hck hF
 have h0t:∀x∈f.cl,0<=x.tk:=fun x hx=>by
   have:=(hUq.f x hx).1;unfold rM at this;omega
 refine Zq ?_;refine Zg @Je ?_;refine Z4t ?_;intro _ _ _ hc;refine OW.call Mx rfl rfl rfl rfl rfl rfl _ (fun w hw=>C2 f.A2 f.c2 f.cl w (hw.rd hXL) hok h0t) ?_;rintro _ _ ⟨BT,Ba,Br,m,hmm,rfl,rfl⟩;refine Zx (k:=Zy (k:=Z4y ?_));intro B4;refine CW.bM 206 2 ?_;refine CW.bM 198 6 ?_;refine Z3F (k:=Z4t ?_);refine CW.sels [3,1,0,1,0,0,0,0] rfl ?_;refine CW.av [2,3,4,8,10,41,42] 5 rfl rfl (fun mm mods Hm=>∃k:Nat,∃ds:List Cw,∃A:am,∃c:Nat,∃m:Nat,∃A2:am,∃c2:Nat,mm=f.cs.length-k/\mods=[(43,J k),(11,.slice A2 (aT g.q f.q k).2.2.length c2)]/\Hm=[HP.aw B4 81 [.slice A ds.length c,.slice none 0 0,V (f.tk+1)],HP.row 198 6 A ds.length c (fl Cw.cells ds),HP.ro (jN ds),(HP.dj [HP.aw BT 297 [.map (some Ba),.map (some Br)],HP.mw prog 299 Ba m (Tr.l2 prog) Tr.o2 (gV ((aT g.q f.q k).2.1)),HP.mw prog 305 Br m (l3 prog) o3 (ko ((aT g.q f.q k).2.1))]),HP.row 206 2 A2 (aT g.q f.q k).2.2.length c2 (fl Tr.Fin.cs (aT g.q f.q k).2.2)]/\k<=f.cs.length/\ds.length=k/\m<=4096+1024*k/\ds.map Cw.q=(aT g.q f.q k).1) (f.cs.length) ?_ ?_
 ·exact⟨[(43,_),(11,_)],Kc,0,[],none,0,m,none,0,rfl,rfl,rfl,K1,rfl,K1,rfl⟩
 rintro _ _ _ ⟨k,ds,A,c,m,A2,c2,rfl,rfl,rfl,hk,hdl,hmk,hdq⟩;refine Zc ?_ ?_
 ·refine Z4u ?_;intro hc;obtain⟨hTb,hfl⟩:=GW hck hF k K1;refine Zg @mK ?_;refine Zc ?_ ?_
  ·refine Z4u ?_;intros;have hnp:¬Pr g.q k:=by unfold Pr;simp_all
   refine CW.wA Ru.mem abF ?_;refine Z4t ?_;refine OW.bsl 6 (fl Cw.cells [Ru]) rfl rfl (fun w=>ri w) (fun A6=>?_);refine OW.dJ (j:=0) (i:=3) Cw.fx Ux Jx rfl rfl rfl rfl rfl rfl rfl rfl rfl rfl K3 K3 (fun A7 c7=>?_);refine Z4L ?_;refine OW.gT [2,3,0,0,1,1,1,1,1] 2 rfl rfl (jN (ds++[Ru])) (rz ds Ru) ?_;refine Z4t ?_;refine⟨_,[(43,_),(11,_)],[1,1,0,0,0,0,0,0],[_,_,_,_,_],?_,Kc,rfl,k+1,ds++[Ru],A7,c7,m,A2,c2,rfl,(by rw[It hnp]<;>rfl),(by rw[It hnp]),K1,by simp[hdl],K1,by rw[It hnp,dZ,hdq]<;>rfl⟩
   omega
  refine Z4u ?_;intro _ hc;have hpr:Pr g.q k:=by assumption
  have hT:=Fe.tn hck hpr;have hV:=Fe.cw hF hpr;refine Z4t ?_;refine OW.call Mx rfl rfl rfl rfl rfl rfl _ (fun w hw=>kF g (k:Int) (bm f k) f.tk w (hw.lN hg) hgf hT htk (hw.sy (Fe.rw hm K1)) hV) ?_;rintro _ _ ⟨zB,hzB,rfl,rfl⟩;have hVB:Cr.V (Cr.ev g.q (k:Int)) f.tk zB.q:=by rw[hzB];exact WV hck hF hpr
  refine Z4t ?_;refine OW.aU Mx rfl rfl rfl rfl rfl rfl _ 5 rfl (fun w S hw hs hb hc=>XJ BT Ba Br m (aT g.q f.q k).2.1 g (k:Int) zB f.tk S w hs (fun k hk=>(hb k hk).1) hTb.u K1 (hw.sH hg hb) hgf hT htk (ez hc (i:=1) rfl) hVB) ?_;rintro _ _ ⟨m3,hm3,rfl⟩;refine Z4t ?_;refine OW.call Mx rfl rfl rfl rfl rfl rfl _ (fun w hw=>UA g (k:Int) zB f.tk w (hw.lN hg) hgf hT htk (hw.aL (i:=2) rfl) hVB hlt) ?_;rintro _ _ ⟨zK,AI,cI,hzK,rfl,rfl⟩;have hVK:Cr.V (Cr.ev g.q (k:Int)) f.tk zK.q:=by rw[hzK];exact Cr.kO ⟨htk.1,hlt⟩ hVB
  have hil:(cx (Cr.ev g.q (k:Int)) f.tk zB.q).2.length<=3:=by rw[hzB];exact Hi hck hF hpr
  refine Z4t ?_;intros;refine CW.sels [10,0,0,0,0,0,0,0,0,0,0,0,0,0] rfl ?_;refine CW.av [2,3,4,8,10,12,14,41,42,43,84,85] 1 rfl rfl (fun mm mods Hm=>∃j:Nat,∃A3:am,∃c3:Nat,mm=(cx (Cr.ev g.q (k:Int)) f.tk zB.q).2.length-j/\mods=[(86,J j),(11,.slice A3 ((aT g.q f.q k).2.2++((cx (Cr.ev g.q (k:Int)) f.tk zB.q).2.take j).map fun id=>((k:Int),id)).length c3)]/\Hm=[HP.row 206 2 A3 ((aT g.q f.q k).2.2++((cx (Cr.ev g.q (k:Int)) f.tk zB.q).2.take j).map fun id=>((k:Int),id)).length c3 (fl Tr.Fin.cs ((aT g.q f.q k).2.2++((cx (Cr.ev g.q (k:Int)) f.tk zB.q).2.take j).map fun id=>((k:Int),id)))]/\j<=(cx (Cr.ev g.q (k:Int)) f.tk zB.q).2.length) ((cx (Cr.ev g.q (k:Int)) f.tk zB.q).2.length) ?_ ?_
  ·exact⟨[(86,_),(11,_)],Kc,0,A2,c2,rfl,(by rw[qq,ki,bp]<;>rfl),(by rw[qq,ki,bp]),K1⟩
  rintro _ _ _ ⟨j,A3,c3,rfl,rfl,rfl,hj⟩;refine Zc ?_ ?_
  ·refine Zx (k:=Z4y ?_);intros;have hk2:=E.iy (k:Int) (ids:=(cx (Cr.ev g.q (k:Int)) f.tk zB.q).2) (j:=j) K1;have hfj:((aT g.q f.q k).2.2++((cx (Cr.ev g.q (k:Int)) f.tk zB.q).2.take j).map fun id=>((k:Int),id)).length<=20:=by simp only[aF,bZ,cf];omega
   refine Z4t ?_;refine OW.bsl 2 (fl Tr.Fin.cs [((k:Int),(cx (Cr.ev g.q (k:Int)) f.tk zB.q).2.getD j 0)]) rfl rfl (fun w=>E3 w) (fun A9=>?_);refine OW.dJ (j:=0) (i:=0) Tr.Fin.fx Ux Jx rfl rfl rfl rfl rfl rfl rfl rfl rfl rfl K3 K3 (fun A10 c10=>?_);refine Z4t ?_;refine⟨_,[(86,_),(11,_)],[0,0,0,0,0,0,0,0,0,0,0,0,0,0],[_],?_,Kc,rfl,j+1,A10,c10,rfl,(by rw[hk2,<-aQ]<;>rfl),(by rw[hk2,<-aQ]),K1⟩
   omega
  refine Z4u ?_;intros;have hjl:(cx (Cr.ev g.q (k:Int)) f.tk zB.q).2.take j=(cx (Cr.ev g.q (k:Int)) f.tk zB.q).2:=bU K1;refine CW.gT [2,2,0,0,1,3,3,3,3,3,3] 2 rfl rfl zK.mem K48 ?_;refine Z4t ?_;refine OW.call Mx rfl rfl rfl rfl rfl rfl _ (fun w hw=>MC g (k:Int) zK f.tk w (hw.lN hg) hgf hT htk (hw.aL (i:=0) rfl) hVK hlt) ?_;rintro _ _ ⟨zM,hzM,rfl,rfl⟩;refine Z4t ?_;refine OW.bsl 6 (fl Cw.cells [zM]) rfl rfl (fun w=>ri w) (fun A11=>?_);refine OW.dJ (j:=0) (i:=6) Cw.fx Ux Jx rfl rfl rfl rfl rfl rfl rfl rfl rfl rfl K3 K3 (fun A12 c12=>?_);refine Z4L ?_;refine OW.gT [3,6,0,0,2,2,2,2,2] 2 rfl rfl (jN (ds++[zM])) (rz ds zM) ?_;refine Z4t ?_;refine⟨_,[(43,_),(11,_)],[1,1,0,1,0,0,0,0],[_,_,_,_,_],?_,Kc,rfl,k+1,ds++[zM],A12,c12,m3,A3,c3,rfl,(by rw[yn hpr hzB hzK hzM,hjl]<;>rfl),(by rw[yn hpr hzB hzK hzM,hjl]),K1,by simp[hdl],K1,by rw[yn hpr hzB hzK hzM,dZ,hdq]<;>rfl⟩
  omega
 refine Z4u ?_;intro hc;obtain rfl:k=f.cs.length:=K1;obtain⟨hTb,hfl⟩:=GW hck hF f.cs.length K1;have hTf:=hTb.filter (fun x=> !decide (x.tk<=f.tk+1));refine Z4t ?_;refine OW.aU Mx rfl rfl rfl rfl rfl rfl _ 3 rfl (fun w S hw hs hb hc=>Mp BT Ba Br m (aT g.q f.q f.cs.length).2.1 (fun x=>decide (x.tk<=f.tk+1)) 125 #[Y B4 0] S w hs (fun k hk=>(hb k hk).1) hTb.u Mx (fun w9 h9 x=>RS x B4 (.slice A ds.length c) (.slice none 0 0) (f.tk+1) w9 (h9.rd (ez hc (i:=0) rfl (some ⟨B4,0,.none⟩,[.slice A ds.length c,.slice none 0 0,V (f.tk+1)]) K7)))) ?_;rintro _ _ rfl;refine Z4t ?_;refine OW.aU Mx rfl rfl rfl rfl rfl rfl _ 0 rfl (fun w S hw hs hb hc=>Yk BT Ba Br m ((aT g.q f.q f.cs.length).2.1.filter fun x=> !decide (x.tk<=f.tk+1)) S w hs (fun k hk=>(hb k hk).1) hTf.u hTf.d K1 (by have:=hTf.l;omega)) ?_;rintro _ _ ⟨AL,cL,rfl,rfl⟩
 refine Zx (k:=Z4J ?_);refine OW.gT [4,3,3,0,2] 3 rfl rfl (Fe.mk ds A c (sort ((aT g.q f.q f.cs.length).2.1.filter fun x=> !decide (x.tk<=f.tk+1))) AL cL (f.tk+1)).mem (by simp[Fe.mem]) ?_
 refine Z4t ?_;refine KR.wa [0,1] rfl (rv.cell Ix rfl (dU 1 rfl) rfl) rfl rfl rfl ?_;exact⟨Fe.mk ds A c (sort ((aT g.q f.q f.cs.length).2.1.filter fun x=> !decide (x.tk<=f.tk+1))) AL cL (f.tk+1),A2,c2,by unfold Tr.step;rw[Fe.len];show(⟨ds.map Cw.q,_,_⟩:Tr.F)=_;rw[hdq];rfl,(by unfold Tr.step;rw[Fe.len];rfl),(by unfold Tr.step;rw[Fe.len])⟩
def YY(X:E.Sx)(s:Gw.S)(N:Nat)(pm:List Yb)(t:Int)(q:Gw.Rq)(S:Nat->Prop)(w0:World)(hS:(HP.si X s).bA S w0)(hb:∀k,S k->k<w0.heap.size)(hH:SH w0 (Fm w0 S) X pm)(hP:SP X)(hI:SI X.g.q s N)(hpr:ag X.g.q.ts t=true)(hqf:q.fit)(hk:q.kd=1):
  CF 129 #[.pointer (some ⟨X.B,0,.none⟩),J t,.agg q.cw.toArray] w0 S fun v Hn=>∃y:Rw,y.r=(aR Wi.ops (Cr.ev X.g.q t) s.f.tk (ai s.f t.toNat) (ak s t.toNat) q).2.2.1/\v=.tuple #[y.v,J (aR Wi.ops (Cr.ev X.g.q t) s.f.tk (ai s.f t.toNat) (ak s t.toNat) q).2.2.2]/\Hn=[HP.si X (after s t.toNat (aR Wi.ops (Cr.ev X.g.q t) s.f.tk (ai s.f t.toNat) (ak s t.toNat) q).1 (aR Wi.ops (Cr.ev X.g.q t) s.f.tk (ai s.f t.toNat) (ak s t.toNat) q).2.1),HP.ro y.mem]:=by
 have hq1:=hqf.pick;have hq2:=hqf.drop;have hq3:=hqf.num;obtain⟨ht0,htc,hta⟩:=hI.tc hpr;have hgr:=hH.hg;have hgf:=hP.gf;have hck:=hP.ck;refine Zp (HA.au hS hb) ?_;refine Zx (k:=Z3Q (k:=fun z hzq hzok=>?_));have hzf:=Si.qW hzq;have hzF:FI X.g.q z.f.q:=by rw[hzf];exact hI.fi
 have hzt:=Si.tk hzq;have hzc:=Si.cr hzq t.toNat;have hza:=Si.ac hzq t.toNat;have hzl:=Si.al hzq;have hzw:=hzok.1;have hzn:=Si.fl hzq;have hpt:Pr X.g.q t.toNat:=by unfold Pr;rw[af ht0];exact hpr
 have hzV:=Fe.cw hzF hpt;rw[af ht0] at hzV;have hT:=iF hck hpt;rw[af ht0] at hT;have htl:=gU hT;refine Z4y ?_;intros;refine Z3t (k:=?_);iterate 15 refine Z4v ?_
 refine E.AW.two 15 20 K0 rfl rfl ?_ ?_
 focus
  refine Z3S (k:=fun zf hzz=>Z4w ?_);iterate 9 refine Z4v ?_
  intro BF
 rotate_right
 focus
  refine Zo (k:=Z4w ?_);intros;refine E.AW.one 15 K0 rfl ?_;refine Z3S (k:=fun zf hzz=>Z4w ?_);iterate 8 refine Z4v ?_
 all_goals
  refine Z4u ?_;refine CW.put 9 (v:=J (if ag X.g.q.ts t=true then(if(submW (Cr.ev X.g.q t) z.f.tk (bm z.f t.toNat).q q.pick q.drop).2=0 then((submW (Cr.ev X.g.q t) z.f.tk (bm z.f t.toNat).q q.pick q.drop).1.b.os.length:Int) else 0) else 0)) (J (if(submW (Cr.ev X.g.q t) s.f.tk (ai s.f t.toNat) q.pick q.drop).2=0 then((submW (Cr.ev X.g.q t) s.f.tk (ai s.f t.toNat) q.pick q.drop).1.b.os.length:Int) else 0)) rfl (by rw[aa hpr,hzc,hzt]) ?_
  refine CW.put 10 (v:=J (if ag X.g.q.ts t=true then(submW (Cr.ev X.g.q t) z.f.tk (bm z.f t.toNat).q q.pick q.drop).2 else 2)) (J (submW (Cr.ev X.g.q t) s.f.tk (ai s.f t.toNat) q.pick q.drop).2) rfl (by rw[aa hpr,hzc,hzt]) ?_
  refine Zc ?_ ?_
  ·intros;have he:(submW (Cr.ev X.g.q t) s.f.tk (ai s.f t.toNat) q.pick q.drop).2=0:=by assumption
   have hz2:=hzz ⟨hpr,by rw[hzc,hzt];exact he⟩
   rw[hzc,hzt,hzf] at hz2;refine Zy (k:=Zz (k:=Z3T (k:=Z3U (k:=Zr (k:=Z3V (k:=?_))))));have e9:=ac7 (o:=Wi.ops) (e:=Cr.ev X.g.q t) (k:=s.f.tk) (w:=(ai s.f t.toNat)) (a:=(ak s t.toNat)) hk;rw[e9];first|exact⟨(Rw.of {Gw.Rp.z with od:=if(submW (Cr.ev X.g.q t) s.f.tk (ai s.f t.toNat) q.pick q.drop).2=0 then((submW (Cr.ev X.g.q t) s.f.tk (ai s.f t.toNat) q.pick q.drop).1.b.os.length:Int) else 0}),rfl,rfl,rfl⟩|(refine⟨(Rw.of {Gw.Rp.z with od:=if(submW (Cr.ev X.g.q t) s.f.tk (ai s.f t.toNat) q.pick q.drop).2=0 then((submW (Cr.ev X.g.q t) s.f.tk (ai s.f t.toNat) q.pick q.drop).1.b.os.length:Int) else 0}),rfl,rfl,?_⟩;show _=[HP.si X (after s t.toNat (submW (Cr.ev X.g.q t) s.f.tk (ai s.f t.toNat) q.pick q.drop).1 _),_];rw[wB K2])
  refine Zx (k:=Z4J ?_);intros;refine Z3T (k:=Z3U (k:=Zr (k:=Z3V (k:=?_))));have e9:=ac7 (o:=Wi.ops) (e:=Cr.ev X.g.q t) (k:=s.f.tk) (w:=(ai s.f t.toNat)) (a:=(ak s t.toNat)) hk;rw[e9];first|exact⟨(Rw.of {Gw.Rp.z with od:=if(submW (Cr.ev X.g.q t) s.f.tk (ai s.f t.toNat) q.pick q.drop).2=0 then((submW (Cr.ev X.g.q t) s.f.tk (ai s.f t.toNat) q.pick q.drop).1.b.os.length:Int) else 0}),rfl,rfl,rfl⟩|(refine⟨(Rw.of {Gw.Rp.z with od:=if(submW (Cr.ev X.g.q t) s.f.tk (ai s.f t.toNat) q.pick q.drop).2=0 then((submW (Cr.ev X.g.q t) s.f.tk (ai s.f t.toNat) q.pick q.drop).1.b.os.length:Int) else 0}),rfl,rfl,?_⟩;show _=[HP.si X (after s t.toNat (submW (Cr.ev X.g.q t) s.f.tk (ai s.f t.toNat) q.pick q.drop).1 _),_];rw[wB K2])
def YZ(X:E.Sx)(s:Gw.S)(N:Nat)(pm:List Yb)(t:Int)(q:Gw.Rq)(S:Nat->Prop)(w0:World)(hS:(HP.si X s).bA S w0)(hb:∀k,S k->k<w0.heap.size)(hH:SH w0 (Fm w0 S) X pm)(hP:SP X)(hI:SI X.g.q s N)(hpr:ag X.g.q.ts t=true)(hqf:q.fit)(hk:q.kd=2):
  CF 130 #[.pointer (some ⟨X.B,0,.none⟩),J t,.agg q.cw.toArray] w0 S fun v Hn=>∃y:Rw,y.r=(aR Wi.ops (Cr.ev X.g.q t) s.f.tk (ai s.f t.toNat) (ak s t.toNat) q).2.2.1/\v=.tuple #[y.v,J (aR Wi.ops (Cr.ev X.g.q t) s.f.tk (ai s.f t.toNat) (ak s t.toNat) q).2.2.2]/\Hn=[HP.si X (after s t.toNat (aR Wi.ops (Cr.ev X.g.q t) s.f.tk (ai s.f t.toNat) (ak s t.toNat) q).1 (aR Wi.ops (Cr.ev X.g.q t) s.f.tk (ai s.f t.toNat) (ak s t.toNat) q).2.1),HP.ro y.mem]:=by
 have hq1:=hqf.pick;have hq2:=hqf.drop;have hq3:=hqf.num;obtain⟨ht0,htc,hta⟩:=hI.tc hpr;have hgr:=hH.hg;have hgf:=hP.gf;have hck:=hP.ck;refine Zp (HA.au hS hb) ?_;refine Zx (k:=Z3Q (k:=fun z hzq hzok=>?_));have hzf:=Si.qW hzq;have hzF:FI X.g.q z.f.q:=by rw[hzf];exact hI.fi
 have hzt:=Si.tk hzq;have hzc:=Si.cr hzq t.toNat;have hza:=Si.ac hzq t.toNat;have hzl:=Si.al hzq;have hzw:=hzok.1;have hzn:=Si.fl hzq;have hpt:Pr X.g.q t.toNat:=by unfold Pr;rw[af ht0];exact hpr
 have hzV:=Fe.cw hzF hpt;rw[af ht0] at hzV;have hT:=iF hck hpt;rw[af ht0] at hT;have htl:=gU hT;refine Z4y ?_;intros;refine Z3t (k:=?_);iterate 12 refine Z4v ?_
 refine E.AW.two 12 16 K0 rfl rfl ?_ ?_
 focus
  refine Z3W (k:=fun zf hzz=>Z4w ?_);iterate 7 refine Z4v ?_
  intro BF
 rotate_right
 focus
  refine Zo (k:=Z4w ?_);intros;refine Z1L (k:=Z3W (k:=fun zf hzz=>Z4w ?_));iterate 6 refine Z4v ?_
 all_goals
  refine Z4u ?_;refine CW.put 9 (v:=J (if ag X.g.q.ts t=true then(ee (Cr.ev X.g.q t) (bm z.f t.toNat).q q.num).2 else 2)) (J (ee (Cr.ev X.g.q t) (ai s.f t.toNat) q.num).2) rfl (by rw[aa hpr,hzc]) ?_
  refine Zc ?_ ?_
  ·intros;have he:(ee (Cr.ev X.g.q t) (ai s.f t.toNat) q.num).2=0:=by assumption
   have hz2:=hzz ⟨hpr,by rw[hzc];exact he⟩
   rw[hzc,hzf] at hz2;refine Zy (k:=Zz (k:=Z3T (k:=Z3X (k:=Zr (k:=Z3V (k:=?_))))));have e9:=abV (o:=Wi.ops) (e:=Cr.ev X.g.q t) (k:=s.f.tk) (w:=(ai s.f t.toNat)) (a:=(ak s t.toNat)) hk;rw[e9];first|exact⟨(Rw.of Gw.Rp.z),rfl,rfl,rfl⟩|(refine⟨(Rw.of Gw.Rp.z),rfl,rfl,?_⟩;show _=[HP.si X (after s t.toNat (ee (Cr.ev X.g.q t) (ai s.f t.toNat) q.num).1 _),_];rw[wW K2])
  refine Zx (k:=Z4J ?_);intros;refine Z3T (k:=Z3X (k:=Zr (k:=Z3V (k:=?_))));have e9:=abV (o:=Wi.ops) (e:=Cr.ev X.g.q t) (k:=s.f.tk) (w:=(ai s.f t.toNat)) (a:=(ak s t.toNat)) hk;rw[e9];first|exact⟨(Rw.of Gw.Rp.z),rfl,rfl,rfl⟩|(refine⟨(Rw.of Gw.Rp.z),rfl,rfl,?_⟩;show _=[HP.si X (after s t.toNat (ee (Cr.ev X.g.q t) (ai s.f t.toNat) q.num).1 _),_];rw[wW K2])
end Go.Proofs.YtcgecopggfjojaaGreatDoor
