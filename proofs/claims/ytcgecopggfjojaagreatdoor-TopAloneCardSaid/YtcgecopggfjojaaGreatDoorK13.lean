/- Part 13: the logic, the plain laws and the walks behind TopAlone (lemmas only; each says its own conditions). -/
import Derived.Test.YtcgecopggfjojaaGreatDoorK12
set_option maxRecDepth 100000
set_option linter.all false
set_option maxHeartbeats 0
namespace Go.Proofs.YtcgecopggfjojaaGreatDoor
open Go Go.RowKit Go.Proofs.Tryz E Fl Cf Od Bf Cr Rt Tr Gw Dg Au Wi
attribute [local irreducible] E.CW E.OW E.QW E.AW E.lJ E.blockK E.PV
def C2(A:am)(c:Nat)(l:List Cl)(w0:World)(hX:ce w0 A (fl Cl.cs l))(hok:gQ l=true)(hf:∀x∈l,0<=x.tk):
  CO 118 #[.slice A l.length c] w0 fun v Hn=>∃B Ba Br m,m<=4096/\v=.tuple #[Y B 0,J 0]/\Hn=[(HP.dj [HP.aw B 297 [.map (some Ba),.map (some Br)],HP.mw prog 299 Ba m (Tr.l2 prog) Tr.o2 (gV (l)),HP.mw prog 305 Br m (l3 prog) o3 (ko (l))])]:=by
 have hll:l.length<=4096:=by unfold gQ at hok;simp only[ay,ax] at hok;exact hok.1
 refine Zq ?_;refine Z4t ?_;intro hc;refine OW.M5 pb rfl rfl rfl rfl (fun B1=>?_);refine OW.M5 wX rfl rfl rfl rfl (fun B2=>?_);refine Z4u ?_;intro B3;refine CW.aX [0,1,0] 3 rfl rfl ?_;refine Z4t ?_;refine CW.av [0,4,14,15] 1 rfl rfl (fun mm mods Hm=>∃k:Nat,∃m:Nat,mm=l.length-k/\mods=[(16,J k)]/\Hm=[(HP.dj [HP.aw B3 297 [.map (some B1),.map (some B2)],HP.mw prog 299 B1 m (Tr.l2 prog) Tr.o2 (gV (l.take k)),HP.mw prog 305 B2 m (l3 prog) o3 (ko (l.take k))])]/\k<=l.length/\m<=k) (l.length) ?_ ?_
 ·exact⟨[(16,_)],Kc,0,0,rfl,rfl,rfl,K1,K1⟩
 rintro _ _ _ ⟨k,m,rfl,rfl,rfl,hk,hmk⟩;refine Zc ?_ ?_
 ·refine Z4u ?_;intro hc;obtain⟨hin,hlt,htk⟩:=tY hok (k:=k) K1;have hfit:=w5 hin (hf _ (by rw[aW,aC (show k<l.length by omega),dW];exact lR _))
  refine Z4y ?_;intros;refine Z1c (k:=Za (k:=Z1O (k:=?_)));refine Zg @Fb ?_;refine Zj (k:=Z4v ?_);refine E.AW.put 23 (.bool false) rfl (by rw[hin]<;>rfl) ?_
  refine Z4v ?_;refine E.AW.put 24 (.bool false) (v:=.bool false) rfl rfl ?_;iterate 3 refine Z4v ?_
  refine E.AW.split 27 rfl (fun hc=>?_) (fun hc=>?_)<;>(try simp only[bz,reduceCtorEq] at hc)<;>try exact Kf
  all_goals
   iterate 3 refine Z4v ?_
   first|(refine E.AW.put 30 (J ((k-1:Nat):Int)) rfl (aq (Value.int .i64) ?_) ?_;(focus (omega)))|skip
   iterate 3 refine Z4v ?_
   refine E.AW.one 13 K0 rfl ?_;first|(refine OW.off rfl rfl rfl ?_)|((refine OW.call Mx rfl rfl rfl rfl rfl rfl _ (fun w hw=>KG (l.getD (k-1) Cl.z) (l.getD k Cl.z) w) ?_;rintro _ _ ⟨rfl,rfl⟩))
   refine Zj (k:=Z4v ?_);first|refine E.AW.put 35 (.bool false) rfl (aq Value.bool (aV (IM (hlt K1)))) ?_|skip
   iterate 3 refine Z4v ?_
   refine E.AW.put 38 (.bool false) (v:=.bool false) rfl rfl ?_;iterate 2 refine Z4v ?_
   refine E.AW.one 20 K0 rfl ?_;refine Zh @VC ?_;refine Z4w ?_;intro m2 _;refine E.AW.put 41 (.bool true) rfl (by rw[htk]<;>rfl) ?_
   refine Z4t ?_;refine⟨_,[(16,_)],[0],_,?_,Kc,rfl,k+1,m2,rfl,rfl,by rw[UE K1,<-Yw htk],K1,K1⟩
   omega
 refine Zl ?_;intros;obtain rfl:k=l.length:=K1;exact⟨B3,B1,B2,m,K1,rfl,by rw[bJ]⟩
def Vq(B Ba Br m:Nat)(L:List Cl)(t r:Int)(S:Nat->Prop)(w0:World)(hS:(HP.dj [HP.aw B 297 [.map (some Ba),.map (some Br)],HP.mw prog 299 Ba m (Tr.l2 prog) Tr.o2 (gV (L)),HP.mw prog 305 Br m (l3 prog) o3 (ko (L))]).bA S w0)(hb:∀k,S k->k<w0.heap.size)(hf:∀x∈L,x.fit):
  CF 151 #[Y B 0,J t,J r] w0 S fun v Hn=>v=.bool (Tr.has L t r)/\Hn=[(HP.dj [HP.aw B 297 [.map (some Ba),.map (some Br)],HP.mw prog 299 Ba m (Tr.l2 prog) Tr.o2 (gV (L)),HP.mw prog 305 Br m (l3 prog) o3 (ko (L))])]:=by
 refine Zp (HA.au hS hb) ?_;refine Zx (k:=Z24 (k:=Z4t ?_));refine OW.zO (i:=2) wX rfl rfl rfl rfl rfl rfl (fun R1 cnt0 hcnt0=>?_);refine Z4t ?_;refine CW.av [1,2,12] 1 rfl rfl (fun mm mods Hm=>∃lf:Int×Int×Int->Bool,∃dF:Nat,mm=dF/\mods=[]/\Hm=[HP.mr prog 305 Br R1 m (l3 prog) o3 (ko L) lf dF none]/\∀a,(ko L a).isSome=true->lf a=false->¬(a.2.1=t/\a.2.2=r)) (cnt0) ?_ ?_
 ·exact⟨[],Kc,_,_,rfl,rfl,rfl,fun a h1 h2=>absurd (h1.symm.trans h2) K7⟩
 rintro _ _ _ ⟨lf,dF,rfl,rfl,rfl,hI⟩;refine Z4t ?_;refine OW.FV (i:=0) wX rfl rfl rfl rfl rfl rfl (fun hnx=>?_) (fun aK vK cK hok hlf hfa hcn=>?_)
 all_goals
  refine Zn (k:=?_);first|(have:=hnx;refine CW.H5 (i:=0) rfl ?_;refine CW.aX [1,1,0] 3 rfl rfl ?_)|skip
  refine Zd ?_ ?_
  ·try exact⟨⟩
   all_goals
    refine Z4t ?_;intros;refine Z3B (k:=Z4x ?_);refine OW.put 16 (.agg #[V aK.1,J aK.2.1,J aK.2.2]) rfl rfl ?_;refine Zs ?_ ?_
    all_goals
     refine Zd ?_ ?_
     ·try exact⟨⟩
      all_goals
       refine Z4u ?_;intros;refine CW.H5 (i:=1) rfl ?_;refine CW.aX [2,2,0] 3 rfl rfl ?_;refine Zl ?_;exact⟨aq Value.bool (SL hfa K2 K2).symm,rfl⟩
     try exact⟨⟩
     all_goals
      refine Z4t ?_;intros;refine⟨_,[],[1,1,1],[_],?_,Kc,rfl,_,_,rfl,rfl,rfl,Rj hI (by rintro⟨h3,h4⟩;first|contradiction|omega|simp_all)⟩
      omega
  try exact⟨⟩
  all_goals
   refine Zl ?_;intros;exact⟨aq Value.bool (Y9 hf hI hnx).symm,rfl⟩
def Mp(B Ba Br m:Nat)(L:List Cl)(q:Cl->Bool)(f:Nat)(aE:Array Value)(S:Nat->Prop)(w0:World)(hS:(HP.dj [HP.aw B 297 [.map (some Ba),.map (some Br)],HP.mw prog 299 Ba m (Tr.l2 prog) Tr.o2 (gV (L)),HP.mw prog 305 Br m (l3 prog) o3 (ko (L))]).bA S w0)(hb:∀k,S k->k<w0.heap.size)(hU:Uq L)(hn:E.Nm prog f)(hq:∀w,HA w0 (Fm w0 S) [] w->∀x:Cl,Calls prog f (#[x.v]++aE) w (bK w (Old w) fun v Hn=>v=.bool (q x)/\Hn=[])):
  CF 124 #[Y B 0,.func (.func f) #[] aE] w0 S fun v Hn=>Hn=[(HP.dj [HP.aw B 297 [.map (some Ba),.map (some Br)],HP.mw prog 299 Ba m (Tr.l2 prog) Tr.o2 (gV (L.filter fun x=> !q x)),HP.mw prog 305 Br m (l3 prog) o3 (ko (L.filter fun x=> !q x))])]:=by
 refine Zp (HA.au hS hb) ?_;refine Zx (k:=Z24 (k:=Z4t ?_));refine OW.zO (i:=1) pb rfl rfl rfl rfl rfl rfl (fun R1 cnt0 hcnt0=>?_);refine Z4t ?_;refine CW.sels [0,1,0] rfl ?_;refine CW.av [0,1,10] 2 rfl rfl (fun mm mods Hm=>∃p:Cl->Bool,∃lf:Int×Int->Bool,∃dF:Nat,mm=dF/\mods=[]/\Hm=[HP.mr prog 299 Ba R1 m (Tr.l2 prog) Tr.o2 (gV (L.filter p)) lf dF none,HP.mw prog 305 Br m (l3 prog) o3 (ko (L.filter p))]/\Dr L q p lf) (cnt0) ?_ ?_
 ·exact⟨[],Kc,fun _=>true,_,_,rfl,rfl,by rw[Df],Dr.start L q⟩
 rintro _ _ _ ⟨p,lf,dF,rfl,rfl,rfl,hD⟩;refine Z4t ?_;refine OW.FV (i:=0) pb rfl rfl rfl rfl rfl rfl (fun hnx=>?_) (fun aK vK cK hok hlf hfa hcn=>?_)
 all_goals
  refine Zn (k:=?_);first|(have:=hnx;refine CW.H5 (i:=0) rfl ?_;refine CW.aX [2,0,0] 3 rfl rfl ?_)|skip
  refine Zd ?_ ?_
  ·try exact⟨⟩
   all_goals
    obtain⟨x,hx,rfl,rfl⟩:=Vf hfa;have hx1:=(gN.1 hx).1;refine Z4t ?_;intros;refine Z3B (k:=Z4x ?_);refine OW.put 14 (.agg #[V x.tk,J x.pl]) rfl rfl ?_;refine Z4x ?_;refine OW.put 15 (.agg #[V x.tk,J x.pl,J x.tn,J x.rb]) rfl rfl ?_;refine Z4t ?_;intros;refine OW.o6 hn rfl rfl rfl rfl rfl rfl _ (fun w hw=>hq w hw.base x) ?_;rintro _ _ ⟨rfl,rfl⟩;refine Zc ?_ ?_
    ·refine Z4u ?_;intros;refine CW.dV mixed [0,0,2] rfl ?_;iterate 5 refine Z4v ?_
     refine Z4G ?_;refine OW.acv (i:=2) (a:=oO x) pb rfl rfl rfl rfl rfl rfl ((hU.f x hx1).a) K7 (fun cD hcD=>?_);refine Z4u ?_;refine CW.dV mixed [1,1,2] rfl ?_;iterate 11 refine Z4v ?_
     refine ZU (k:=?_);refine OW.acq (i:=3) (a:=GV x) wX rfl rfl rfl rfl rfl rfl ((hU.f x hx1).r) ?_;refine Z4t ?_;refine⟨_,[],[1,0,2],[_,_],?_,Kc,rfl,wo p x,_,_,rfl,rfl,by rw[<-WI hU hx,<-XW hU hx],hD.drop hU hx K2⟩
     omega
    refine Z4t ?_;intros;refine⟨_,[],[2,2,2],[_,_],?_,Kc,rfl,p,_,_,rfl,rfl,rfl,hD.fS hU hx K2⟩;omega
  try exact⟨⟩
  all_goals
   refine Zl ?_;intros;rw[<-hD.done hU hnx]
def RS(x:Cl)(PB:Nat)(u1 u2:Value)(k:Int)(w0:World)(hB:ce w0 (some ⟨PB,0,.none⟩) [u1,u2,V k]):
  CV 125 #[x.v,Y PB 0] w0 (.bool (decide (x.tk<=k))):=by
 refine Zq ?_;refine Zk ?_;intros;exact⟨rfl,rfl⟩
def Sz(x:Cl)(P1 P2:Nat)(y:Cw)(t:Int)(w0:World)(h1:ce w0 (some ⟨P1,0,.none⟩) [J t])(h2:ce w0 (some ⟨P2,0,.none⟩) y.cells):
  CV 158 #[x.v,Y P1 0,Y P2 0] w0 (.bool (decide (x.tn=t)&&decide (x.rb=y.mv))):=by
 refine Zq ?_;refine Zs ?_ ?_
 all_goals
  refine Zk ?_;intros;exact⟨aq Value.bool K8,rfl⟩
def Me(Ba:Nat)(w0:World):
  CO 160 #[.map (some Ba)] w0 fun v Hn=>∃Bm,v=.func (.func 207) #[] #[Y Bm 0]/\Hn=[HP.aw Bm 294 [.map (some Ba)]]:=by
 refine Zq ?_;refine Zl ?_;intros;exact⟨_,rfl,rfl⟩
def Wy(Bm Ba m Lp:Nat)(L:List Cl)(q:List Cl->HP)(S:Nat->Prop)(w0:World)(hU:Uq L)(hn:L.Nodup)(hm:m<=10000)(hY:YW prog Lp Cl.v (fun pre _=>pre.length<10000) q)(hS:(HP.dj [q [],(HP.dj [HP.aw Bm 294 [.map (some Ba)],HP.mw prog 299 Ba m (Tr.l2 prog) Tr.o2 (gV (L))])]).bA S w0)(hb:∀k,S k->k<w0.heap.size):
  CF 207 #[.func (.yield Lp) #[] #[],Y Bm 0] w0 S fun v Hn=>∃xs A9,(xs.Perm L/\A9=(HP.dj [HP.aw Bm 294 [.map (some Ba)],HP.mw prog 299 Ba m (Tr.l2 prog) Tr.o2 (gV (L))]))/\Hn=[HP.dj [q xs,A9]]:=by
 refine Zp (HA.au hS hb) ?_;refine Zx (k:=Z24 (k:=?_));refine CW.open 1 rfl ?_;refine Z4t ?_;refine OW.zO (i:=1) pb rfl rfl rfl rfl rfl rfl (fun R0 cnt0 hcnt0=>?_);refine Z4t ?_;refine CW.sels [0,1,0] rfl ?_;refine CW.av [0,6] 2 rfl rfl (fun mm mods Hm=>∃lf:Int×Int->Bool,∃dF:Nat,∃pre:List Cl,mm=dF/\mods=[]/\Hm=[HP.mr prog 299 Ba R0 m (Tr.l2 prog) Tr.o2 (gV L) lf dF none,q pre]/\Vs L pre lf/\pre.length+dF<=m) (cnt0) ?_ ?_
 ·exact⟨[],Kc,_,_,[],rfl,rfl,rfl,Vs.start L,by simpa using hcnt0⟩
 rintro _ _ _ ⟨lf,dF,pre,rfl,rfl,rfl,hV,hpm⟩;refine Z4t ?_;refine OW.FV (i:=0) pb rfl rfl rfl rfl rfl rfl (fun hnx=>?_) (fun aK vK cK hok hlf hfa hcn=>?_)
 all_goals
  refine Zn (k:=?_);first|(have:=hnx;refine CW.H5 (i:=0) rfl ?_;refine CW.aX [2,0,0] 2 rfl rfl ?_;refine CW.aX [1,0] 2 rfl rfl ?_)|skip
  refine Zd ?_ ?_
  ·try exact⟨⟩
   all_goals
    obtain⟨x,hx,rfl,rfl⟩:=Vf hfa;refine Z4t ?_;intros;refine Z3B (k:=Z4x ?_);refine OW.put 10 (.agg #[V x.tk,J x.pl,J x.tn,J x.rb]) rfl rfl ?_;refine Z4t ?_;intros;refine OW.Wh (x:=x) (vl:=Cl.v) rfl rfl rfl rfl rfl rfl hY 2 rfl (by show pre.length<10000;omega) ?_
    refine Z4t ?_;refine⟨_,[],[2,0,1],[_,_],?_,Kc,rfl,_,_,pre++[x],rfl,rfl,rfl,hV.next hU hx hlf,by simp;omega⟩
    omega
  try exact⟨⟩
  all_goals
   refine Zl ?_;intros;exact⟨pre,_,⟨hV.done hU hn hnx,rfl⟩,rfl⟩
def Qt(Bm Ba m:Nat)(L:List Cl)(S:Nat->Prop)(w0:World)(hS:(HP.dj [HP.aw Bm 294 [.map (some Ba)],HP.mw prog 299 Ba m (Tr.l2 prog) Tr.o2 (gV (L))]).bA S w0)(hb:∀k,S k->k<w0.heap.size)(hU:Uq L)(hn:L.Nodup)(hm:m<=10000):
  CF 237 #[.slice none 0 0,.func (.func 207) #[] #[Y Bm 0]] w0 S fun v Hn=>∃A c xs,xs.Perm L/\v=.slice A xs.length c/\Hn=[(HP.dj [HP.aw Bm 294 [.map (some Ba)],HP.mw prog 299 Ba m (Tr.l2 prog) Tr.o2 (gV (L))]),HP.row 258 4 A xs.length c (fl Cl.cs xs)]:=by
 refine uU (vs:=[.slice none 0 0,.func (.func 207) #[] #[Y Bm 0]]) (H:=[(HP.dj [HP.aw Bm 294 [.map (some Ba)],HP.mw prog 299 Ba m (Tr.l2 prog) Tr.o2 (gV (L))])]) func237 ntmps237 rfl rfl (HA.au hS hb) ?_;refine Zx (k:=Z4y ?_);intro BS;refine CW.bM 258 4 ?_;refine CW.conv (ec [1,0,0,0] 2 rfl rfl) ?_;refine CW.conv (Ih (f:=fun(z:am×Nat)=>HP.dj [HP.aw BS 79 [.slice z.1 0 z.2],HP.row 258 4 z.1 0 z.2 (fl Cl.cs [])]) 0 (none,0) rfl rfl) ?_;refine Z4t ?_;refine CW.X0 (p:=fun pre=>(HP.ex fun(z:am×Nat)=>HP.dj [HP.aw BS 79 [.slice z.1 (pre).length z.2],HP.row 258 4 z.1 (pre).length z.2 (fl Cl.cs (pre))])) (vl:=Cl.v) (I:=fun pre _=>pre.length<10000) (Q:=fun xs A9=>xs.Perm L/\A9=(HP.dj [HP.aw Bm 294 [.map (some Ba)],HP.mw prog 299 Ba m (Tr.l2 prog) Tr.o2 (gV (L))])) (A:=(HP.dj [HP.aw Bm 294 [.map (some Ba)],HP.mw prog 299 Ba m (Tr.l2 prog) Tr.o2 (gV (L))])) (ds:=[]) [2] rfl rfl rfl rfl rfl Mx rfl rfl 0 0 0 rfl rfl rfl ?_ ?_ ?_
 ·intro w S9 L9 q hw hY hS hb;exact Wy Bm Ba m L9 L q S9 w hU hn hm hY hS fun k hk=>(hb k hk).1
 ·intro L9 pre x hI W F9;refine Z4y ?_;intros;refine⟨rfl,_,ec [0,0] 2 rfl rfl,fun W F9=>?_⟩;refine Zx (k:=Z24 (k:=?_));refine CW.GY 1 rfl (fun z=>?_);obtain⟨A3,c3⟩:=z;refine Z24 (k:=Z4t ?_);refine OW.bsl 4 (fl Cl.cs [x]) rfl rfl (fun w=>xF w) (fun A3=>?_);refine OW.dJ (j:=0) (i:=1) Cl.fx Ux Jx rfl rfl rfl rfl rfl rfl rfl rfl rfl rfl K3 K3 (fun A4 c4=>?_);refine Z4L ?_;refine OW.kz (ec [0,0,0] 2 rfl rfl) ?_;refine OW.kz (Ih (f:=fun(z:am×Nat)=>HP.dj [HP.aw BS 79 [.slice z.1 (pre++[x]).length z.2],HP.row 258 4 z.1 (pre++[x]).length z.2 (fl Cl.cs (pre++[x]))]) 0 (A4,c4) rfl rfl) ?_;refine Z4t ?_;exact⟨rfl,[0],rfl⟩
 intro DM xs A9 ⟨hxp,rfl⟩;refine Z4u ?_;refine CW.GY 1 rfl (fun z=>?_);obtain⟨A4,c4⟩:=z;refine Z24 (k:=Z4t ?_);refine yS.one [2,2,1] rfl results237 rfl rfl ?_;exact⟨A4,c4,xs,hxp,rfl,rfl⟩
section
open Go.Proofs Go.Sort Go.Shelf Go.Lib
def Gv:Go.Shelf.Ren:=⟨fun|6=>206|15=>239|14=>238|28=>277|29=>278|20=>269|21=>270|22=>271|23=>272|24=>273|25=>274|26=>275|27=>276|46=>296|47=>297|48=>298|49=>299|50=>300|57=>306|n=>n,fun|22=>79|24=>258|25=>300|3=>3|39=>261|0=>0|53=>52|55=>26|4=>4|46=>427|45=>426|50=>281|5=>5|9=>9|66=>447|70=>243|76=>456|77=>457|n=>n,fun|n=>n⟩
def F8:SlLaysF0.n6 prog Gv:={
 mixed:=K0,
 f6:=⟨Tryz.f206.name,by decide,Tryz.func206.trans (aq some K0)⟩,
 f14:=⟨Tryz.f238.name,by decide,Tryz.func238.trans (aq some K0)⟩,
 f15:=Tryz.func239.trans (aq some K0),
 f20:=⟨Tryz.f269.name,by decide,Tryz.func269.trans (aq some K0)⟩,
 f21:=⟨Tryz.f270.name,by decide,Tryz.func270.trans (aq some K0)⟩,
 f22:=⟨Tryz.f271.name,by decide,Tryz.func271.trans (aq some K0)⟩,
 f23:=⟨Tryz.f272.name,by decide,Tryz.func272.trans (aq some K0)⟩,
 f24:=⟨Tryz.f273.name,by decide,Tryz.func273.trans (aq some K0)⟩,
 f25:=⟨Tryz.f274.name,by decide,Tryz.func274.trans (aq some K0)⟩,
 f26:=⟨Tryz.f275.name,by decide,Tryz.func275.trans (aq some K0)⟩,
 f27:=⟨Tryz.f276.name,by decide,Tryz.func276.trans (aq some K0)⟩,
 f28:=Tryz.func277.trans (aq some K0),
 f29:=Tryz.func278.trans (aq some K0),
 f46:=⟨Tryz.f296.name,by decide,Tryz.func296.trans (aq some K0)⟩,
 f47:=Tryz.func297.trans (aq some K0),
 f48:=Tryz.func298.trans (aq some K0),
 f49:=⟨Tryz.f299.name,by decide,Tryz.func299.trans (aq some K0)⟩,
 f50:=⟨Tryz.f300.name,by decide,Tryz.func300.trans (aq some K0)⟩,
 f57:=⟨Tryz.f306.name,by decide,Tryz.func306.trans (aq some K0)⟩,
 t0:=Ux,
 a0:=isAgg0,
 z0:=sizeOf0,
 v0:=zeroValue0,
 t3:=Ux,
 a3:=isAgg3,
 z3:=sizeOf3,
 v3:=zeroValue3,
 t4:=Ux,
 a4:=isAgg4,
 z4:=sizeOf4,
 v4:=zeroValue4,
 t5:=Ux,
 a5:=isAgg5,
 z5:=sizeOf5,
 v5:=zeroValue5,
 t9:=Ux,
 a9:=isAgg9,
 z9:=sizeOf9,
 v9:=zeroValue9,
 t22:=Ux,
 a22:=isAgg79,
 z22:=sizeOf79,
 v22:=zeroValue79,
 t25:=Ux,
 a25:=isAgg300,
 z25:=sizeOf300,
 v25:=zeroValue300,
 t39:=Ux,
 a39:=isAgg261,
 z39:=sizeOf261,
 v39:=zeroValue261,
 t45:=Ux,
 a45:=isAgg426,
 z45:=sizeOf426,
 v45:=zeroValue426,
 t46:=Ux,
 a46:=isAgg427,
 z46:=sizeOf427,
 v46:=zeroValue427,
 t50:=Ux,
 a50:=isAgg281,
 z50:=sizeOf281,
 v50:=zeroValue281,
 t53:=Ux,
 a53:=isAgg52,
 z53:=sizeOf52,
 v53:=zeroValue52,
 t55:=Ux,
 a55:=isAgg26,
 z55:=sizeOf26,
 v55:=zeroValue26,
 t66:=Ux,
 a66:=isAgg447,
 z66:=sizeOf447,
 v66:=zeroValue447,
 t70:=Ux,
 a70:=isAgg243,
 z70:=sizeOf243,
 v70:=zeroValue243,
 t76:=Ux,
 a76:=isAgg456,
 z76:=sizeOf456,
 v76:=zeroValue456,
 t77:=Ux,
 a77:=isAgg457,
 z77:=sizeOf457,
 v77:=zeroValue457}
def UM(n:Int)(w:World):Calls prog 228 #[V n] w fun e w'=>e=.returned (.bool false)/\w'=w:=by
 go_enter func228,ntmps228;go_wp2;go_ret;exact⟨by simp,rfl⟩
def acI(n:Int)(w:World):Calls prog 229 #[J n] w fun e w'=>e=.returned (.bool false)/\w'=w:=by
 go_enter func229,ntmps229;go_wp2;go_ret;exact⟨by simp,rfl⟩
def T8(x y:Int)(w:World):Calls prog 197 #[V x,V y] w fun e w'=>e=.returned (J (Tr.cmp x y))/\w'=w:=by
 go_enter func197,ntmps197;go_wp2_with (go_at_call 228;refine(UM _ _).mono ?_;rintro e w' ⟨rfl,hw⟩;rw[hw]);all_goals(go_ret;refine⟨?_,rfl⟩;unfold Tr.cmp;(repeat' split)<;>first|rfl|(exfalso;omega))
def abT(x y:Int)(w:World):Calls prog 198 #[J x,J y] w fun e w'=>e=.returned (J (Tr.cmp x y))/\w'=w:=by
 go_enter func198,ntmps198;go_wp2_with (go_at_call 229;refine(acI _ _).mono ?_;rintro e w' ⟨rfl,hw⟩;rw[hw]);all_goals(go_ret;refine⟨?_,rfl⟩;unfold Tr.cmp;(repeat' split)<;>first|rfl|(exfalso;omega))
def wM(w:World)(o1 o2:Obj)(cs:Array Value)(k:Nat){v:Value}(h:cs[k]? =some v):(((w.alloc o1).alloc o2).alloc (.cells cs 3)).drew.cell? ⟨w.heap.size+1+1,k,none⟩=some v:=by
 have h2:(((w.alloc o1).alloc o2).alloc (.cells cs 3)).drew.heap[w.heap.size+1+1]? =some (.cells cs 3):=by
  have h3:=World.alloc_heap_new ((w.alloc o1).alloc o2) (.cells cs 3);rw[World.size_alloc,World.size_alloc] at h3;exact h3
 unfold World.cell?;rw[h2];exact h
def adZ(a b:Int)(B:Nat)(w:World)(h0:w.cell? ⟨B,0,none⟩=some (J a))(h1:w.cell? ⟨B,1,none⟩=some (J b)):Calls prog 196 #[.slice (some ⟨B,0,none⟩) 2 2] w fun e w'=>e=.returned (J (N3 [a,b]))/\w'=w:=by
 go_enter func196,ntmps196;go_wp2;refine wp_loop_rounds 3 ?_;rw[rounds_succ];go_wp2
 ·go_ret;rename_i h;have h2:a≠0:=by simpa using h
  exact⟨by unfold N3;simp[h2],rfl⟩
 rename_i h;have h2:a=0:=by simpa using h
 rw[rounds_succ];go_wp2
 ·go_ret;rename_i h3;have h4:b≠0:=by simpa using h3
  exact⟨by unfold N3;simp[h2,h4],rfl⟩
 rename_i h3;have h4:b=0:=by simpa using h3
 rw[rounds_succ];go_wp2;go_ret;exact⟨by unfold N3;simp[h2,h4],rfl⟩
def Up(x y:Cl)(w:World):Calls prog 154 #[x.v,y.v] w fun e w'=>e=.returned (J (xY x y))/\∃q os',w'=grow (w.drewN q) os':=by
 have hc1:=fun W=>T8 x.tk y.tk W;have hc2:=fun W=>abT x.pl y.pl W;obtain⟨x1,x2,x3,x4⟩:=x;obtain⟨y1,y2,y3,y4⟩:=y;show Calls prog 154 #[.agg #[V x1,J x2,J x3,J x4],.agg #[V y1,J y2,J y3,J y4]] w _;simp only at hc1 hc2;go_enter func154,ntmps154;go_wp2;go_region_held (fun w'=>w'.cell? ⟨w.heap.size,0,none⟩=some (V x1)/\w'.cell? ⟨w.heap.size+1,0,none⟩=some (V y1)/\w'.cell? ⟨w.heap.size,1,none⟩=some (J x2)/\w'.cell? ⟨w.heap.size+1,1,none⟩=some (J y2)) (go_keep) (first|(go_at_call 197;refine(hc1 _).mono ?_;rintro e w' ⟨rfl,rfl⟩)|(go_at_call 198;refine(hc2 _).mono ?_;rintro e w' ⟨rfl,rfl⟩)|(go_at_call 196;refine Calls.mono (adZ (Tr.cmp x1 y1) (Tr.cmp x2 y2) _ _ ?_ ?_) ?_;(focus (exact wM _ _ _ _ _ rfl));(focus (exact wM _ _ _ _ _ rfl));rintro e w' ⟨rfl,rfl⟩))
 go_wp2;go_ret;exact⟨rfl,1,_,by rw[alloc_eq_grow,alloc_eq_grow,alloc_eq_grow,grow_grow,grow_grow];rfl⟩
def IK(p:am)(cap:Nat)(fv:Value)(w:World):Calls prog 269 #[.slice p 0 cap,J 0,J 0,fv] w fun e w'=>e=.returned (.tuple #[])/\w'=w:=by
 go_enter func269,ntmps269;go_wp2;refine wp_loop_rounds 1 ?_;rw[rounds_succ];go_wp2;go_end0;exact⟨rfl,rfl⟩
def J6(p:am)(cap:Nat)(lim:Int)(fv:Value)(w:World):Calls prog 238 #[.slice p 0 cap,J 0,J 0,J lim,fv] w fun e w'=>e=.returned (.tuple #[])/\w'=w:=by
 have hi:=fun W=>IK p cap fv W;go_enter func238,ntmps238;go_wp2;refine wp_loop_rounds 1 ?_;rw[rounds_succ];go_wp2_with (go_at_call 269;refine(hi _).mono ?_;rintro e w' ⟨rfl,rfl⟩);(try simp only[Exit.inBlock,Exit.then]);refine bodyPost_ret (results_none rfl _ _ _) rfl ?_
 exact⟨rfl,rfl⟩
def Fi(p:am)(cap:Nat)(fv:Value)(w:World):Calls prog 206 #[.slice p 0 cap,fv] w fun e w'=>e=.returned (.tuple #[])/\w'=w:=by
 have hp:=fun W lim=>J6 p cap lim fv W
 have hl:∀W,Calls prog 239 #[V 0] W fun e w'=>e=.returned (J ((Lib.bitLen 0:Nat):Int))/\w'=W:=fun W=>by
  have h:=Any.bits_Len (SlLaysF0.n15.bits (P:=prog) (ρ:=Gv) {F8 with}) (0:Int) W K1 K1
  change Calls prog 239 _ _ _ at h;simpa using h
 generalize((Lib.bitLen 0:Nat):Int)=lim at hl;go_enter func206,ntmps206;go_wp2_with (first|(go_at_call 239;refine(hl _).mono ?_;rintro e w' ⟨rfl,rfl⟩)|(go_at_call 238;refine(hp _ _).mono ?_;rintro e w' ⟨rfl,rfl⟩))
 go_end0;exact⟨rfl,rfl⟩
def YE(A:am)(c:Nat)(l:List Cl)(S:Nat->Prop)(w0:World)(hS:(HP.row 258 4 A l.length c (fl Cl.cs l)).bA S w0)(hb:∀k,S k->k<w0.heap.size)(hU:Uq l)(hn:l.Nodup)(hl:l.length<=100000):
  CF 206 #[.slice A l.length c,.func (.func 154) #[] #[]] w0 S fun v Hn=>v=.tuple #[]/\Hn=[HP.row 258 4 A l.length c (fl Cl.cs (sort l))]:=by
 cases A with
 |none=>
  have h0:l.length=0:=by
   rcases hS.2.2 with⟨_,h⟩|⟨g,cap,cur,hv,_⟩
   ·exact h
   injection hv with hv;cases hv
  have hl0:l=[]:=j4 h0;subst hl0;refine(Fi none c _ w0).mono ?_;rintro e w' ⟨rfl,rfl⟩;exact⟨_,_,rfl,⟨rfl,rfl⟩,HA.au hS hb⟩
 |some a=>
  have ha:a=⟨a.block,0,.none⟩:=by
   rcases hS.2.2 with⟨hv,_⟩|⟨g,cap,cur,hv,_⟩
   ·injection hv with hv;cases hv
   injection hv with hv;injection hv with hv;rw[hv]
  generalize a.block=B at ha;subst ha;have hH:=KA (f:=Cl.cs) Cl.fx hS.2 rfl;have hB:B<w0.heap.size:=hb B ((hS.1 B).2 rfl);have eg:∀args w,(callFunc 154 args).run prog w=.ok (.enter 154 args) w:=enters_of func154 K0 rfl;have hcon:=AnyQ.slices_SortFunc F8 4 isAgg258 sizeOf258 Cl.cs Cl.fx.len Cl.fx.one xY swo 154 #[] B 0 c l.toArray w0 eg (fun m os dk hs x y=>Up x y _) hH hB (by simp;omega)
  have hsz:l.toArray.size=l.length:=by simp
  rw[hsz] at hcon;refine Calls.mono hcon ?_;rintro e w' ⟨rfl,d',n,os,hp,hs,rfl⟩;have hd:d'.toList=sort l:=J9 hU hn (by simpa using hp) (by simpa using hs)
  refine⟨_,_,rfl,⟨rfl,rfl⟩,?_⟩;have h9:=FR (m:=n) (os:=os) (d:=d') Cl.fx hS hb rfl (by have:=hp.1;simpa using this)
  rw[hd] at h9;exact h9
end
def Jw(Bm Ba m:Nat)(L:List Cl)(S:Nat->Prop)(w0:World)(hS:(HP.dj [HP.aw Bm 294 [.map (some Ba)],HP.mw prog 299 Ba m (Tr.l2 prog) Tr.o2 (gV (L))]).bA S w0)(hb:∀k,S k->k<w0.heap.size)(hU:Uq L)(hn:L.Nodup)(hm:m<=10000):
  CF 205 #[.func (.func 207) #[] #[Y Bm 0]] w0 S fun v Hn=>∃A c xs,xs.Perm L/\v=.slice A xs.length c/\Hn=[(HP.dj [HP.aw Bm 294 [.map (some Ba)],HP.mw prog 299 Ba m (Tr.l2 prog) Tr.o2 (gV (L))]),HP.row 258 4 A xs.length c (fl Cl.cs xs)]:=by
 refine Zp (HA.au hS hb) ?_;refine Zh @Qt ?_;refine Z4t ?_;intro AX cX xX hxX;refine Z1e (k:=?_);exact⟨AX,cX,xX,hxX,rfl,rfl⟩
def Rb(Bm Ba m:Nat)(L:List Cl)(S:Nat->Prop)(w0:World)(hS:(HP.dj [HP.aw Bm 294 [.map (some Ba)],HP.mw prog 299 Ba m (Tr.l2 prog) Tr.o2 (gV (L))]).bA S w0)(hb:∀k,S k->k<w0.heap.size)(hU:Uq L)(hn:L.Nodup)(hm:m<=10000)(hL:L.length<=10000):
  CF 159 #[.func (.func 207) #[] #[Y Bm 0],.func (.func 154) #[] #[]] w0 S fun v Hn=>∃A c,v=.slice A (sort L).length c/\Hn=[(HP.dj [HP.aw Bm 294 [.map (some Ba)],HP.mw prog 299 Ba m (Tr.l2 prog) Tr.o2 (gV (L))]),HP.row 258 4 A (sort L).length c (fl Cl.cs (sort L))]:=by
 refine Zp (HA.au hS hb) ?_;refine Zh @Jw ?_;refine Z4t ?_;intro AX cX xX hxX;refine OW.aU Mx rfl rfl rfl rfl rfl rfl _ 1 rfl (fun w S hw hs hb hc=>YE AX cX xX S w hs (fun k hk=>(hb k hk).1) (hU.perm hxX) (hxX.nodup_iff.2 hn) (by rw[hxX.length_eq];omega)) ?_;rintro _ _ ⟨rfl,rfl⟩
 refine Z4t ?_;refine KR.one [1,0] rfl rfl rfl ?_;have e9:sort xX=sort L:=KE hU hn hxX;have e8:(sort L).length=xX.length:=by rw[<-e9,OI]
 exact⟨AX,cX,by rw[e8],by rw[e8,e9]⟩
def Yk(B Ba Br m:Nat)(L:List Cl)(S:Nat->Prop)(w0:World)(hS:(HP.dj [HP.aw B 297 [.map (some Ba),.map (some Br)],HP.mw prog 299 Ba m (Tr.l2 prog) Tr.o2 (gV (L)),HP.mw prog 305 Br m (l3 prog) o3 (ko (L))]).bA S w0)(hb:∀k,S k->k<w0.heap.size)(hU:Uq L)(hn:L.Nodup)(hm:m<=10000)(hL:L.length<=10000):
  CF 126 #[Y B 0] w0 S fun v Hn=>∃A c,v=.slice A (sort L).length c/\Hn=[(HP.dj [HP.aw B 297 [.map (some Ba),.map (some Br)],HP.mw prog 299 Ba m (Tr.l2 prog) Tr.o2 (gV (L)),HP.mw prog 305 Br m (l3 prog) o3 (ko (L))]),HP.row 258 4 A (sort L).length c (fl Cl.cs (sort L))]:=by
 refine Zp (HA.au hS hb) ?_;refine Zx (k:=Z24 (k:=?_));refine Zg @Me ?_;intro Bm;refine OW.kz (ec [0,1,0,0] 2 rfl rfl) ?_;refine Zh @Rb ?_;refine Z4L ?_;intro AX cX;refine OW.open 0 rfl ?_;refine OW.kz (ec [3,1,2,1] 3 rfl rfl) ?_;refine Zr (k:=Z1e (k:=?_));exact⟨AX,cX,rfl,rfl⟩
def VX:(194:TypeId)<Tryz.prog.types.size:=bf K0
def Iz:(match Tryz.prog.underlying 194 with|some (.array _ _)|some (.struct _)=>true|_=>false)=true:=by rw[underlying194]
def Y6:WideMaps.KeyLaw prog 194:=deep_law_laid laidOut (m:=3) K1 VX K0 Iz
def Xb:z6 prog 194:=z6.mk' (m:=3) Y6 K0 K1 K0 Iz
def acs:Tryz.prog.keyType 194=true:=K0
def aco:Tryz.prog.cellsOf 194=2:=K0
def Ly(a0 a1:Int)(h0:(Lit.int .u64 a0).wf=true)(h1:(Lit.int .i64 a1).wf=true):∃l,keyOf prog 194 (.agg #[V a0,J a1])=some l:=by
 obtain⟨n,hn⟩:=AG;unfold keyOf;rw[underlying194,hn];simp[Value.formed,underlying194,acs,aco,Value.cells,Program.keyLits,Uj,wv,underlying3,underlying26,h0,h1,kg]
def Xm:(258:TypeId)<Tryz.prog.types.size:=bf K0
def GO:(match Tryz.prog.underlying 258 with|some (.array _ _)|some (.struct _)=>true|_=>false)=true:=by rw[underlying258]
def WE:WideMaps.KeyLaw prog 258:=deep_law_laid laidOut (m:=3) K1 Xm K0 GO
def YP:z6 prog 258:=z6.mk' (m:=3) WE K0 K1 K0 GO
def abP:Tryz.prog.keyType 258=true:=K0
def ab9:Tryz.prog.cellsOf 258=4:=K0
def Q9(a0 a1 a2 a3:Int)(h0:(Lit.int .u64 a0).wf=true)(h1:(Lit.int .i64 a1).wf=true)(h2:(Lit.int .i64 a2).wf=true)(h3:(Lit.int .i64 a3).wf=true):∃l,keyOf prog 258 (.agg #[V a0,J a1,J a2,J a3])=some l:=by
 obtain⟨n,hn⟩:=AG;unfold keyOf;rw[underlying258,hn];simp[Value.formed,underlying258,abP,ab9,Value.cells,Program.keyLits,Uj,wv,underlying3,underlying26,h0,h1,h2,h3,kg]
def Mm(y:Cw)(w0:World)(hb:y.q=Tr.bare):
  CV 149 #[y.v] w0 (.bool true):=by
 have hb1:y.rs.length=0:=by have:=aq (fun w=>w.rs.length) hb;exact this
 have hb2:y.b.q.os.length=0:=by have:=aq (fun w=>w.b.os.length) hb;exact this
 have hb3:y.b.q.q.length=0:=by have:=aq (fun w=>w.b.q.length) hb;exact this
 have hb4:y.b.q.n.qP=0:=aq (fun w=>w.b.n.qP) hb;have hb5:y.b.q.n.many=0:=aq (fun w=>w.b.n.many) hb;have hb6:y.mv= -1:=aq (fun w=>w.mv) hb;refine Zq ?_;refine Z4t ?_;intros;refine OW.pure rfl rfl rfl (PV.th (p:=True) Xb rfl rfl rfl (Ly _ _ (by rw[hb4];decide) (by rw[hb5];decide)).choose_spec (Ly 0 0 K6 K6).choose_spec (by simp[hb4,hb5])) ?_
 refine Zk ?_;exact⟨aq Value.bool K17,rfl⟩
def TV(y:Cw)(w0:World)(hw0:E.dc w0 (Old w0) y.mem)(hrl:y.rs.length<=3)(hol:y.b.q.os.length<=64)(hql:y.b.q.q.length<=64):
  CO 220 #[y.v] w0 fun v Hn=>∃z:Cw,z.q=y.q/\v=z.v/\Hn=[HP.ro z.mem]:=by
 have hwr:=hw0.at 0 rfl;have hwo:=hw0.at 1 rfl;have hwq:=hw0.at 2 rfl;refine Zq ?_;refine Zg @Xv ?_;refine Zg @EL ?_;refine Zg @bc ?_;refine Zx (k:=Z4J ?_);intro _ _ AR cR AO cO AQ cQ;refine OW.gT [4,3,2,0] 3 rfl rfl (Cw.mk y.rs AR cR (Bk.mk y.b.q AO cO AQ cQ) y.mv).mem K63 ?_;refine Zl ?_;exact⟨(Cw.mk y.rs AR cR (Bk.mk y.b.q AO cO AQ cQ) y.mv),rfl,rfl,rfl⟩
def zi:Tryz.prog.cellsOf 5=1:=K0
def abI:Tryz.prog.cellsOf 52=1:=K0
def Us:Tryz.prog.cellsOf 54=32:=K0
def S4:∃n,Tryz.prog.types.size=n+2:=⟨Tryz.prog.types.size-2,by have h:299<Tryz.prog.types.size:=yj;omega⟩
def aaV:(56:TypeId)<Tryz.prog.types.size:=bf K0
def P0:(match Tryz.prog.underlying 56 with|some (.array _ _)|some (.struct _)=>true|_=>false)=true:=by rw[underlying56]
def acR:WideMaps.KeyLaw prog 56:=deep_law_laid laidOut (m:=3) K1 aaV K0 P0
def Vi:z6 prog 56:=z6.mk' (m:=3) acR K0 K1 K0 P0
def adr:Tryz.prog.keyType 56=true:=K0
def abZ:Tryz.prog.cellsOf 56=36:=K0
def aaD(a0 a1 a2 a3 a4 a5 a6 a7 a8 a9 a10 a11 a12 a13 a14 a15 a16 a17 a18 a19 a20 a21 a22 a23 a24 a25 a26 a27 a28 a29 a30 a31 a32 a33 a34 a35:Int)(h0:(Lit.int .u8 a0).wf=true)(h1:(Lit.int .u8 a1).wf=true)(h2:(Lit.int .u64 a2).wf=true)(h3:(Lit.int .u32 a3).wf=true)(h4:(Lit.int .u8 a4).wf=true)(h5:(Lit.int .u8 a5).wf=true)(h6:(Lit.int .u8 a6).wf=true)(h7:(Lit.int .u8 a7).wf=true)(h8:(Lit.int .u8 a8).wf=true)(h9:(Lit.int .u8 a9).wf=true)(h10:(Lit.int .u8 a10).wf=true)(h11:(Lit.int .u8 a11).wf=true)(h12:(Lit.int .u8 a12).wf=true)(h13:(Lit.int .u8 a13).wf=true)(h14:(Lit.int .u8 a14).wf=true)(h15:(Lit.int .u8 a15).wf=true)(h16:(Lit.int .u8 a16).wf=true)(h17:(Lit.int .u8 a17).wf=true)(h18:(Lit.int .u8 a18).wf=true)(h19:(Lit.int .u8 a19).wf=true)(h20:(Lit.int .u8 a20).wf=true)(h21:(Lit.int .u8 a21).wf=true)(h22:(Lit.int .u8 a22).wf=true)(h23:(Lit.int .u8 a23).wf=true)(h24:(Lit.int .u8 a24).wf=true)(h25:(Lit.int .u8 a25).wf=true)(h26:(Lit.int .u8 a26).wf=true)(h27:(Lit.int .u8 a27).wf=true)(h28:(Lit.int .u8 a28).wf=true)(h29:(Lit.int .u8 a29).wf=true)(h30:(Lit.int .u8 a30).wf=true)(h31:(Lit.int .u8 a31).wf=true)(h32:(Lit.int .u8 a32).wf=true)(h33:(Lit.int .u8 a33).wf=true)(h34:(Lit.int .u8 a34).wf=true)(h35:(Lit.int .u8 a35).wf=true):∃l,keyOf prog 56 (.agg #[U a0,U a1,V a2,O a3,U a4,U a5,U a6,U a7,U a8,U a9,U a10,U a11,U a12,U a13,U a14,U a15,U a16,U a17,U a18,U a19,U a20,U a21,U a22,U a23,U a24,U a25,U a26,U a27,U a28,U a29,U a30,U a31,U a32,U a33,U a34,U a35])=some l:=by
 obtain⟨n,hn⟩:=S4;unfold keyOf;rw[underlying56,hn];simp[Value.formed,underlying56,adr,abZ,Value.cells,Program.keyLits,Uj,wv,underlying3,underlying26,zi,abI,Us,underlying5,underlying52,underlying54,show List.range 32=[0,1,2,3,4,5,6,7,8,9,10,11,12,13,14,15,16,17,18,19,20,21,22,23,24,25,26,27,28,29,30,31] from rfl,h0,h1,h2,h3,h4,h5,h6,h7,h8,h9,h10,h11,h12,h13,h14,h15,h16,h17,h18,h19,h20,h21,h22,h23,h24,h25,h26,h27,h28,h29,h30,h31,h32,h33,h34,h35,kg]
def Xp(t:Gw.Tk)(h:fit t):∃l,keyOf prog 56 t.v=some l:=by
 obtain⟨h1,h2,h3,h4,h5⟩:=h;obtain⟨tn,role,exp,dM,tag⟩:=t;match tag,h5 with
 |[b0,b1,b2,b3,b4,b5,b6,b7,b8,b9,GZ,Gz,Hu,HY,Gb,Ic,Iq,HE,HN,HC,G4,b21,b22,b23,b24,b25,b26,b27,b28,b29,b30,b31],_=>exact aaD tn role exp dM (b0.toNat:Int) (b1.toNat:Int) (b2.toNat:Int) (b3.toNat:Int) (b4.toNat:Int) (b5.toNat:Int) (b6.toNat:Int) (b7.toNat:Int) (b8.toNat:Int) (b9.toNat:Int) (GZ.toNat:Int) (Gz.toNat:Int) (Hu.toNat:Int) (HY.toNat:Int) (Gb.toNat:Int) (Ic.toNat:Int) (Iq.toNat:Int) (HE.toNat:Int) (HN.toNat:Int) (HC.toNat:Int) (G4.toNat:Int) (b21.toNat:Int) (b22.toNat:Int) (b23.toNat:Int) (b24.toNat:Int) (b25.toNat:Int) (b26.toNat:Int) (b27.toNat:Int) (b28.toNat:Int) (b29.toNat:Int) (b30.toNat:Int) (b31.toNat:Int) (Rr h1) (Rr h2) (Y1 h3) (Wx h4) (bY b0) (bY b1) (bY b2) (bY b3) (bY b4) (bY b5) (bY b6) (bY b7) (bY b8) (bY b9) (bY GZ) (bY Gz) (bY Hu) (bY HY) (bY Gb) (bY Ic) (bY Iq) (bY HE) (bY HN) (bY HC) (bY G4) (bY b21) (bY b22) (bY b23) (bY b24) (bY b25) (bY b26) (bY b27) (bY b28) (bY b29) (bY b30) (bY b31)
instance sF{a:Int}{b:Int}{c:Int}{d:Int}{e:Int}{f:Int}{g:Int}{h:Int}{i:Int}{j:Int}{k:Int}{l:Int}{m:Int}{n:Int}{o:Int}{p:Int}{q:Int}{r:Int}{s:Int}{t:Int}{u:Int}{v:Int}{x:Int}{y:Int}{z:Int}{A:Int}{B:Int}{C:Int}{D:Int}{F:Int}{G:Int}{H:Int}{I:Int}{L:Int}{M:Int}{N:Int}:CB 56 #[(0,U a),(1,U b),(2,V c),(3,O d),(4,.agg #[U e,U f,U g,U h,U i,U j,U k,U l,U m,U n,U o,U p,U q,U r,U s,U t,U u,U v,U x,U y,U z,U A,U B,U C,U D,U F,U G,U H,U I,U L,U M,U N])] ((.agg #[U a,U b,V c,O d,U e,U f,U g,U h,U i,U j,U k,U l,U m,U n,U o,U p,U q,U r,U s,U t,U u,U v,U x,U y,U z,U A,U B,U C,U D,U F,U G,U H,U I,U L,U M,U N])):=⟨fun _=>K0⟩
def ER(A:am)(c:Nat)(key:ap)(t:Gw.Tk)(w0:World)(hk1:1<=key.length)(hk2:key.length<=64)(hf:fit t)(hX:ce w0 A (aA key))(hK:ce w0 (some ⟨1,0,.none⟩) (dm ks)):
  CV 172 #[.slice A key.length c,t.v] w0 (.tuple #[.bool (ym key t),J 0]):=by
 have htl:=hf.tag;have hf2:=qt (key:=key) hf;have htl2:=hf2.tag;refine Zq ?_;refine Z4t ?_;intros;refine Z1R (k:=?_);refine OW.call Mx rfl rfl rfl rfl rfl rfl _ (fun w hw=>Cs A c key t w hk1 hk2 hf (hw.rd hX) (hw.rd hK)) ?_;rintro _ _ ⟨rfl,rfl⟩;iterate 4 refine Z4x ?_
 intros;refine Z1Q (k:=Zr (k:=Z1R (k:=?_)));refine OW.pure rfl rfl rfl (PV.qQ (i:=1) Ix rfl rfl rfl K9) ?_;refine OW.pure rfl rfl rfl (PV.th (p:=sign key t=t) Vi rfl rfl rfl (Xp _ hf2).choose_spec (Xp t hf).choose_spec Gw.Tk.inj) ?_;refine Zk ?_;exact⟨rfl,rfl⟩
def GF(A:am)(c:Nat)(b:ap)(w0:World)(hb46:b.length=46)(hc8:b.length<=c)(hX:ce w0 A (aA b)):
  CV 162 #[.slice A b.length c] w0 (.tuple #[(Au.dec b).v,J 0]):=by
 refine Zq ?_;refine Z4t ?_;intros;refine OW.call Mx rfl rfl rfl rfl rfl rfl _ (fun w hw=>G9 A c b 2 8 w hc8 K1 K1 K1 (hw.rd hX)) ?_;rintro _ _ ⟨x1,q1,e1,rfl,rfl,hT1⟩;have hT3:=hT1.resolve_right K1;obtain⟨_,rfl,rfl,rfl⟩:=hT3;refine Z4u ?_;refine CW.put 5 (J ((10:Nat):Int)) rfl rfl ?_;refine Z4t ?_;refine OW.call Mx rfl rfl rfl rfl rfl rfl _ (fun w hw=>G9 A c b 10 4 w hc8 K1 K1 K1 (hw.rd hX)) ?_;rintro _ _ ⟨x2,q2,e2,rfl,rfl,hT2⟩;have hT4:=hT2.resolve_right K1;obtain⟨_,rfl,rfl,rfl⟩:=hT4;refine Z4u ?_;refine CW.put 5 (J ((14:Nat):Int)) rfl rfl ?_;refine ZY (k:=?_);iterate 11 refine Z4v ?_
 refine E.AW.first 11 rfl K0 K0 K0 rfl rfl rfl (PV.D4 (lo:=14) Ux Jx rfl rfl rfl K1) ?_;refine E.AW.put 37 (.slice (fu A c 14) 32 (c-14)) rfl (by rw[hb46]) ?_
 refine E.AW.first 12 rfl K0 K0 K0 rfl rfl rfl (PV.H6 Ux rfl rfl K36) ?_;refine E.AW.first 13 rfl K0 K0 K0 rfl rfl rfl (PV.uC (fun w hw=>(show ce w (fu A c 14) (aA (b.drop 14)) from by have:=qD (k:=14) (m:=32) (hw.rd hX) K1 hc8;rwa[bU K25] at this)) Ix K6 rfl rfl K36) ?_
 refine E.AW.put 39 (.agg #[U (((b.drop 14).getD 0 0).toNat:Int),U (((b.drop 14).getD 1 0).toNat:Int),U (((b.drop 14).getD 2 0).toNat:Int),U (((b.drop 14).getD 3 0).toNat:Int),U (((b.drop 14).getD 4 0).toNat:Int),U (((b.drop 14).getD 5 0).toNat:Int),U (((b.drop 14).getD 6 0).toNat:Int),U (((b.drop 14).getD 7 0).toNat:Int),U (((b.drop 14).getD 8 0).toNat:Int),U (((b.drop 14).getD 9 0).toNat:Int),U (((b.drop 14).getD 10 0).toNat:Int),U (((b.drop 14).getD 11 0).toNat:Int),U (((b.drop 14).getD 12 0).toNat:Int),U (((b.drop 14).getD 13 0).toNat:Int),U (((b.drop 14).getD 14 0).toNat:Int),U (((b.drop 14).getD 15 0).toNat:Int),U (((b.drop 14).getD 16 0).toNat:Int),U (((b.drop 14).getD 17 0).toNat:Int),U (((b.drop 14).getD 18 0).toNat:Int),U (((b.drop 14).getD 19 0).toNat:Int),U (((b.drop 14).getD 20 0).toNat:Int),U (((b.drop 14).getD 21 0).toNat:Int),U (((b.drop 14).getD 22 0).toNat:Int),U (((b.drop 14).getD 23 0).toNat:Int),U (((b.drop 14).getD 24 0).toNat:Int),U (((b.drop 14).getD 25 0).toNat:Int),U (((b.drop 14).getD 26 0).toNat:Int),U (((b.drop 14).getD 27 0).toNat:Int),U (((b.drop 14).getD 28 0).toNat:Int),U (((b.drop 14).getD 29 0).toNat:Int),U (((b.drop 14).getD 30 0).toNat:Int),U (((b.drop 14).getD 31 0).toNat:Int)]) rfl (by rw[bU (by rw[dC,bN];omega),yQ (by rw[bN];omega)]) ?_
 refine E.AW.first 14 rfl K0 K0 K0 rfl rfl rfl (PV.build (ps:=[(0,.tmp 28),(1,.tmp 31),(2,.tmp 32),(3,.tmp 34),(4,.tmp 39)]) rfl rfl (fun w=>(sF).h w)) ?_;refine E.AW.put 40 (.agg (Au.dec b).cs.toArray) rfl (by rw[Gw.Tk.cs,show(Au.dec b).tag=b.drop 14 from rfl,yQ (by rw[bN];omega)]<;>rfl) ?_
 have htl:=(qv hb46).tag;refine E.AW.one 15 K0 rfl ?_;refine OW.jF (i:=0) Js rfl rfl rfl rfl rfl rfl K18 K36 K36 ?_;refine Z4t ?_;refine KR.kR [] rfl (rv.xg Ix rfl (dU 0 rfl) K36) rfl rfl ?_;exact⟨rfl,rfl⟩
instance(a b c d:Int):CB 56 #[(0,U a),(1,U b),(2,V c),(3,O d)] ((.agg #[U a,U b,V c,O d,U 0,U 0,U 0,U 0,U 0,U 0,U 0,U 0,U 0,U 0,U 0,U 0,U 0,U 0,U 0,U 0,U 0,U 0,U 0,U 0,U 0,U 0,U 0,U 0,U 0,U 0,U 0,U 0,U 0,U 0,U 0,U 0])):=⟨fun _=>K0⟩
def Nu(A:am)(c:Nat)(l:List Mt)(K:am)(kc:Nat)(key:ap)(tn role aG now:Int)(w0:World)(hr:0<=role/\role<256)(hX:ce w0 A (fl Mt.cs l))(hY:ce w0 K (aA key))(hK:ce w0 (some ⟨1,0,.none⟩) (dm ks)):
  CO 93 #[.slice A l.length c,.slice K key.length kc,J tn,U role,V aG,V now] w0 fun v Hn=>∃A2 c2,v=.tuple #[.slice A2 (bX l key tn role aG now).1.length c2,(bX l key tn role aG now).2.1.v,J (bX l key tn role aG now).2.2]/\Hn=[HP.row 135 3 A2 ((bX l key tn role aG now).1).length c2 (fl Mt.cs ((bX l key tn role aG now).1))]:=by
 refine Zq ?_;refine Zg @Sb ?_;refine Zs ?_ ?_;all_goals intro _ AM cM hc
 all_goals first|(refine Zt ?_ ?_<;>try exact⟨⟩)|((iterate 4 (refine Z4x ?_;intros)))|skip
 all_goals first|(refine Z4x ?_;intros)|intros
 all_goals first|(refine OW.off rfl rfl rfl ?_)|(refine OW.call Mx rfl rfl rfl rfl rfl rfl _ (fun w hw=>sw tn w) ?_;rintro _ _ ⟨rfl,rfl⟩)|skip
 all_goals first|(refine Zt ?_ ?_<;>try exact⟨⟩)|((iterate 2 (refine Z4x ?_;intros)))|skip
 all_goals first|(refine Z4x ?_;intros)|intros
 all_goals first|(refine OW.off rfl rfl rfl ?_)|(refine OW.call Mx rfl rfl rfl rfl rfl rfl _ (fun w hw=>Dd K kc key w) ?_;rintro _ _ ⟨rfl,rfl⟩)|skip
 all_goals
  refine Zd ?_ ?_
  ·try exact⟨⟩
   all_goals
    refine Zy (k:=Z4y ?_);intros;refine Z1P (k:=Z4z ?_);iterate 3 refine Z4x ?_
    refine Z3C (k:=Zr (k:=Z3D (k:=?_)));by_cases hq:((Au.fM l role aG now).2.2=0\/(Au.fM l role aG now).2.2=9)/\(fX tn&&keyed key)=false<;>first|(exfalso;first|omega|(simp_all;done))|(have e9:(bX l key tn role aG now)=([],Gw.Tk.z,2):=aa hq;exact⟨none,0,K37,K37⟩)|(have e9:(bX l key tn role aG now)=([],Gw.Tk.z,(Au.fM l role aG now).2.2):=(ae hq).trans (ae K64);exact⟨none,0,by rw[e9]<;>rfl,by rw[e9]<;>rfl⟩)
  try exact⟨⟩
  all_goals
   refine Zd ?_ ?_
   ·try exact⟨⟩
    all_goals
     refine Z4u ?_;intros;refine Z1P (k:=Z4z ?_);iterate 3 refine Z4x ?_
     refine Z3C (k:=Zr (k:=Z3D (k:=?_)));by_cases hq:((Au.fM l role aG now).2.2=0\/(Au.fM l role aG now).2.2=9)/\(fX tn&&keyed key)=false<;>first|(exfalso;first|omega|(simp_all;done))|(have e9:(bX l key tn role aG now)=([],Gw.Tk.z,2):=aa hq;exact⟨none,0,K37,K37⟩)|(have e9:(bX l key tn role aG now)=([],Gw.Tk.z,(Au.fM l role aG now).2.2):=(ae hq).trans (ae K64);exact⟨none,0,by rw[e9]<;>rfl,by rw[e9]<;>rfl⟩)
   try exact⟨⟩
   all_goals
    refine Z4u ?_;intros;have hz9:(Au.fM l role aG now).2.2=0:=by assumption
    obtain⟨hmn,hl31⟩:=wE hz9;have ht9:fX tn=true:=by assumption
    have hk9:keyed key=true:=by assumption
    have hkt:(0<=tn/\tn<3)/\(1<=key.length/\key.length<=64):=by unfold fX at ht9;unfold keyed at hk9;simp only[ay,ax] at ht9 hk9;exact⟨ht9,hk9⟩
    have hft:fit (⟨tn,role,fO aG now,((l.length+1:Nat):Int),z32⟩:Gw.Tk):=⟨by show 0<=tn/\tn<256;omega,hr,ux _ _,by show(0:Int)<=((l.length+1:Nat):Int)/\((l.length+1:Nat):Int)<4294967296;omega,rfl⟩
    have htl:=(qt (key:=key) hft).tag;refine CW.put 15 (v:=.slice AM (Au.fM l role aG now).1.length cM) (.slice AM (l++[(⟨role,fO aG now,false⟩:Mt)]).length cM) rfl (by rw[hmn]) ?_
    refine CW.put 16 (v:=O (Au.fM l role aG now).2.1) (O ((l.length+1:Nat):Int)) rfl (by rw[hmn];exact aq (Value.int .u32) (ff K1)) ?_
    refine CW.bO 0 (HP.row 135 3 AM (l++[(⟨role,fO aG now,false⟩:Mt)]).length cM (fl Mt.cs (l++[(⟨role,fO aG now,false⟩:Mt)]))) rfl (by rw[hmn]) ?_
    refine Zr (k:=Z1h (k:=?_));refine OW.put 55 (O ((l.length:Nat):Int)) rfl (aq (Value.int .u32) K55) ?_;have hla:(l++[(⟨role,fO aG now,false⟩:Mt)]).length=l.length+1:=by simp
    iterate 3 refine Z4x ?_
    refine OW.put 58 (V (fO aG now)) rfl K7 ?_;refine Z4t ?_;refine OW.call Mx rfl rfl rfl rfl rfl rfl _ (fun w hw=>Cs K kc key (⟨tn,role,fO aG now,((l.length+1:Nat):Int),z32⟩:Gw.Tk) w K1 K1 hft (hw.rd hY) (hw.rd hK)) ?_;rintro _ _ ⟨rfl,rfl⟩;iterate 4 refine Z4x ?_
    intros;refine Z1Q (k:=Zx (k:=Z1c (k:=Z4v ?_)));refine E.AW.first 1 rfl K0 K0 K0 rfl rfl rfl (PV.qQ (i:=0) Ix rfl rfl rfl K9) ?_;iterate 2 refine Z4v ?_
    refine ZR (k:=Z3C (k:=Z4t ?_));refine KR.wa [2] rfl rfl (rv.xg Ix rfl (dU 0 rfl) K9) rfl rfl ?_;have e9:(bX l key tn role aG now)=((Au.fM l role aG now).1,sign key ⟨tn,role,fO aG now,(Au.fM l role aG now).2.1,z32⟩,0):=(ae (fun h=>by have h2:=h.2;rw[ht9,hk9] at h2;cases h2)).trans (aa hz9)
    rw[hmn,ff (n:=((l.length+1:Nat):Int)) K1] at e9;exact⟨AM,cM,K37,(by rw[e9])⟩
def ac4(tn kind:Int)(P1 P2:Nat)(w0:World)(h1:(ce w0 (some ⟨P1,0,.none⟩) [J tn]))(h2:(ce w0 (some ⟨P2,0,.none⟩) [U kind])):
  CV 169 #[Y P1 0,Y P2 0] w0 (.bool (fX tn&&(decide (1<=kind)&&decide (kind<=6)))):=by
 refine Zq ?_;refine Zg @sw ?_;refine Zs ?_ ?_;all_goals first|(refine Zt ?_ ?_<;>try exact⟨⟩)|((iterate 4 (refine Z4x ?_;intros)))|skip
 all_goals
  refine Zk ?_;intros;exact⟨aq Value.bool K65,rfl⟩
def aaZ(now:Int)(A:am)(c:Nat)(key:ap)(P1 P2:Nat)(w0:World)(h1:(ce w0 (some ⟨P1,0,.none⟩) [V now]))(h2:(ce w0 (some ⟨P2,0,.none⟩) [.slice A key.length c])):
  CV 170 #[Y P1 0,Y P2 0] w0 (.bool (decide (now<=4611686018427387904)&&keyed key)):=by
 refine Zq ?_;refine Zs ?_ ?_;all_goals first|(refine Z4x ?_;intros)|intros
 all_goals first|(refine OW.off rfl rfl rfl ?_)|(refine OW.call Mx rfl rfl rfl rfl rfl rfl _ (fun w hw=>Dd A c key w) ?_;rintro _ _ ⟨rfl,rfl⟩)|skip
 all_goals
  refine Zk ?_;intros;exact⟨aq Value.bool K65,rfl⟩
def ack(t:Gw.Tk)(tn:Int)(P1 P2:Nat)(w0:World)(h1:(ce w0 (some ⟨P1,0,.none⟩) t.cs))(h2:(ce w0 (some ⟨P2,0,.none⟩) [J tn]))(ht:0<=t.tn/\t.tn<256):
  CV 173 #[Y P1 0,Y P2 0] w0 (.bool (decide (t.tn=tn))):=by
 refine Zq ?_;refine Zk ?_;exact⟨rfl,rfl⟩
def acx(b:Bool)(x:Mt)(t:Gw.Tk)(P1 P2 P3:Nat)(w0:World)(h1:(ce w0 (some ⟨P1,0,.none⟩) [.bool b]))(h2:(ce w0 (some ⟨P2,0,.none⟩) (Mt.cs x)))(h3:(ce w0 (some ⟨P3,0,.none⟩) t.cs)):
  CV 174 #[Y P1 0,Y P2 0,Y P3 0] w0 (.bool (b&&(decide (x.role=t.role)&&decide (x.exp=t.exp)))):=by
 refine Zq ?_;refine Zs ?_ ?_;all_goals first|(refine Zt ?_ ?_<;>try exact⟨⟩)|((iterate 7 (refine Z4x ?_;intros)))|skip
 all_goals
  refine Zk ?_;intros;exact⟨aq Value.bool K65,rfl⟩
def aa4(x:Mt)(P1:Nat)(w0:World)(h1:(ce w0 (some ⟨P1,0,.none⟩) (Mt.cs x))):
  CV 175 #[Y P1 0] w0 (.bool (!x.rev)):=by
 refine Zq ?_;refine Zk ?_;exact⟨rfl,rfl⟩
def abM(now:Int)(x:Mt)(P1 P2:Nat)(w0:World)(h1:(ce w0 (some ⟨P1,0,.none⟩) [V now]))(h2:(ce w0 (some ⟨P2,0,.none⟩) (Mt.cs x))):
  CV 176 #[Y P1 0,Y P2 0] w0 (.bool (decide (now<x.exp))):=by
 refine Zq ?_;refine Zk ?_;exact⟨rfl,rfl⟩
def aaF(pm:List Yb)(x:Mt)(kind:Int)(P1 P2:Nat)(w0:World)(h1:(ce w0 (some ⟨P1,0,.none⟩) (Mt.cs x)))(h2:(ce w0 (some ⟨P2,0,.none⟩) [U kind]))(hr:0<=x.role/\x.role<256)(hP:Pm w0 (Old w0) pm):
  CV 177 #[Y P1 0,Y P2 0] w0 (.bool (permits x.role kind)):=by
 refine Zq ?_;refine Z4t ?_;refine OW.call Mx rfl rfl rfl rfl rfl rfl _ (fun w hw=>D1 pm x.role kind w hr (hw.aam hP)) ?_;rintro _ _ ⟨rfl,rfl⟩;refine Zk ?_;exact⟨rfl,rfl⟩
def adb(A:am)(c:Nat)(key:ap)(t:Gw.Tk)(P1 P2:Nat)(w0:World)(h1:(ce w0 (some ⟨P1,0,.none⟩) [.slice A key.length c]))(h2:(ce w0 (some ⟨P2,0,.none⟩) t.cs))(hk1:1<=key.length)(hk2:key.length<=64)(hf:fit t)(hX:ce w0 A (aA key))(hK:ce w0 (some ⟨1,0,.none⟩) (dm ks)):
  CV 171 #[Y P1 0,Y P2 0] w0 (.bool (ym key t)):=by
 refine Zq ?_;refine Z4t ?_;refine OW.pure rfl rfl rfl (PV.W0 (oh h2) Ix (Gw.Tk.len t hf.tag) K6 rfl rfl) ?_;refine Zg @ER ?_;refine Zk ?_;exact⟨rfl,rfl⟩
instance(a:Fn)(b c:Array Value)(d:Int):CB 317 #[(0,.func a b c),(1,J d)] ((.agg #[.func a b c,J d])):=⟨fun _=>K0⟩
def j5{a:Fn}{b c:Array Value}{d:Int}{e:Fn}{f g:Array Value}{h:Int}{i:Fn}{j k:Array Value}{l:Int}{m:Fn}{n o:Array Value}{p:Int}{q:Fn}{r s:Array Value}{t:Int}{u:Fn}{v x:Array Value}{y:Int}{z:Fn}{A B:Array Value}{C:Int}{D:Fn}{F G:Array Value}{H:Int}(w:World):(Instr.buildSlice 320 8 #[(0,.agg #[.func a b c,J d]),(1,.agg #[.func e f g,J h]),(2,.agg #[.func i j k,J l]),(3,.agg #[.func m n o,J p]),(4,.agg #[.func q r s,J t]),(5,.agg #[.func u v x,J y]),(6,.agg #[.func z A B,J C]),(7,.agg #[.func D F G,J H])]).run prog w=.ok (.slice (some ⟨w.heap.size,0,none⟩) 8 8) (w.alloc (.cells #[.func a b c,J d,.func e f g,J h,.func i j k,J l,.func m n o,J p,.func q r s,J t,.func u v x,J y,.func z A B,J C,.func D F G,J H] 317)):=K0
def abi(l:List Mt)(K:am)(kc:Nat)(key:ap)(tn:Int)(t:Gw.Tk)(kind now:Int)(pm:List Yb)(B1 B2 B3 B4 B5 B6 B7:Nat)(hf:fit t)(hr:0<=(entry l t.dM).1.role/\(entry l t.dM).1.role<256)(w:World)(hL:E.dc w (Old w) [(some ⟨B7,0,.none⟩,[.bool (entry l t.dM).2]),(some ⟨B6,0,.none⟩,Mt.cs (entry l t.dM).1),(some ⟨B5,0,.none⟩,[V now]),(some ⟨B4,0,.none⟩,[U kind]),(some ⟨B3,0,.none⟩,t.cs),(some ⟨B2,0,.none⟩,[J tn]),(some ⟨B1,0,.none⟩,[.slice K key.length kc])])(hY:ce w K (aA key))(hK:ce w (some ⟨1,0,.none⟩) (dm ks))(hP:Pm w (Old w) pm):
  ∀k,k<8->(∀j,j<k->(cnd l key tn t kind now) j=true)->Calls prog ([(⟨169, #[Y B2 0,Y B4 0],2⟩:Cd),(⟨170, #[Y B5 0,Y B1 0],2⟩:Cd),(⟨171, #[Y B1 0,Y B3 0],180⟩:Cd),(⟨173, #[Y B3 0,Y B2 0],190⟩:Cd),(⟨174, #[Y B7 0,Y B6 0,Y B3 0],191⟩:Cd),(⟨175, #[Y B6 0],192⟩:Cd),(⟨176, #[Y B5 0,Y B6 0],193⟩:Cd),(⟨177, #[Y B6 0,Y B4 0],194⟩:Cd)].getD k Cd.z).f (([]:bi).toArray++([(⟨169, #[Y B2 0,Y B4 0],2⟩:Cd),(⟨170, #[Y B5 0,Y B1 0],2⟩:Cd),(⟨171, #[Y B1 0,Y B3 0],180⟩:Cd),(⟨173, #[Y B3 0,Y B2 0],190⟩:Cd),(⟨174, #[Y B7 0,Y B6 0,Y B3 0],191⟩:Cd),(⟨175, #[Y B6 0],192⟩:Cd),(⟨176, #[Y B5 0,Y B6 0],193⟩:Cd),(⟨177, #[Y B6 0,Y B4 0],194⟩:Cd)].getD k Cd.z).aE) w (bK w (Old w) fun v Hn=>v=.bool ((cnd l key tn t kind now) k)/\Hn=[]):=by
 intro k hk hp;match k,hk with
 |0,_=>
  exact ac4 tn kind B2 B4 w (hL.mem (A:=some ⟨B2,0,.none⟩) (xs:=[J tn]) (by simp)) (hL.mem (A:=some ⟨B4,0,.none⟩) (xs:=[U kind]) (by simp))
 |1,_=>
  exact aaZ now K kc key B5 B1 w (hL.mem (A:=some ⟨B5,0,.none⟩) (xs:=[V now]) (by simp)) (hL.mem (A:=some ⟨B1,0,.none⟩) (xs:=[.slice K key.length kc]) (by simp))
 |2,_=>
  have h1:=hp 1 K1;have hk9:keyed key=true:=by simp only[cnd,ay] at h1;exact h1.2
  exact adb K kc key t B1 B3 w (hL.mem (A:=some ⟨B1,0,.none⟩) (xs:=[.slice K key.length kc]) (by simp)) (hL.mem (A:=some ⟨B3,0,.none⟩) (xs:=t.cs) (by simp)) (qH.1 hk9).1 (qH.1 hk9).2 hf hY hK
 |3,_=>
  exact ack t tn B3 B2 w (hL.mem (A:=some ⟨B3,0,.none⟩) (xs:=t.cs) (by simp)) (hL.mem (A:=some ⟨B2,0,.none⟩) (xs:=[J tn]) (by simp)) hf.tn
 |4,_=>
  exact acx (entry l t.dM).2 (entry l t.dM).1 t B7 B6 B3 w (hL.mem (A:=some ⟨B7,0,.none⟩) (xs:=[.bool (entry l t.dM).2]) (by simp)) (hL.mem (A:=some ⟨B6,0,.none⟩) (xs:=Mt.cs (entry l t.dM).1) (by simp)) (hL.mem (A:=some ⟨B3,0,.none⟩) (xs:=t.cs) (by simp))
 |5,_=>
  exact aa4 (entry l t.dM).1 B6 w (hL.mem (A:=some ⟨B6,0,.none⟩) (xs:=Mt.cs (entry l t.dM).1) (by simp))
 |6,_=>
  exact abM now (entry l t.dM).1 B5 B6 w (hL.mem (A:=some ⟨B5,0,.none⟩) (xs:=[V now]) (by simp)) (hL.mem (A:=some ⟨B6,0,.none⟩) (xs:=Mt.cs (entry l t.dM).1) (by simp))
 |7,_=>
  exact aaF pm (entry l t.dM).1 kind B6 B4 w (hL.mem (A:=some ⟨B6,0,.none⟩) (xs:=Mt.cs (entry l t.dM).1) (by simp)) (hL.mem (A:=some ⟨B4,0,.none⟩) (xs:=[U kind]) (by simp)) hr hP
 |(k+8),hk=>exact absurd hk K1
def VT(B1 B2 B3 B4 B5 B6 B7:Nat):∀k,k<8->E.Nm prog ([(⟨169, #[Y B2 0,Y B4 0],2⟩:Cd),(⟨170, #[Y B5 0,Y B1 0],2⟩:Cd),(⟨171, #[Y B1 0,Y B3 0],180⟩:Cd),(⟨173, #[Y B3 0,Y B2 0],190⟩:Cd),(⟨174, #[Y B7 0,Y B6 0,Y B3 0],191⟩:Cd),(⟨175, #[Y B6 0],192⟩:Cd),(⟨176, #[Y B5 0,Y B6 0],193⟩:Cd),(⟨177, #[Y B6 0,Y B4 0],194⟩:Cd)].getD k Cd.z).f:=by
 intro k hk;match k,hk with
 |0,_=>exact Mx
 |1,_=>exact Mx
 |2,_=>exact Mx
 |3,_=>exact Mx
 |4,_=>exact Mx
 |5,_=>exact Mx
 |6,_=>exact Mx
 |7,_=>exact Mx
 |(k+8),hk=>exact absurd hk K1
def abW(B1 B2 B3 B4 B5 B6 B7:Nat):∀k,k<8->([(⟨169, #[Y B2 0,Y B4 0],2⟩:Cd),(⟨170, #[Y B5 0,Y B1 0],2⟩:Cd),(⟨171, #[Y B1 0,Y B3 0],180⟩:Cd),(⟨173, #[Y B3 0,Y B2 0],190⟩:Cd),(⟨174, #[Y B7 0,Y B6 0,Y B3 0],191⟩:Cd),(⟨175, #[Y B6 0],192⟩:Cd),(⟨176, #[Y B5 0,Y B6 0],193⟩:Cd),(⟨177, #[Y B6 0,Y B4 0],194⟩:Cd)].getD k Cd.z).e=Xt.getD k 0:=by
 intro k hk;match k,hk with
 |0,_=>rfl
 |1,_=>rfl
 |2,_=>rfl
 |3,_=>rfl
 |4,_=>rfl
 |5,_=>rfl
 |6,_=>rfl
 |7,_=>rfl
 |(k+8),hk=>exact absurd hk K1
def Uw(A:am)(c:Nat)(l:List Mt)(K:am)(kc:Nat)(key:ap)(tn:Int)(t:Gw.Tk)(kind now:Int)(pm:List Yb)(w0:World)(hf:fit t)(hX:ce w0 A (fl Mt.cs l))(hY:ce w0 K (aA key))(hK:ce w0 (some ⟨1,0,.none⟩) (dm ks))(hP:Pm w0 (Old w0) pm):
  CV 128 #[.slice A l.length c,.slice K key.length kc,J tn,t.v,U kind,V now] w0 (J (auth l key tn t kind now)):=by
 refine Zq ?_;refine Zg @rO ?_;refine Zc ?_ ?_
 ·refine Zk ?_;intros;exact⟨aq (Value.int .i64) (ae K2).symm,rfl⟩
 refine Z4u ?_;intro B1 B2 B3 B4 B5 hc;have hck:Au.check l=0:=by assumption
 have hll:=nq hck;have hro:=EP hck t.dM;refine Z4t ?_;refine OW.call Mx rfl rfl rfl rfl rfl rfl _ (fun w hw=>Dq A c l t.dM w hll hf.dM (hw.rd hX)) ?_;rintro _ _ ⟨rfl,rfl⟩;refine Z4t ?_;intro B6 B7;refine OW.bsl 2 (fl Cd.cs [(⟨169, #[Y B2 0,Y B4 0],2⟩:Cd),(⟨170, #[Y B5 0,Y B1 0],2⟩:Cd),(⟨171, #[Y B1 0,Y B3 0],180⟩:Cd),(⟨173, #[Y B3 0,Y B2 0],190⟩:Cd),(⟨174, #[Y B7 0,Y B6 0,Y B3 0],191⟩:Cd),(⟨175, #[Y B6 0],192⟩:Cd),(⟨176, #[Y B5 0,Y B6 0],193⟩:Cd),(⟨177, #[Y B6 0,Y B4 0],194⟩:Cd)]) rfl rfl (fun w=>j5 w) (fun A8=>?_);refine Z4u ?_;refine CW.gT [1,1,1,1,1,1,1,0] 7 rfl rfl [(some ⟨B7,0,.none⟩,[.bool (entry l t.dM).2]),(some ⟨B6,0,.none⟩,Mt.cs (entry l t.dM).1),(some ⟨B5,0,.none⟩,[V now]),(some ⟨B4,0,.none⟩,[U kind]),(some ⟨B3,0,.none⟩,t.cs),(some ⟨B2,0,.none⟩,[J tn]),(some ⟨B1,0,.none⟩,[.slice K key.length kc])] (by simp[Mt.cs]) ?_
 refine Z3 (k:=Z4x ?_);refine OW.put 48 (.slice A8 8 8) rfl rfl ?_;refine Z4x ?_;refine OW.put 49 (J 8) rfl rfl ?_;refine Z4t ?_;refine CW.av [48,49] 0 rfl rfl (fun mm mods Hm=>∃k:Nat,mm=8-k/\mods=[(50,J k)]/\Hm=[]/\(k<=8/\∀j,j<k->(cnd l key tn t kind now) j=true)) (8) ?_ ?_
 ·exact⟨[(50,_)],Kc,0,rfl,rfl,rfl,K1,fun j hj=>by omega⟩
 rintro _ _ _ ⟨k,rfl,rfl,rfl,hk,hI⟩;refine Zc ?_ ?_
 ·refine Z4t ?_;intro hc;refine OW.pure rfl rfl rfl (PV.indexAddr (iH (i:=1) rfl) Ux Jx rfl rfl rfl rfl (by first|(simp[fl,Cd.cs];done)|(simp[fl,Cd.cs];omega)) K1 K6) ?_
  refine OW.pure rfl rfl rfl (PV.nm (k:=k) Cd.z Cd.fx (iH (i:=1) rfl) Ix rfl rfl (by show k<8;omega)) ?_
  have hnm:=VT B1 B2 B3 B4 B5 B6 B7 k K1;have hce:=abW B1 B2 B3 B4 B5 B6 B7 k K1;refine Z4t ?_;intros;refine OW.o6 hnm rfl rfl rfl rfl rfl rfl _ (fun w hw=>abi l K kc key tn t kind now pm B1 B2 B3 B4 B5 B6 B7 hf hro w (hw.aL (i:=1) rfl) (hw.rd hY) (hw.rd hK) (hw.aam hP) k K1 hI) ?_;rintro _ _ ⟨rfl,rfl⟩;refine Zc ?_ ?_
  ·refine Zk ?_;intros;exact⟨by rw[hce];exact aq (Value.int .i64) ((aa hck).trans (vW (k:=k) K1 hI K2)).symm,rfl⟩
  refine Z4t ?_;intros
  refine⟨_,[(50,_)],[1,1],_,?_,Kc,rfl,k+1,rfl,rfl,rfl,K1,(fun j hj=>by
  rcases eG.1 hj with h|rfl
  ·exact hI j h
  ·assumption)⟩
  omega
 refine Zk ?_;intros;exact⟨aq (Value.int .i64) ((aa hck).trans (JI (fun j hj=>hI j K1))).symm,rfl⟩
def qB(n most:Int)(w0:World):
  CV 59 #[J n,J most] w0 (.bool (rH n most)):=by
 refine Zq ?_;refine Zs ?_ ?_
 all_goals
  refine Zk ?_;intros;exact⟨aq Value.bool (by rw[de];simp[rH];omega),rfl⟩
def dg(B:Nat)(bs:ap)(n:Int)(s:Nat)(S:Nat->Prop)(w0:World)(hS:(HP.ww B (bs)).bA S w0)(hb:∀k,S k->k<w0.heap.size)(hz:bs.length<=100000)(hs8:s<=8):
  CF 147 #[Y B 0,V n,J (s:Int)] w0 S fun v Hn=>Hn=[HP.ww B (bs++Dg.bs n s s)]:=by
 refine Zp (HA.au hS hb) ?_;refine Z4t ?_;refine CW.av [0,1] 1 rfl rfl (fun mm mods Hm=>∃k:Nat,mm=s-k/\mods=[(6,J ((s:Int)-1-(k:Int)))]/\Hm=[HP.ww B (bs++Dg.bs n s k)]/\k<=s) (s) ?_ ?_
 ·exact⟨[(6,_)],Kc,0,rfl,K7,(by simp[Dg.bs]),K1⟩
 rintro _ _ _ ⟨k,rfl,rfl,rfl,hk⟩;refine Zc ?_ ?_
 ·refine Z4u ?_;intros;refine Z3E (k:=fun AW cW=>?_);have hbl:(bs++Dg.bs n s k).length=bs.length+k:=by simp
  refine CW.gx (T:=[14]) mixed [0] rfl ?_;iterate 10 refine Z4v ?_
  refine Z4H ?_;refine OW.buildSlice (Et:=5) (sz:=1) (ps:=[(0,.tmp 22)]) rfl rfl rfl rfl rfl K7 K4 (fun w=>hO _ w) (fun A1=>?_);refine Zj (k:=ZU (k:=?_));refine OW.np (j:=0) (i:=1) (eo (n/256^(s-1-k))) (by exact PF n K1 hs8) Ux Jx rfl rfl rfl rfl rfl rfl rfl rfl rfl rfl K3 (fun A2 c2=>?_)
  refine Z4w ?_;iterate 2 refine Z4v ?_
  refine E.AW.jK 14 K0 rfl K0 ?_;refine Z4u ?_;refine CW.Qq 0 0 rfl rfl ?_;refine Z4t ?_;refine⟨_,[(6,_)],[0],[_],?_,Kc,rfl,k+1,rfl,(by rw[show(s:Int)-1-((k+1:Nat):Int)=(s:Int)-1-k-1 by omega]),(by rw[sL,<-aQ]),K1⟩
  omega
 refine Zl ?_;intros;obtain rfl:k=s:=K1;rfl
def OF(B:Nat)(bs:ap)(S:Nat->Prop)(w0:World)(hS:(HP.ww B (bs)).bA S w0)(hb:∀k,S k->k<w0.heap.size)(hz:bs.length<=100000):
  CF 148 #[Y B 0] w0 S fun v Hn=>∃A c,v=.slice A (mM bs).length c/\Hn=[HP.ww B (bs),HP.row 5 1 A (mM bs).length c (aA (mM bs))]:=by
 refine Zp (HA.au hS hb) ?_;refine Zx (k:=Z3E (k:=fun AW cW=>Zy (k:=Z4z ?_)));iterate 6 refine Z4x ?_
 refine OW.put 9 (J ((bs.length+2:Nat):Int)) rfl (aq (Value.int .i64) K1) ?_;refine Zx (k:=Z4z ?_);iterate 5 refine Z4x ?_
 refine OW.put 12 (U ((eo (((bs.length+2:Nat):Int)/2^min (8:Int).toNat IntKind.i64.bits)).toNat:Int)) rfl (aq (Value.int .u8) (jH _)) ?_;refine OW.put 14 (U ((eo ((bs.length+2:Nat):Int)).toNat:Int)) rfl (aq (Value.int .u8) (jH _)) ?_;refine OW.bsl 1 (aA ([eo (((bs.length+2:Nat):Int)/2^min (8:Int).toNat IntKind.i64.bits),eo ((bs.length+2:Nat):Int)])) rfl rfl (fun w=>rY w) (fun A1=>?_);refine OW.chunk 0 (HP.row 5 1 A1 (List.length ([eo (((bs.length+2:Nat):Int)/2^min (8:Int).toNat IntKind.i64.bits),eo ((bs.length+2:Nat):Int)])) 2 (aA ([eo (((bs.length+2:Nat):Int)/2^min (8:Int).toNat IntKind.i64.bits),eo ((bs.length+2:Nat):Int)]))) rfl rfl ?_;refine OW.put 15 (.slice A1 (List.length ([eo (((bs.length+2:Nat):Int)/2^min (8:Int).toNat IntKind.i64.bits),eo ((bs.length+2:Nat):Int)])) 2) rfl rfl ?_;refine Z4t ?_;refine OW.iP (i:=0) Ux Jx rfl rfl rfl rfl rfl rfl rfl rfl rfl (iH (i:=2) rfl) K3 (fun A2 c2=>?_);refine Z4L ?_;refine OW.Qq 1 1 rfl rfl ?_;refine Zr (k:=Z1e (k:=?_));exact⟨_,_,rfl,rfl⟩
def HZ(r:Rc)(w0:World):
  CV 218 #[r.v] w0 (.bool (qF r)):=by
 refine Zq ?_;refine Zs ?_ ?_;all_goals first|(refine Zt ?_ ?_<;>try exact⟨⟩)|((iterate 5 (refine Z4x ?_;intros)))|skip
 all_goals first|(iterate 2 refine Z4x ?_;intros)|intros
 all_goals first|(refine OW.off rfl rfl rfl ?_)|(refine OW.call Mx rfl rfl rfl rfl rfl rfl _ (fun w hw=>qB r.cd 65535 w) ?_;rintro _ _ ⟨rfl,rfl⟩)|skip
 all_goals
  refine Zk ?_;intros;exact⟨aq Value.bool (by rw[de];first|(simp_all [qF];done)|(simp_all [qF];omega)),rfl⟩
def Ee{a:am}{b c:Nat}(w:World):(Instr.buildSlice 208 1 #[(0,.slice a b c)]).run prog w=.ok (.slice (some ⟨w.heap.size,0,none⟩) 1 1) (w.alloc (.cells #[.slice a b c] 22)):=K0
def Nc(A:am)(c:Nat)(b:ap)(w0:World)(hc8:b.length<=c)(hX:ce w0 A (aA b)):
  CO 90 #[.slice A b.length c] w0 fun v Hn=>∃ys:List Yb,∃A2 c2 A3 c3,ys.map Yb.l=(Wi.split b).1/\v=.tuple #[.slice A2 ys.length c2,.slice A3 (Wi.split b).2.1.length c3,J (Wi.split b).2.2]/\Hn=[HP.row 22 1 A2 (ys).length c2 (fl Yb.cs (ys)),HP.ro (JS ys),HP.row 5 1 A3 ((Wi.split b).2.1).length c3 (aA ((Wi.split b).2.1))]/\((∀y∈ys,y.l.length<=y.c/\y.l.length<=64)/\ys.length<=4160/\(Wi.split b).2.1.length<=4160):=by
 refine Zq ?_;refine Zx (k:=Zy (k:=Z3F (k:=?_)));refine CW.bM 22 1 ?_;refine Zc ?_ ?_
 ·refine Z4u ?_;intros;refine ZV (k:=Zr (k:=Z3G (k:=?_)));have e9:(Wi.split b)=([],[],4):=aa K1;exact⟨[],none,0,none,0,by rw[e9]<;>rfl,by rw[e9]<;>rfl,by rw[e9]<;>rfl,(fun y hy=>by cases hy),bF _,by rw[e9];exact bF _⟩
 refine Z4t ?_;intro hc;refine CW.av [] 2 rfl rfl (fun mm mods Hm=>∃mf:Nat,∃ys:List Yb,∃Ay:am,∃cy:Nat,∃cur:ap,∃Ak:am,∃ck:Nat,mm=(mf+1)/\mods=[(2,.slice Ay ys.length cy),(0,.slice Ak cur.length ck)]/\Hm=[HP.row 22 1 Ay (ys).length cy (fl Yb.cs (ys)),HP.ro (JS ys)]/\cur.length<=mf/\cur.length<=ck/\ys.length+cur.length<=4160/\(∀w G,Rd w G A (aA b)->Rd w G Ak (aA cur))/\Wi.sp b.length b=(ys.map Yb.l++(Wi.sp mf cur).1,(Wi.sp mf cur).2)/\(∀y∈ys,y.l.length<=y.c/\y.l.length<=64)) (b.length+1) ?_ ?_
 ·exact⟨[(2,_),(0,_)],Kc,b.length,[],none,0,b,A,c,rfl,rfl,rfl,K1,K1,by simp;omega,fun w G h=>h,rfl,(fun y hy=>by cases hy)⟩
 rintro _ _ _ ⟨mf,ys,Ay,cy,cur,Ak,ck,rfl,rfl,rfl,hm,hck,hyl,htr,hsp,hya⟩;refine Zc ?_ ?_
 ·refine Z4u ?_;intro hc;refine ZY (k:=Z4v ?_);refine E.AW.first 1 rfl K0 K0 K0 rfl rfl rfl (PV.aY (fun w hw=>htr w _ (hw.rd hX)) Ux Jx rfl rfl rfl (E.tn K1) (by first|(simp;done)|(simp;omega)|(rw[E.Fx.ct Yb.fx];done)|(rw[E.Fx.ct Yb.fx];omega)|(rw[E.Fx.iW Yb.fx];done)|(rw[E.Fx.iW Yb.fx];omega)) K1) ?_
  refine E.AW.first 2 rfl K0 K0 K0 rfl rfl rfl (PV.yY (fun w hw=>htr w _ (hw.rd hX)) Nx rfl rfl K1) ?_;iterate 3 refine Z4v ?_
  refine E.AW.first 6 rfl K0 K0 K0 rfl rfl rfl (PV.aY (fun w hw=>htr w _ (hw.rd hX)) Ux Jx rfl rfl rfl (E.tn K1) (by first|(simp;done)|(simp;omega)|(rw[E.Fx.ct Yb.fx];done)|(rw[E.Fx.ct Yb.fx];omega)|(rw[E.Fx.iW Yb.fx];done)|(rw[E.Fx.iW Yb.fx];omega)) K1) ?_
  refine E.AW.first 7 rfl K0 K0 K0 rfl rfl rfl (PV.yY (fun w hw=>htr w _ (hw.rd hX)) Nx rfl rfl K1) ?_;refine E.AW.first 8 rfl K0 K0 K0 rfl rfl rfl (PV.TJ Ux Ux rfl rfl (by first|exact wrap_u8 _|(simp only[IntKind.wrap_i64,IntKind.wrap_u64,IntKind.wrap_u8];omega))) ?_
  refine E.AW.first 9 rfl K0 K0 K0 rfl rfl rfl (PV.tI rfl rfl rfl) ?_;refine E.AW.put 21 (J (tK cur)) rfl rfl ?_;refine E.AW.first 10 rfl K0 K0 K0 rfl rfl rfl (PV.assign rfl rfl) ?_;refine Z4E ?_;skip;refine Z4B ?_;refine CW.cut [0,2] 0 rfl rfl (fun mods Hm=>∃n:Nat,mods=[(5,J (n:Int))]/\Hm=[]/\(n:Int)=Wi.ct cur/\2<=n/\n<=64) ?_ ?_
  ·refine Zs ?_ ?_
   all_goals
    refine Zd ?_ ?_
    ·try exact⟨⟩
     all_goals
      refine Z4t ?_;intros;first|(refine⟨[(5,_)],[0,0],[],?_,rfl,2,rfl,rfl,(aa K1).symm,K1,K1⟩;exact Kc)|(refine⟨[(5,_)],[0,0],[],?_,rfl,(tK cur).toNat,(by rw[af K1]),rfl,(by rw[af K1];exact(ae K1).symm),K1,K1⟩;exact Kc)
    try exact⟨⟩
    all_goals
     refine Z4t ?_;intros;first|(refine⟨[(5,_)],[0,0],[],?_,rfl,2,rfl,rfl,(aa K1).symm,K1,K1⟩;exact Kc)|(refine⟨[(5,_)],[0,0],[],?_,rfl,(tK cur).toNat,(by rw[af K1]),rfl,(by rw[af K1];exact(ae K1).symm),K1,K1⟩;exact Kc)
  rintro _ _ ⟨n,rfl,rfl,hn,hn2,hn64⟩;refine Zc ?_ ?_
  ·refine Z4t ?_;intros;refine Z3H (k:=fun AR cR=>Zr (k:=Z3G (k:=?_)));have he:cur.length<2\/(cur.length:Int)<Wi.ct cur:=K1;have e8:=Rh he mf;rw[e8] at hsp;have e9:(Wi.split b)=(ys.map Yb.l,cur,0):=(ae K1).trans (by rw[hsp];simp)
   exact⟨ys,Ay,cy,AR,cR,by rw[e9],by rw[e9],by rw[e9],hya,K1,by rw[e9];show cur.length<=4160;omega⟩
  refine Z4t ?_;intros;refine OW.pure rfl rfl rfl (PV.adW (hi:=n) Ux Jx rfl rfl rfl K1) ?_;refine OW.put 35 (.slice (fu Ak ck 0) (cur.take n).length ck) rfl (by rw[cf,nv K1]) ?_
  refine OW.call Mx rfl rfl rfl rfl rfl rfl _ (fun w hw=>fF _ _ (cur.take n) w (by rw[cf];omega) (by have:=qD (k:=0) (m:=n) (htr w _ (hw.rd hX)) K1 hck;rwa[List.drop_zero] at this)) ?_;rintro _ _ ⟨AK,cK,rfl,rfl⟩
  refine OW.bsl 1 (fl Yb.cs [(⟨AK,cK,cur.take n⟩:Yb)]) rfl rfl (fun w=>Ee w) (fun A1=>?_);refine OW.dJ (j:=0) (i:=1) Yb.fx Ux Jx rfl rfl rfl rfl rfl rfl rfl rfl rfl rfl K3 K3 (fun A2 c2=>?_);refine Z4u ?_;refine CW.cap 1 rfl (fun hcK=>?_);refine CW.gT [1,1,0] 2 rfl rfl (JS (ys++[⟨AK,cK,cur.take n⟩])) (KD ys ⟨AK,cK,cur.take n⟩) ?_;refine Z4t ?_;refine OW.pure rfl rfl rfl (PV.D4 (lo:=n) Ux Jx rfl rfl rfl K1) ?_;refine OW.put 41 (.slice (fu Ak ck n) (cur.drop n).length (ck-n)) rfl (by rw[bN]) ?_
  refine Z4t ?_
  refine⟨_,[(2,_),(0,_)],[1,0],[_,_],?_,Kc,rfl,mf-1,ys++[⟨AK,cK,cur.take n⟩],A2,c2,cur.drop n,fu Ak ck n,ck-n,rfl,rfl,rfl,by rw[bN];omega,by rw[bN];omega,by rw[bN];simp;omega,(fun w G h=>by
  have h9:=qD (k:=n) (m:=cur.length-n) (htr w G h) K1 hck
  rwa[bU K25] at h9),(by rw[hsp,show mf=(mf-1)+1 by omega,UD (k:=mf-1) (n:=n) K1 K1 hn,kY];simp),(fun y hy=>(aN.1 hy).elim (hya y) (fun h=>by rw[bw.1 h];exact⟨hcK,by show(cur.take n).length<=64;rw[cf];omega⟩))⟩
  omega
 refine Z4t ?_;intros;refine Z3H (k:=fun AR cR=>Zr (k:=Z3G (k:=?_)));have he:cur.length<2\/(cur.length:Int)<Wi.ct cur:=K1;have e8:=Rh he mf;rw[e8] at hsp;have e9:(Wi.split b)=(ys.map Yb.l,cur,0):=(ae K1).trans (by rw[hsp];simp)
 exact⟨ys,Ay,cy,AR,cR,by rw[e9],by rw[e9],by rw[e9],hya,K1,by rw[e9];show cur.length<=4160;omega⟩
instance:CB 146 #[] ((.agg #[])):=⟨fun _=>K0⟩
def iZ(B:Nat)(A:am)(d:Nat)(b:ap)(p m:Nat)(S:Nat->Prop)(w0:World)(hS:(HP.aw B 142 [.slice A b.length d,J (p:Int)]).bA S w0)(hb:∀k,S k->k<w0.heap.size)(hc8:b.length<=d)(hl:b.length<=100000)(hp:p<=b.length)(hX:Rd w0 (Fm w0 S) A (aA b))(hm:1<=m/\m<=8):
  Calls prog 33 #[Y B 0,J (m:Int)] w0 (db w0 (Fm w0 S) (fun v Hn=>p+m<=b.length/\v=V (aO ((b.drop p).take m))/\Hn=[HP.aw B 142 [.slice A b.length d,J ((p+m:Nat):Int)]]) fun c Hp=>(∃e:Unit,b.length<p+m/\c=E.early)/\Hp=[]):=by
 refine ZX (HA.au hS hb) ?_;refine Zx (k:=Zy (k:=Z4R ?_));iterate 9 refine Z4v ?_
 refine Z1d (k:=?_);refine Zg @G9 ?_;refine Zc ?_ ?_
 ·refine Z4t ?_;intros;refine OW.panic rfl rfl rfl ?_;refine Kp (k:=?_);refine⟨[],_,rfl,?_,rfl⟩;exact⟨(),K1,rfl⟩
 refine Z4u ?_;intro _ _ _ hT _;obtain⟨hT1,rfl,rfl,_⟩:=hT.resolve_right K1;refine Zl ?_;exact⟨hT1,rfl,rfl⟩
def By(B:Nat)(A:am)(d:Nat)(b:ap)(p m:Nat)(S:Nat->Prop)(w0:World)(hS:(HP.aw B 142 [.slice A b.length d,J (p:Int)]).bA S w0)(hb:∀k,S k->k<w0.heap.size)(hc8:b.length<=d)(hl:b.length<=100000)(hp:p<=b.length)(hX:Rd w0 (Fm w0 S) A (aA b))(hm:m<=100000):
  Calls prog 163 #[Y B 0,J (m:Int)] w0 (db w0 (Fm w0 S) (fun v Hn=>p+m<=b.length/\∃A2 c2,v=.slice A2 ((b.drop p).take m).length c2/\Hn=[HP.aw B 142 [.slice A b.length d,J ((p+m:Nat):Int)],HP.row 5 1 A2 (((b.drop p).take m)).length c2 (aA (((b.drop p).take m)))]) fun c Hp=>(∃e:Unit,b.length<p+m/\c=E.early)/\Hp=[]):=by
 refine ZX (HA.au hS hb) ?_;refine Zx (k:=Zy (k:=Z4R ?_));iterate 9 refine Z4v ?_
 refine Z1d (k:=?_);refine Zg @Nf ?_;refine Zc ?_ ?_
 ·refine Z4t ?_;intros;refine OW.panic rfl rfl rfl ?_;refine Kp (k:=?_);refine⟨[],_,rfl,?_,rfl⟩;exact⟨(),K1,rfl⟩
 refine Z4u ?_;intro _ _ _ _ _ hTB _;obtain⟨hT1,rfl,rfl,_⟩:=hTB.resolve_right K1;refine Zr (k:=Z1e (k:=?_));exact⟨hT1,_,_,rfl,rfl⟩
def adk(p d:Int)(B:Nat)(bs:ap)(S:Nat->Prop)(w0:World)(hS:(HP.ww B (bs)).bA S w0)(hb:∀k,S k->k<w0.heap.size)(hz:bs.length<=90000):
  CF 349 #[.agg #[U p,U d],Y B 0] w0 S fun v Hn=>Hn=[HP.ww B (bs++Dg.bs (IntKind.u64.wrap p) 1 1++Dg.bs (IntKind.u64.wrap d) 1 1)]:=by
 refine Zp (HA.au hS hb) ?_;refine Z4t ?_;intros;refine OW.aU Mx rfl rfl rfl rfl rfl rfl _ 1 rfl (fun w S hw hs hb hc=>dg B (bs) (IntKind.u64.wrap p) 1 S w hs (fun k hk=>(hb k hk).1) K34 K1) ?_;rintro _ _ rfl;refine Z4t ?_;refine OW.aU Mx rfl rfl rfl rfl rfl rfl _ 0 rfl (fun w S hw hs hb hc=>dg B (bs++Dg.bs (IntKind.u64.wrap p) 1 1) (IntKind.u64.wrap d) 1 S w hs (fun k hk=>(hb k hk).1) K34 K1) ?_;rintro _ _ rfl;refine Zl ?_;rfl
def ab0(n:Int)(B:Nat)(bs:ap)(S:Nat->Prop)(w0:World)(hS:(HP.ww B (bs)).bA S w0)(hb:∀k,S k->k<w0.heap.size)(hz:bs.length<=90000):
  CF 352 #[O n,Y B 0] w0 S fun v Hn=>Hn=[HP.ww B (bs++Dg.bs (IntKind.u64.wrap n) 2 2)]:=by
 refine Zp (HA.au hS hb) ?_;refine Z4t ?_;refine OW.aU Mx rfl rfl rfl rfl rfl rfl _ 0 rfl (fun w S hw hs hb hc=>dg B (bs) (IntKind.u64.wrap n) 2 S w hs (fun k hk=>(hb k hk).1) K34 K1) ?_;rintro _ _ rfl;refine Zl ?_;rfl
def L5(n:Int)(B:Nat)(bs:ap)(S:Nat->Prop)(w0:World)(hS:(HP.ww B (bs)).bA S w0)(hb:∀k,S k->k<w0.heap.size)(hz:bs.length<=90000):
  CF 329 #[J n,Y B 0] w0 S fun v Hn=>Hn=[HP.ww B (bs++Dg.bs (IntKind.u64.wrap n) 2 2)]:=by
 refine Zp (HA.au hS hb) ?_;refine Z4t ?_;refine OW.aU Mx rfl rfl rfl rfl rfl rfl _ 0 rfl (fun w S hw hs hb hc=>dg B (bs) (IntKind.u64.wrap n) 2 S w hs (fun k hk=>(hb k hk).1) K34 K1) ?_;rintro _ _ rfl;refine Zl ?_;rfl
def MR(q d:Int)(B:Nat)(bs:ap)(S:Nat->Prop)(w0:World)(hS:(HP.ww B (bs)).bA S w0)(hb:∀k,S k->k<w0.heap.size)(hz:bs.length<=90000):
  CF 332 #[.agg #[U q,V d],Y B 0] w0 S fun v Hn=>Hn=[HP.ww B (bs++Dg.bs (IntKind.u64.wrap q) 1 1++Dg.bs d 8 8)]:=by
 refine Zp (HA.au hS hb) ?_;refine Z4t ?_;intros;refine OW.aU Mx rfl rfl rfl rfl rfl rfl _ 1 rfl (fun w S hw hs hb hc=>dg B (bs) (IntKind.u64.wrap q) 1 S w hs (fun k hk=>(hb k hk).1) K34 K1) ?_;rintro _ _ rfl;refine Z4t ?_;refine OW.aU Mx rfl rfl rfl rfl rfl rfl _ 0 rfl (fun w S hw hs hb hc=>dg B (bs++Dg.bs (IntKind.u64.wrap q) 1 1) d 8 S w hs (fun k hk=>(hb k hk).1) K34 K1) ?_;rintro _ _ rfl;refine Zl ?_;rfl
instance(a b:Int):CB 362 #[(0,U a),(1,U b)] ((.agg #[U a,U b])):=⟨fun _=>K0⟩
def T4(B:Nat)(A:am)(d:Nat)(b:ap)(p:Nat)(S:Nat->Prop)(w0:World)(hS:(HP.aw B 142 [.slice A b.length d,J (p:Int)]).bA S w0)(hb:∀k,S k->k<w0.heap.size)(hc8:b.length<=d)(hl:b.length<=100000)(hp:p<=b.length)(hX:Rd w0 (Fm w0 S) A (aA b)):
  Calls prog 347 #[.agg #[U 0,U 0],Y B 0] w0 (db w0 (Fm w0 S) (fun v Hn=>p+1+1<=b.length/\v=.iface 362 (.agg #[U (IntKind.u8.wrap (aO ((b.drop (p)).take 1))),U (IntKind.u8.wrap (aO ((b.drop (p+1)).take 1)))])/\Hn=[HP.aw B 142 [.slice A b.length d,J ((p+1+1:Nat):Int)]]) fun c Hp=>(∃e:Unit,b.length<p+1+1/\c=E.early)/\Hp=[]):=by
 refine ZX (HA.au hS hb) ?_;refine Z4t ?_;intros;refine OW.eR (aE:= #[]) Mx rfl rfl rfl rfl rfl rfl _ _ 1 rfl (fun w S hw hs hb hc=>iZ B A d b (p) 1 S w hs (fun k hk=>(hb k hk).1) hc8 hl K1 (hw.fD hX hb) K1) (by rintro _ _ ⟨⟨ex,hx,rfl⟩,rfl⟩;refine Kp (k:=?_);refine⟨[],_,rfl,?_,rfl⟩;exact⟨(),K1,rfl⟩) ?_;rintro _ _ ⟨hr0,rfl,rfl⟩
 refine Z4t ?_;refine OW.eR (aE:= #[]) Mx rfl rfl rfl rfl rfl rfl _ _ 0 rfl (fun w S hw hs hb hc=>iZ B A d b (p+1) 1 S w hs (fun k hk=>(hb k hk).1) hc8 hl K1 (hw.fD hX hb) K1) (by rintro _ _ ⟨⟨ex,hx,rfl⟩,rfl⟩;refine Kp (k:=?_);refine⟨[],_,rfl,?_,rfl⟩;exact⟨(),K1,rfl⟩) ?_;rintro _ _ ⟨hr1,rfl,rfl⟩
 refine Zl ?_;exact⟨K1,rfl,rfl⟩
def MV(B:Nat)(A:am)(d:Nat)(b:ap)(p:Nat)(S:Nat->Prop)(w0:World)(hS:(HP.aw B 142 [.slice A b.length d,J (p:Int)]).bA S w0)(hb:∀k,S k->k<w0.heap.size)(hc8:b.length<=d)(hl:b.length<=100000)(hp:p<=b.length)(hX:Rd w0 (Fm w0 S) A (aA b)):
  Calls prog 350 #[O 0,Y B 0] w0 (db w0 (Fm w0 S) (fun v Hn=>p+2<=b.length/\v=.iface 363 (O (IntKind.u32.wrap (aO ((b.drop (p)).take 2))))/\Hn=[HP.aw B 142 [.slice A b.length d,J ((p+2:Nat):Int)]]) fun c Hp=>(∃e:Unit,b.length<p+2/\c=E.early)/\Hp=[]):=by
 refine ZX (HA.au hS hb) ?_;refine Z4t ?_;refine OW.eR (aE:= #[]) Mx rfl rfl rfl rfl rfl rfl _ _ 0 rfl (fun w S hw hs hb hc=>iZ B A d b (p) 2 S w hs (fun k hk=>(hb k hk).1) hc8 hl K1 (hw.fD hX hb) K1) (by rintro _ _ ⟨⟨ex,hx,rfl⟩,rfl⟩;refine Kp (k:=?_);refine⟨[],_,rfl,?_,rfl⟩;exact⟨(),K1,rfl⟩) ?_;rintro _ _ ⟨hr0,rfl,rfl⟩
 refine Zl ?_;exact⟨K1,rfl,rfl⟩
def SU(B:Nat)(A:am)(d:Nat)(b:ap)(p:Nat)(S:Nat->Prop)(w0:World)(hS:(HP.aw B 142 [.slice A b.length d,J (p:Int)]).bA S w0)(hb:∀k,S k->k<w0.heap.size)(hc8:b.length<=d)(hl:b.length<=100000)(hp:p<=b.length)(hX:Rd w0 (Fm w0 S) A (aA b)):
  Calls prog 353 #[O 0,Y B 0] w0 (db w0 (Fm w0 S) (fun v Hn=>p+4<=b.length/\v=.iface 364 (O (IntKind.u32.wrap (aO ((b.drop (p)).take 4))))/\Hn=[HP.aw B 142 [.slice A b.length d,J ((p+4:Nat):Int)]]) fun c Hp=>(∃e:Unit,b.length<p+4/\c=E.early)/\Hp=[]):=by
 refine ZX (HA.au hS hb) ?_;refine Z4t ?_;refine OW.eR (aE:= #[]) Mx rfl rfl rfl rfl rfl rfl _ _ 0 rfl (fun w S hw hs hb hc=>iZ B A d b (p) 4 S w hs (fun k hk=>(hb k hk).1) hc8 hl K1 (hw.fD hX hb) K1) (by rintro _ _ ⟨⟨ex,hx,rfl⟩,rfl⟩;refine Kp (k:=?_);refine⟨[],_,rfl,?_,rfl⟩;exact⟨(),K1,rfl⟩) ?_;rintro _ _ ⟨hr0,rfl,rfl⟩
 refine Zl ?_;exact⟨K1,rfl,rfl⟩
instance(a b:Int):CB 149 #[(0,U a),(1,V b)] ((.agg #[U a,V b])):=⟨fun _=>K0⟩
instance:CB 155 #[] ((.agg #[])):=⟨fun _=>K0⟩
def Pu(p d:Int)(w0:World):
  CV 348 #[.agg #[U p,U d]] w0 (.bool true):=by
 refine Zq ?_;refine Zk ?_;intros;exact⟨rfl,rfl⟩
def JP(n:Int)(w0:World):
  CV 351 #[O n] w0 (.bool (decide (n<=65535))):=by
 refine Zq ?_;refine Zk ?_;exact⟨rfl,rfl⟩
def Ra(n:Int)(w0:World):
  CV 354 #[O n] w0 (.bool true):=by
 refine Zq ?_;refine Zk ?_;exact⟨rfl,rfl⟩
def Jl(n:Int)(w0:World):
  CV 328 #[J n] w0 (.bool (rH n 65535)):=by
 refine Zq ?_;refine Zg @qB ?_;refine Zk ?_;exact⟨rfl,rfl⟩
def sx(w0:World):
  CV 345 #[.agg #[]] w0 (.bool true):=by
 refine Zq ?_;refine Zk ?_;intros;exact⟨rfl,rfl⟩
def IB(q d:Int)(w0:World):
  CV 331 #[.agg #[U q,V d]] w0 (.bool (decide (1<=q)&&(decide (q<=5)&&decide (d<=4611686018427387904)))):=by
 refine Zq ?_;refine Zs ?_ ?_;all_goals first|(refine Zt ?_ ?_<;>try exact⟨⟩)|((iterate 5 (refine Z4x ?_;intros)))|skip
 all_goals
  refine Zk ?_;intros;exact⟨aq Value.bool (by rw[de];first|(simp;done)|(simp;omega)),rfl⟩
def EB(B:Nat)(w0:World):
  CO 346 #[.agg #[],Y B 0] w0 fun v Hn=>Hn=[]:=by
 refine Zq ?_;refine Zk ?_;intros;rfl
def E6(B:Nat)(w0:World):
  CV 344 #[.agg #[],Y B 0] w0 (.iface 155 (.agg #[])):=by
 refine Zq ?_;refine Zk ?_;intros;exact⟨rfl,rfl⟩
def FN(t:Gw.Tk)(w0:World):
  CV 342 #[t.v] w0 (.bool true):=by
 refine Zq ?_;refine Zk ?_;intros;exact⟨rfl,rfl⟩
def KB(t:Gw.Tk)(B:Nat)(bs:ap)(S:Nat->Prop)(w0:World)(hf:fit t)(hS:(HP.ww B (bs)).bA S w0)(hb:∀k,S k->k<w0.heap.size)(hz:bs.length<=90000):
  CF 343 #[t.v,Y B 0] w0 S fun v Hn=>Hn=[HP.ww B (bs++Au.enc t)]:=by
 have htl:=hf.tag;have hel:=Au.jP hf;refine Zp (HA.au hS hb) ?_;refine Zx (k:=Z4y ?_);intros;refine CW.Vn 1 rfl (fun AW cW=>?_);refine CW.gx (T:=[10]) mixed [0,1] rfl ?_;iterate 5 refine Z4v ?_
 refine E.AW.ru [[]] 5 rfl K0 K0 K0 rfl rfl rfl (PV.qQ (i:=1) Ix rfl rfl rfl K9) ?_;refine Z4N ?_;refine Zg @HD ?_;refine Z4w ?_;intros;refine Z4O ?_;refine OW.iP (i:=2) Ux Jx rfl rfl rfl rfl rfl rfl rfl rfl rfl (iH (i:=0) rfl) K3 (fun A2 c2=>?_);refine Z4w ?_;iterate 2 refine Z4v ?_
 refine Z1M (k:=Zo (k:=Z4w ?_));refine E.AW.conv (GB 0 0 rfl rfl) ?_;refine Zl ?_;rfl
def ID(B:Nat)(A:am)(d:Nat)(b:ap)(p:Nat)(S:Nat->Prop)(w0:World)(hS:(HP.aw B 142 [.slice A b.length d,J (p:Int)]).bA S w0)(hb:∀k,S k->k<w0.heap.size)(hc8:b.length<=d)(hl:b.length<=100000)(hp:p<=b.length)(hX:Rd w0 (Fm w0 S) A (aA b)):
  Calls prog 341 #[Gw.Tk.z.v,Y B 0] w0 (db w0 (Fm w0 S) (fun v Hn=>p+46<=b.length/\v=.iface 154 (Au.dec ((b.drop p).take 46)).v/\Hn=[HP.aw B 142 [.slice A b.length d,J ((p+46:Nat):Int)]]) fun c Hp=>(∃e:Unit,b.length<p+46/\c=E.early)/\Hp=[]):=by
 refine ZX (HA.au hS hb) ?_;refine Z4t ?_;intros;refine OW.eR (aE:= #[]) Mx rfl rfl rfl rfl rfl rfl _ _ 1 rfl (fun w S hw hs hb hc=>By B A d b p 46 S w hs (fun k hk=>(hb k hk).1) hc8 hl hp (hw.fD hX hb) K1) (by rintro _ _ ⟨⟨ex,hx,rfl⟩,rfl⟩;refine Kp (k:=?_);refine⟨[],_,rfl,?_,rfl⟩;exact⟨(),K1,rfl⟩) ?_;rintro _ _ ⟨hr0,AR,cR,rfl,rfl⟩
 refine Zg @GF ?_;have htl:=(qv (b:=((b.drop p).take 46)) (by rw[cf,bN];omega)).tag
 iterate 4 refine Z4x ?_
 intros;refine Z1Q (k:=Zr (k:=Z1R (k:=Z4t ?_)));refine KR.one [1] rfl rfl rfl ?_;exact⟨K1,rfl,rfl⟩
def QD(A:am)(e:Nat)(rs:List Sg)(q:Int)(B:Nat)(bs:ap)(S:Nat->Prop)(w0:World)(hrl:rs.length<=1000)(hX:Rd w0 (Fm w0 S) A (fl Sg.cs rs))(hS:(HP.ww B (bs)).bA S w0)(hb:∀k,S k->k<w0.heap.size)(hz:bs.length<=80000):
  CF 335 #[.agg #[.slice A rs.length e,J q],Y B 0] w0 S fun v Hn=>Hn=[HP.ww B (bs++tP rs q)]:=by
 refine Zp (HA.au hS hb) ?_;refine Zh @dg ?_;refine Z4t ?_;intros;refine CW.av [1,2,13,14] 1 rfl rfl (fun mm mods Hm=>∃k:Nat,mm=rs.length-k/\mods=[(15,J k)]/\Hm=[HP.ww B (bs++Dg.bs (rs.length:Int) 1 1++vV rs k)]/\k<=rs.length) (rs.length) ?_ ?_
 ·exact⟨[(15,_)],Kc,0,rfl,rfl,(by simp[vV]),K1⟩
 rintro _ _ _ ⟨k,rfl,rfl,rfl,hk⟩;have hwl:=C4 rs k hk;refine Zc ?_ ?_
 ·refine Zh @dg ?_;refine Zh @dg ?_;refine Zh @dg ?_;refine Z4t ?_;intros;refine⟨_,[(15,_)],[0,1],[_],?_,Kc,rfl,k+1,rfl,rfl,(by rw[wR K1];simp only[yL,aQ]),K1⟩
  omega
 refine Z4u ?_;intro hc;obtain rfl:k=rs.length:=K1;refine Zh @dg ?_;refine Zl ?_;intros;simp only[tP,aQ]
def Tq(s:Sg)(w0:World):
  CV 336 #[.agg #[J s.pl,U s.st,J s.od]] w0 (.bool (Xe s)):=by
 refine Zq ?_;refine Zg @qB ?_;refine Zs ?_ ?_;all_goals first|(refine Zt ?_ ?_<;>try exact⟨⟩)|((iterate 5 (refine Z4x ?_;intros)))|skip
 all_goals first|(iterate 2 refine Z4x ?_;intros)|intros
 all_goals first|(refine OW.off rfl rfl rfl ?_)|(refine OW.call Mx rfl rfl rfl rfl rfl rfl _ (fun w hw=>qB s.od 64 w) ?_;rintro _ _ ⟨rfl,rfl⟩)|skip
 all_goals
  refine Zk ?_;intros;exact⟨aq Value.bool (by unfold Xe;first|(simp_all;done)|(simp_all;omega)),rfl⟩
def Lk(kind code:Int)(w0:World):
  CV 60 #[U kind,J code] w0 (.bool (xH kind code)):=by
 refine Zq ?_;refine Zc ?_ ?_
 ·refine Zk ?_;intros;exact⟨aq Value.bool K50,rfl⟩
 refine Zc ?_ ?_
 ·refine Zk ?_;intros;exact⟨aq Value.bool K50,rfl⟩
 refine Zc ?_ ?_
 ·refine Zk ?_;intros;exact⟨aq Value.bool K50,rfl⟩
 refine Zs ?_ ?_
 all_goals
  refine Zk ?_;intros;exact⟨aq Value.bool K50,rfl⟩
def UW(r:Rc)(w0:World)(hl:r.lk.length=32):
  CV 252 #[r.v] w0 (.bool (!qF r)):=by
 refine Zq ?_;refine Z4t ?_;intros;refine OW.pure rfl rfl rfl (PV.qQ (i:=0) Ix rfl rfl rfl (by first|rfl|(simp;done)|(simp;omega)|(simp only[gr,dC];assumption)|omega|exact Rc.len _ hl)) ?_
 refine Zg @HZ ?_;refine Zk ?_;exact⟨rfl,rfl⟩
def Wo(A:am)(c:Nat)(l:List Sg)(w0:World)(hl:l.length<=100000)(hX:ce w0 A (fl Sg.cs l)):
  CV 338 #[.slice A l.length c,.func (.func 336) #[] #[]] w0 (J (Wi.idx Xe l)):=by
 refine Zq ?_;refine Z4t ?_;refine CW.av [0,1,7] 0 rfl rfl (fun mm mods Hm=>∃k:Nat,mm=l.length-k/\mods=[(8,J k)]/\Hm=[]/\(k<=l.length/\∀j,j<k->Xe (l.getD j Sg.z)=false)) (l.length) ?_ ?_
 ·exact⟨[(8,_)],Kc,0,rfl,rfl,rfl,K1,fun j hj=>by omega⟩
 rintro _ _ _ ⟨k,rfl,rfl,rfl,hk,hI⟩;refine Zc ?_ ?_
 ·refine Z4t ?_;intro hc;refine OW.o6 Mx rfl rfl rfl rfl rfl rfl _ (fun w hw=>Tq (l.getD k Sg.z) w) ?_;rintro _ _ ⟨rfl,rfl⟩;refine Zc ?_ ?_
  ·refine Zk ?_;intros;exact⟨by rw[Wi.iJ (z:=Sg.z) (k:=k) K1 hI K2],rfl⟩
  refine Z4t ?_;intros
  refine⟨_,[(8,_)],[],_,?_,Kc,rfl,k+1,rfl,rfl,rfl,K1,(fun j hj=>by
  rcases eG.1 hj with h|rfl
  ·exact hI j h
  ·assumption)⟩
  omega
 refine Zk ?_;intros;exact⟨by rw[Wi.iK (z:=Sg.z) (fun j hj=>hI j K1)],rfl⟩
def XG(A:am)(c:Nat)(l:List Sg)(w0:World)(hl:l.length<=100000)(hX:ce w0 A (fl Sg.cs l)):
  CV 337 #[.slice A l.length c,.func (.func 336) #[] #[]] w0 (.bool (decide (0<=Wi.idx Xe l))):=by
 refine Zq ?_;refine Zg @Wo ?_;refine Zk ?_;exact⟨rfl,rfl⟩
def Kq(A:am)(c:Nat)(l:List Sg)(q:Int)(w0:World)(hX:ce w0 A (fl Sg.cs l)):
  CV 334 #[.agg #[.slice A l.length c,J q]] w0 (.bool (F1 l q)):=by
 refine Zq ?_;refine Zs ?_ ?_;all_goals first|(iterate 3 refine Z4x ?_;intros)|intros
 all_goals first|(refine OW.off rfl rfl rfl ?_)|(refine OW.call Mx rfl rfl rfl rfl rfl rfl _ (fun w hw=>XG A c l w K1 (hw.rd hX)) ?_;rintro _ _ ⟨rfl,rfl⟩)|skip
 all_goals first|(refine Zt ?_ ?_<;>try exact⟨⟩)|((iterate 3 (refine Z4x ?_;intros)))|skip
 all_goals first|(iterate 2 refine Z4x ?_;intros)|intros
 all_goals first|(refine OW.off rfl rfl rfl ?_)|(refine OW.call Mx rfl rfl rfl rfl rfl rfl _ (fun w hw=>qB q 8 w) ?_;rintro _ _ ⟨rfl,rfl⟩)|skip
 all_goals
  refine Zk ?_;intros;exact⟨aq Value.bool (by unfold F1;by_cases h1:l.length<=3<;>by_cases h2:0<=Wi.idx Xe l<;>simp only[h1,h2,decide_true,decide_false,je,rm,j9,yN]<;>first|rfl|omega),rfl⟩
def M6(w:World):(Instr.buildSlice 53 0 #[]).run prog w=.ok (.slice (some ⟨w.heap.size,0,none⟩) 0 0) (w.alloc (.cells #[] 138)):=K0
def N8(r:Rc)(w0:World)(hl:r.lk.length=32):CV 252 #[.agg r.cw.toArray] w0 (.bool (!qF r)):=by
 rw[<-Rc.pf hl];exact UW r w0 hl
def WB(A:am)(c:Nat)(l:List Rc)(w0:World)(hl:l.length<=100000)(hr:∀r∈l,r.fit)(hX:ce w0 A (fl Rc.cw l)):
  CV 283 #[.slice A l.length c,.func (.func 252) #[] #[]] w0 (J (Wi.idx (fun r=> !qF r) l)):=by
 refine Zq ?_;refine Z4t ?_;refine CW.av [0,1,7] 0 rfl rfl (fun mm mods Hm=>∃k:Nat,mm=l.length-k/\mods=[(8,J k)]/\Hm=[]/\(k<=l.length/\∀j,j<k->(fun r=> !qF r) (l.getD j Rc.z)=false)) (l.length) ?_ ?_
 ·exact⟨[(8,_)],Kc,0,rfl,rfl,rfl,K1,fun j hj=>by omega⟩
 rintro _ _ _ ⟨k,rfl,rfl,rfl,hk,hI⟩;refine Zc ?_ ?_
 ·refine Z4t ?_;intro hc;refine OW.o6 Mx rfl rfl rfl rfl rfl rfl _ (fun w hw=>N8 (l.getD k Rc.z) w (hr _ (mQ K1)).lk) ?_;rintro _ _ ⟨rfl,rfl⟩;refine Zc ?_ ?_
  ·refine Zk ?_;intros;exact⟨by rw[Wi.iJ (z:=Rc.z) (k:=k) K1 hI K8],rfl⟩
  refine Z4t ?_;intros
  refine⟨_,[(8,_)],[],_,?_,Kc,rfl,k+1,rfl,rfl,rfl,K1,(fun j hj=>by
  rcases eG.1 hj with h|rfl
  ·exact hI j h
  ·simp_all)⟩
  omega
 refine Zk ?_;intros;exact⟨by rw[Wi.iK (z:=Rc.z) (fun j hj=>hI j K1)],rfl⟩
def W2(A:am)(c:Nat)(l:List Rc)(w0:World)(hl:l.length<=100000)(hr:∀r∈l,r.fit)(hX:ce w0 A (fl Rc.cw l)):
  CV 251 #[.slice A l.length c,.func (.func 252) #[] #[]] w0 (.bool (decide (0<=Wi.idx (fun r=> !qF r) l))):=by
 refine Zq ?_;refine Zg @WB ?_;refine Zk ?_;exact⟨rfl,rfl⟩
def xD(n:Int)(A:am)(c:Nat)(l:List Rc)(w0:World)(hr:∀r∈l,r.fit)(hX:ce w0 A (fl Rc.cw l)):
  CV 217 #[.agg #[O n,.slice A l.length c]] w0 (.bool (qC l)):=by
 refine Zq ?_;refine Zs ?_ ?_;all_goals first|(iterate 2 refine Z4x ?_;intros)|intros
 all_goals first|(refine OW.off rfl rfl rfl ?_)|(refine OW.call Mx rfl rfl rfl rfl rfl rfl _ (fun w hw=>W2 A c l w K1 hr (hw.rd hX)) ?_;rintro _ _ ⟨rfl,rfl⟩)|skip
 all_goals
  refine Zk ?_;intros;exact⟨aq Value.bool (by unfold qC;by_cases h1:l.length<=32<;>by_cases h2:0<=Wi.idx (fun r=> !qF r) l<;>simp only[h1,h2,decide_true,decide_false,je,rm,j9,yN]<;>first|rfl|omega),rfl⟩
def Hx(A:am)(c:Nat)(l:List Rc)(w0:World)(hl:l.length*56<=140737488355328)(hX:ce w0 A (fl Rc.cw l)):
  CO 52 #[.slice A l.length c] w0 fun v Hn=>∃A2 c2,v=.slice A2 l.length c2/\Hn=[HP.row 138 35 A2 l.length c2 (fl Rc.cw l)]:=by
 refine Zq ?_;refine Zc ?_ ?_
 ·refine Z4u ?_;intro hc;refine Z3I (k:=?_);refine Zl ?_
  have hl0:l=[]:=by
    cases hA:A with
    |none=>
      cases l with
      |nil=>rfl
      |cons x r=>obtain⟨ad,e,_⟩:=hX (by rw[Rc.fx.ct];exact jG (by simp) Rc.fx.pos);rw[hA] at e;cases e
    |some ad=>rw[hA] at hc;cases hc
  subst hl0;exact⟨none,0,rfl,rfl⟩
 refine Z4t ?_;intros;refine OW.bsl 35 (fl Rc.cw []) rfl rfl (fun w=>M6 w) (fun A1=>?_);refine Z4t ?_;refine OW.qA (xs:=[]) (i:=0) Rc.fx Ux Jx rfl rfl rfl rfl rfl rfl rfl rfl rfl (oh hX) K3 K3 (fun A2 c2=>?_);refine Zl ?_;exact⟨_,_,rfl,rfl⟩
def Oa(n:Int)(A:am)(e:Nat)(rs:List Rc)(B:Nat)(bs:ap)(S:Nat->Prop)(w0:World)(hrl:rs.length<=1000)(hfr:∀r∈rs,r.fit)(hX:Rd w0 (Fm w0 S) A (fl Rc.cw rs))(hS:(HP.ww B (bs)).bA S w0)(hb:∀k,S k->k<w0.heap.size)(hz:bs.length<=20000):
  CF 340 #[.agg #[O n,.slice A rs.length e],Y B 0] w0 S fun v Hn=>Hn=[HP.ww B (bs++vY n rs)]:=by
 refine Zp (HA.au hS hb) ?_;refine Zh @dg ?_;refine Zh @dg ?_;refine Z4t ?_;intros;refine CW.av [1,18,19] 1 rfl rfl (fun mm mods Hm=>∃k:Nat,mm=rs.length-k/\mods=[(20,J k)]/\Hm=[HP.ww B (bs++Dg.bs (IntKind.u64.wrap n) 4 4++Dg.bs (rs.length:Int) 1 1++wc rs k)]/\k<=rs.length) (rs.length) ?_ ?_
 ·exact⟨[(20,_)],Kc,0,rfl,rfl,(by simp[wc]),K1⟩
 rintro _ _ _ ⟨k,rfl,rfl,rfl,hk⟩;have hwl:=As rs hfr k hk;refine Zc ?_ ?_
 ·refine Z4u ?_;intro hc;have hkf:=hfr _ (mQ (show k<rs.length by omega))
  have hlk:=hkf.lk;refine Zh @dg ?_;refine Zh @dg ?_;refine Zh @dg ?_;refine Z4u ?_;intro BX _ _ _;refine Z3E (k:=fun AW cW=>?_);refine CW.gx (T:=[10]) mixed [0] rfl ?_;iterate 6 refine Z4v ?_
  refine E.AW.fT 6 rfl K0 K0 K0 rfl rfl rfl (PV.zg Ux Jx rfl rfl) ?_;refine E.AW.put 44 (.slice (some ⟨BX,3,.none⟩) (rs.getD k Rc.z).lk.length 32) rfl (by rw[hlk]) ?_
  refine Z4O ?_;refine OW.iP (i:=1) Ux Jx rfl rfl rfl rfl rfl rfl rfl rfl rfl (fun w hw=>hw.aea (i:=2) (r:=(rs.getD k Rc.z)) hlk rfl) (by first|omega|(simp only[aF,eS] at*;omega)|(simp only[aF,eS,gh];omega)) (fun A3 c3=>?_)
  refine Z4w ?_;iterate 2 refine Z4v ?_
  refine Z1M (k:=Zo (k:=Z4w ?_));refine E.AW.conv (GB 0 0 rfl rfl) ?_;refine Z4t ?_;first|(refine⟨_,[(20,_)],[0,1],[_],?_,Kc,rfl,k+1,rfl,rfl,(by rw[qV K1];simp only[yb,aQ]),K1⟩)|(refine⟨_,[(20,_)],[0,0],[_],?_,Kc,rfl,k+1,rfl,rfl,(by rw[qV K1];simp only[yb,aQ]),K1⟩)
  omega
 refine Zl ?_;intros;obtain rfl:k=rs.length:=K1;simp only[vY,aQ]
instance te{a:am}{b c:Nat}:CB 153 #[(1,.slice a b c)] ((.agg #[O 0,.slice a b c])):=⟨fun _=>K0⟩
def aaK:(54:TypeId)<Tryz.prog.types.size:=bf K0
def MM:(match Tryz.prog.underlying 54 with|some (.array _ _)|some (.struct _)=>true|_=>false)=true:=by rw[underlying54]
def aaP:WideMaps.KeyLaw prog 54:=deep_law_laid laidOut (m:=3) K1 aaK K0 MM
def Vh:z6 prog 54:=z6.mk' (m:=3) aaP K0 K1 K0 MM
def aeg:Tryz.prog.keyType 54=true:=K0
def aby(a0 a1 a2 a3 a4 a5 a6 a7 a8 a9 a10 a11 a12 a13 a14 a15 a16 a17 a18 a19 a20 a21 a22 a23 a24 a25 a26 a27 a28 a29 a30 a31:Int)(h0:(Lit.int .u8 a0).wf=true)(h1:(Lit.int .u8 a1).wf=true)(h2:(Lit.int .u8 a2).wf=true)(h3:(Lit.int .u8 a3).wf=true)(h4:(Lit.int .u8 a4).wf=true)(h5:(Lit.int .u8 a5).wf=true)(h6:(Lit.int .u8 a6).wf=true)(h7:(Lit.int .u8 a7).wf=true)(h8:(Lit.int .u8 a8).wf=true)(h9:(Lit.int .u8 a9).wf=true)(h10:(Lit.int .u8 a10).wf=true)(h11:(Lit.int .u8 a11).wf=true)(h12:(Lit.int .u8 a12).wf=true)(h13:(Lit.int .u8 a13).wf=true)(h14:(Lit.int .u8 a14).wf=true)(h15:(Lit.int .u8 a15).wf=true)(h16:(Lit.int .u8 a16).wf=true)(h17:(Lit.int .u8 a17).wf=true)(h18:(Lit.int .u8 a18).wf=true)(h19:(Lit.int .u8 a19).wf=true)(h20:(Lit.int .u8 a20).wf=true)(h21:(Lit.int .u8 a21).wf=true)(h22:(Lit.int .u8 a22).wf=true)(h23:(Lit.int .u8 a23).wf=true)(h24:(Lit.int .u8 a24).wf=true)(h25:(Lit.int .u8 a25).wf=true)(h26:(Lit.int .u8 a26).wf=true)(h27:(Lit.int .u8 a27).wf=true)(h28:(Lit.int .u8 a28).wf=true)(h29:(Lit.int .u8 a29).wf=true)(h30:(Lit.int .u8 a30).wf=true)(h31:(Lit.int .u8 a31).wf=true):∃l,keyOf prog 54 (.agg #[U a0,U a1,U a2,U a3,U a4,U a5,U a6,U a7,U a8,U a9,U a10,U a11,U a12,U a13,U a14,U a15,U a16,U a17,U a18,U a19,U a20,U a21,U a22,U a23,U a24,U a25,U a26,U a27,U a28,U a29,U a30,U a31])=some l:=by
 obtain⟨n,hn⟩:=S4;unfold keyOf;rw[underlying54,hn];simp[Value.formed,underlying54,aeg,Us,Value.cells,Program.keyLits,Uj,wv,underlying3,underlying26,zi,underlying5,show List.range 32=[0,1,2,3,4,5,6,7,8,9,10,11,12,13,14,15,16,17,18,19,20,21,22,23,24,25,26,27,28,29,30,31] from rfl,h0,h1,h2,h3,h4,h5,h6,h7,h8,h9,h10,h11,h12,h13,h14,h15,h16,h17,h18,h19,h20,h21,h22,h23,h24,h25,h26,h27,h28,h29,h30,h31,kg]
def aaE(l:ap):∃q,keyOf prog 54 (.agg (xv l).toArray)=some q:=aby ((l.getD 0 0).toNat:Int) ((l.getD 1 0).toNat:Int) ((l.getD 2 0).toNat:Int) ((l.getD 3 0).toNat:Int) ((l.getD 4 0).toNat:Int) ((l.getD 5 0).toNat:Int) ((l.getD 6 0).toNat:Int) ((l.getD 7 0).toNat:Int) ((l.getD 8 0).toNat:Int) ((l.getD 9 0).toNat:Int) ((l.getD 10 0).toNat:Int) ((l.getD 11 0).toNat:Int) ((l.getD 12 0).toNat:Int) ((l.getD 13 0).toNat:Int) ((l.getD 14 0).toNat:Int) ((l.getD 15 0).toNat:Int) ((l.getD 16 0).toNat:Int) ((l.getD 17 0).toNat:Int) ((l.getD 18 0).toNat:Int) ((l.getD 19 0).toNat:Int) ((l.getD 20 0).toNat:Int) ((l.getD 21 0).toNat:Int) ((l.getD 22 0).toNat:Int) ((l.getD 23 0).toNat:Int) ((l.getD 24 0).toNat:Int) ((l.getD 25 0).toNat:Int) ((l.getD 26 0).toNat:Int) ((l.getD 27 0).toNat:Int) ((l.getD 28 0).toNat:Int) ((l.getD 29 0).toNat:Int) ((l.getD 30 0).toNat:Int) ((l.getD 31 0).toNat:Int) (bY _) (bY _) (bY _) (bY _) (bY _) (bY _) (bY _) (bY _) (bY _) (bY _) (bY _) (bY _) (bY _) (bY _) (bY _) (bY _) (bY _) (bY _) (bY _) (bY _) (bY _) (bY _) (bY _) (bY _) (bY _) (bY _) (bY _) (bY _) (bY _) (bY _) (bY _) (bY _)
def Sk{a b:ap}(ha:a.length=32)(hb:b.length=32):a=b↔(Value.agg (xv a).toArray=Value.agg (xv b).toArray):=⟨fun h=>by rw[h],fun h=>yG ha hb (List.toArray_inj (by injection h))⟩
def Dw(x:Lw)(w0:World)(hf:x.g.fit)(hX:ce w0 x.A (fl Rc.cw x.g.rs)):
  CV 185 #[x.v] w0 (J (pQ x.g)):=by
 have hlen:=hf.len;have hcn:=hf.dF;have hll:=Q5 hf;refine Zq ?_;refine Zx (k:=Zy (k:=Z4y ?_));intros;refine Z4z ?_;iterate 6 refine Z4x ?_
 refine OW.put 13 (V (min x.g.dF 32)) rfl (aq (Value.int .u64) K51) ?_;refine ZK (k:=Z4A ?_);refine OW.split 15 rfl (fun hc=>?_) (fun hc=>?_)<;>(try simp only[bz,reduceCtorEq] at hc)<;>try exact Kf
 all_goals
  refine Z4M ?_
 all_goals
  refine Z3J (k:=?_)
 all_goals
  first|(refine OW.off rfl rfl rfl ?_)|(refine OW.pure rfl rfl rfl (PV.build (ps:=[(1,.tmp 17)]) rfl rfl (fun w=>(te).h w)) ?_)
 all_goals
  first|(refine OW.off rfl rfl rfl ?_)|((refine OW.call Mx rfl rfl rfl rfl rfl rfl _ (fun w hw=>xD 0 x.A x.c x.g.rs w hf.rs (hw.rd hX)) ?_;rintro _ _ ⟨rfl,rfl⟩))
 all_goals
  refine ZP (k:=?_)
 all_goals
  refine Z4F ?_
 all_goals
  refine Zi (k:=Z4B ?_);refine CW.cond rfl (fun hc=>?_) (fun hc=>?_)
  ·simp only[bz,reduceCtorEq] at hc
   all_goals
    refine Ze (k:=Z3 (k:=Zf (k:=Zi (k:=Zb (k:=Zm (k:=Zv (k:=Z4P ?_)))))));exact⟨aq (Value.int .i64) (VN (by first|(left;assumption)|(right;assumption)|(left;omega)|(simp_all;done))).symm,rfl⟩
  first|((cases hc;done))|(simp only[bz,reduceCtorEq] at hc)
  all_goals
   refine ZB (k:=Zb (k:=Ze (k:=Z4z ?_)));refine OW.alloc (Jr) rfl rfl rfl rfl rfl (fun BL=>?_);refine Zi (k:=Zb (k:=Ze (k:=Ze (k:=Z3 (k:=Z4A ?_)))));refine OW.pure rfl rfl rfl (PV.gtr rfl rfl rfl) ?_;refine Zi (k:=Z4B ?_);refine CW.cond rfl (fun hc=>?_) (fun hc=>?_)
   ·simp only[bz,reduceCtorEq] at hc
    all_goals
     refine Z3 (k:=Z2q (k:=Z2r (k:=Z4A ?_)));refine OW.pure rfl rfl rfl (PV.UX rfl rfl rfl K1) ?_;refine OW.put 27 (J ((x.g.rs.length-1:Nat):Int)) rfl (aq (Value.int .i64) K1) ?_;refine OW.pure rfl rfl rfl (PV.indexAddr (oh hX) Ux Jx rfl rfl rfl rfl (by first|(simp;done)|(simp;omega)|(rw[E.Fx.ct Rc.fx];done)|(rw[E.Fx.ct Rc.fx];omega)|(rw[E.Fx.iW Rc.fx];done)|(rw[E.Fx.iW Rc.fx];omega)) K1 K6) ?_
     refine OW.pure rfl rfl rfl (PV.eU Rc.fx (oh hX) Gx rfl rfl K1) ?_;refine OW.pure rfl rfl rfl (PV.kv Rc.z Rc.fx (oh hX) Ix rfl rfl K1 rfl K6) ?_;refine Z2x (k:=Zi (k:=Zb (k:=Ze (k:=Ze (k:=Z3K (k:=Z3 (k:=Z2q (k:=Z3L (k:=Z3M (k:=?_))))))))));refine OW.put 32 (.agg (xv x.g.lk).toArray) rfl rfl ?_;refine OW.put 33 (.agg (xv (kf x.g.rs)).toArray) rfl rfl ?_;refine Z3N Vh (k:=Zi (k:=Z4B ?_));refine CW.cond rfl (fun hc=>?_) (fun hc=>?_)
     ·simp only[bz,reduceCtorEq] at hc
      all_goals
       refine Ze (k:=Z3 (k:=Zf (k:=Zi (k:=Zb (k:=Zm (k:=Zv (k:=Z4P ?_)))))));exact⟨aq (Value.int .i64) (Q6 K2).symm,rfl⟩
     simp only[bz,reduceCtorEq] at hc
     all_goals
      refine ZB (k:=Zb (k:=Ze (k:=Z3 (k:=Zf (k:=Zi (k:=Zb (k:=Zm (k:=Z4P ?_))))))));exact⟨aq (Value.int .i64) (On K1 (by first|assumption|(simp_all;done)) K2).symm,rfl⟩
   simp only[bz,reduceCtorEq] at hc
   all_goals
    refine ZB (k:=Zb (k:=Ze (k:=Ze (k:=Z3K (k:=Z3 (k:=Z2q (k:=Z3L (k:=Z3M (k:=?_)))))))));refine OW.put 32 (.agg (xv x.g.lk).toArray) rfl rfl ?_;refine OW.put 33 (.agg (xv (kf x.g.rs)).toArray) rfl rfl ?_;refine Z3N Vh (k:=Zi (k:=Z4B ?_));refine CW.cond rfl (fun hc=>?_) (fun hc=>?_)
    ·simp only[bz,reduceCtorEq] at hc
     all_goals
      refine Ze (k:=Z3 (k:=Zf (k:=Zi (k:=Zb (k:=Zm (k:=Zv (k:=Z4P ?_)))))));exact⟨aq (Value.int .i64) (Q6 K2).symm,rfl⟩
    simp only[bz,reduceCtorEq] at hc
    all_goals
     refine ZB (k:=Zb (k:=Ze (k:=Z3 (k:=Zf (k:=Zi (k:=Zb (k:=Zm (k:=Z4P ?_))))))));exact⟨aq (Value.int .i64) (On K1 (by first|assumption|(simp_all;done)) K2).symm,rfl⟩
instance(a b c:Int):CB 138 #[(0,V a),(1,U b),(2,J c)] ((.agg #[V a,U b,J c,U 0,U 0,U 0,U 0,U 0,U 0,U 0,U 0,U 0,U 0,U 0,U 0,U 0,U 0,U 0,U 0,U 0,U 0,U 0,U 0,U 0,U 0,U 0,U 0,U 0,U 0,U 0,U 0,U 0,U 0,U 0,U 0])):=⟨fun _=>K0⟩
instance(a:am)(b c:Nat):CB 287 #[(0,.slice a b c)] ((.agg #[.slice a b c])):=⟨fun _=>K0⟩
end Go.Proofs.YtcgecopggfjojaaGreatDoor
