/- Part 7: the logic, the plain laws and the walks behind TopAlone (lemmas only; each says its own conditions). -/
import Derived.Test.YtcgecopggfjojaaGreatDoorK6
set_option maxRecDepth 100000
set_option linter.all false
set_option maxHeartbeats 0
namespace Go.Proofs.YtcgecopggfjojaaGreatDoor
open Go Go.RowKit Go.Proofs.Tryz E Fl Cf Od Bf Cr Rt Tr Gw Dg Au Wi
attribute [local irreducible] E.CW E.OW E.QW E.AW E.lJ E.blockK E.PV
def Yd(B:Nat)(A:am)(c:Nat)(b:ap)(p:Nat)(e:Int)(S:Nat->Prop)(w0:World)(hS:(HP.aw B 186 [.slice A b.length c,J p,J e]).bA S w0)(hb:∀k,S k->k<w0.heap.size)(hc8:b.length<=c)(hl:b.length<=100000)(hp:p<=b.length)(he:e=0\/e=10)(hX:Rd w0 (Fm w0 S) A (aA b)):
  CF 84 #[Y B 0] w0 S fun v Hn=>∃(m2:Tm) (p2:Nat) (e2:Int),v=m2.v/\Hn=[HP.tm m2,HP.aw B 186 [.slice A b.length c,J p2,J e2]]/\p2<=b.length/\(e2=0\/e2=10)/\m2.q.fit/\Res Lt (str b p e) m2.q (str b p2 e2):=by
 refine Zp (HA.au hS hb) ?_;refine Zh @FP ?_;refine Zc ?_ ?_
 ·refine Z4u ?_;intro _ AI cI LI _ _ hpI heI hLI hrI _ _;refine ZC (k:=ZC (k:=?_));refine CW.aX [3,0,0,0,0,0] 3 rfl rfl ?_;refine Zr (k:=Z1f (k:=?_));exact⟨⟨⟨LI,[],[],0,0,0,0,0⟩,AI,none,none,cI,0,0⟩,_,_,rfl,rfl,hpI,heI,Kr hLI,UQ hrI K1⟩
 refine Zh @FP ?_;refine Zh @FP ?_;refine Z4t ?_;intro _ AI cI LI _ _ _ _ hLI hrI B2 hc AI2 cI2 LI2 _ _ _ _ hLI2 hrI2 AI3 cI3 LI3 pI3 eI3 hpI3 heI3 hLI3 hrI3;refine OW.bsl 1 (MJ B2 3 5) rfl rfl (fun w=>oE w) (fun AL=>?_);refine Z4t ?_;refine CW.sels [1,2,0,0,0,0,0] rfl ?_;refine CW.av [0,2,3,25,26] 2 rfl rfl (fun mm mods Hm=>∃k:Nat,∃xs:bv,∃p4:Nat,∃e4:Int,mm=5-k/\mods=[(27,J k)]/\Hm=[HP.aw B2 65 ([.slice AI (List.length LI) cI,.slice AI2 (List.length LI2) cI2,.slice AI3 (List.length LI3) cI3]++ints (xs++List.replicate (5-k) 0)),HP.aw B 186 [.slice A b.length c,J p4,J e4]]/\(k<=5/\xs.length=k/\(∀n∈xs,0<=n/\n<256)/\p4<=b.length/\(e4=0\/e4=10)/\Res (nsP k) (str b pI3 eI3) xs (str b p4 e4))) (5) ?_ ?_
 ·exact⟨[(27,_)],Kc,0,[],pI3,eI3,rfl,rfl,rfl,K1,rfl,(fun n hn=>by cases hn),hpI3,heI3,Sq _⟩
 rintro _ _ _ ⟨k,xs,p4,e4,rfl,rfl,rfl,hk,hxl,hxb,hp4,he4,hr4⟩;refine Zc ?_ ?_
 ·refine Z4t ?_;intro hc;refine OW.pure rfl rfl rfl (PV.PZ (iH (i:=2) rfl) Nx rfl rfl K1) ?_;refine Zh @rI ?_;refine Z4t ?_;intro xN pN eN hpN heN hxN hrN;refine OW.EU (i:=1) Js rfl rfl rfl rfl rfl rfl K17 rfl ?_;refine Z4t ?_;refine⟨_,[(27,_)],[0,0,0,0,0,0,0],_,?_,Kc,rfl,k+1,xs++[(xN:Int)],pN,eN,rfl,rfl,by rw[<-set_tail hxl K1],K1,by simp;omega,JQ hxb hxN,hpN,heN,V0 hr4 hrN⟩
  omega
 refine Z4u ?_;intros;obtain rfl:k=5:=K1;obtain⟨x1,x2,x3,x4,x5,rfl⟩:=aeb hxl;refine CW.chunk 0 (HP.aw B2 65 (Tm.cells ⟨⟨LI,LI2,LI3,x1,x2,x3,x4,x5⟩,AI,AI2,AI3,cI,cI2,cI3⟩)) rfl rfl ?_;refine CW.aX [5,4,3,0,0,0,0] 3 rfl rfl ?_;refine Zr (k:=Z1f (k:=?_));exact⟨⟨⟨LI,LI2,LI3,x1,x2,x3,x4,x5⟩,AI,AI2,AI3,cI,cI2,cI3⟩,_,_,rfl,rfl,hp4,he4,Bi hLI hLI2 hLI3 hxb,S5 hrI K1 hrI2 hrI3 hr4⟩
def Sy(B:Nat)(A:am)(c:Nat)(b:ap)(p:Nat)(e:Int)(m:Nat)(S:Nat->Prop)(w0:World)(hm:m<=100000)(hS:(HP.aw B 186 [.slice A b.length c,J p,J e]).bA S w0)(hb:∀k,S k->k<w0.heap.size)(hc8:b.length<=c)(hl:b.length<=100000)(hp:p<=b.length)(he:e=0\/e=10)(hX:Rd w0 (Fm w0 S) A (aA b)):
  CF 83 #[Y B 0,J m,.func (.func 84) #[Y B 0] #[]] w0 S fun v Hn=>∃A2 c2 tt p2 e2,v=.slice A2 (List.length tt) c2/\Hn=[HP.row 65 8 A2 (List.length tt) c2 (tms tt),HP.tms tt,HP.aw B 186 [.slice A b.length c,J (p2:Nat),J e2]]/\(p2:Nat)<=b.length/\(e2=0\/e2=10)/\tt.length<=m/\(∀m∈tt,m.q.fit)/\Res (kJ m) (str b p e) (tt.map (·.q)) (str b p2 e2):=by
 refine Zp (HA.au hS hb) ?_;refine Zx (k:=Zy (k:=Z4y ?_));refine CW.bM 65 8 ?_;refine CW.Qz ?_;refine Z4t ?_;refine CW.av [0,2,8] 3 rfl rfl (fun mm mods Hm=>∃k:Nat,∃D:am,∃q:Nat,∃tt:List Tm,∃p4:Nat,∃e4:Int,mm=m-k/\mods=[(9,J k),(7,.slice D tt.length q)]/\Hm=[HP.tms tt,HP.row 65 8 D tt.length q (tms tt),HP.aw B 186 [.slice A b.length c,J p4,J e4]]/\(k<=m/\tt.length<=k/\(∀m∈tt,m.q.fit)/\p4<=b.length/\(e4=0\/e4=10)/\Res (kJ k) (str b p e) (tt.map (·.q)) (str b p4 e4))) (m) ?_ ?_
 ·exact⟨[(9,_),(7,_)],Kc,0,none,0,[],p,e,rfl,rfl,rfl,K1,by simp,(fun m hm=>by cases hm),hp,he,QT _⟩
 rintro _ _ _ ⟨k,D,q,tt,p4,e4,rfl,rfl,rfl,hk,htl,hft,hp4,he4,hr4⟩;refine Zc ?_ ?_
 ·refine Zc ?_ ?_
  ·refine Z4t ?_;intro hc hc;refine OW.Yy (us:=[Y B 0]) Mx rfl rfl rfl rfl rfl rfl _ 2 rfl (fun w S hw hs hb hc=>Yd _ _ _ _ _ _ S w hs (fun k hk=>(hb k hk).1) K2 K2 K2 K2 (by refine hw.fD ?_ hb;assumption)) ?_;rintro _ _ ⟨mT,pT,eT,rfl,rfl,hpT,heT,hfT,hrT⟩
   refine OW.bsl 8 (tms [mT]) rfl rfl (fun w=>wU w) (fun AL=>?_);refine OW.PG (i:=3) (j:=0) Ux Jx rfl rfl rfl rfl rfl rfl rfl rfl rfl rfl K4 K1 (fun AT cT=>?_);refine Z4L ?_;refine OW.FB 1 2 rfl rfl ?_;refine Z4t ?_;refine⟨_,[(9,_),(7,_)],[0,0,0],_,?_,Kc,rfl,k+1,AT,cT,tt++[mT],pT,eT,rfl,rfl,rfl,K1,by simp;omega,KJ hft hfT,hpT,heT,by rw[dZ];exact Ty hr4 hrT⟩
   omega
  refine Z4t ?_;intros;refine⟨_,[(9,_),(7,_)],[0,0,0],_,?_,Kc,rfl,k+1,D,q,tt,p4,e4,rfl,rfl,rfl,K1,K1,hft,hp4,he4,by rw[tC (show¬e4=0 from by assumption)] at hr4⊢;exact Ap hr4⟩
  omega
 refine Z4t ?_;intros;refine KR.one [1,0,0] rfl rfl rfl ?_;obtain rfl:k=m:=K1;exact⟨_,_,_,_,_,rfl,rfl,hp4,he4,htl,hft,hr4⟩
instance(a:am)(b c:Nat):CB 186 #[(0,.slice a b c)] ((.agg #[.slice a b c,J 0,J 0])):=⟨fun _=>K0⟩
def acL(A:am)(c:Nat)(b:ap)(w0:World)(hc8:b.length<=c)(hl:b.length<=140737488351232)(hX:ce w0 A (aA b)):
  CO 49 #[.slice A b.length c] w0 fun v Hn=>∃g2:aP,v=.tuple #[g2.v,J (Cf.dec b).2]/\Hn=[HP.cfg g2]/\g2.q=(Cf.dec b).1/\g2.q.fit:=by
 refine Zq ?_;refine Zc ?_ ?_
 ·refine Z4u ?_;intros;refine CW.Kv ?_;refine Zr (k:=Z4Q ?_);rw[R7 K1];exact⟨aP.z,rfl,rfl,rfl,kM⟩
 have h0p:(0:Nat)<=b.length:=bF _;have h0e:(0:Int)=0\/(0:Int)=10:=.inl rfl;refine Zx (k:=Z4y ?_);intro _ hc B2;refine CW.chunk 0 (HP.aw B2 186 [.slice A b.length c,J (0:Nat),J 0]) rfl rfl ?_;refine Zh @rI ?_;refine Zh @rI ?_;refine Z4u ?_;intro B3 xN _ _ _ _ hxN hrN xN2 _ _ _ _ hxN2 hrN2;have hmul:xN*xN2<=255*255:=iS K1 K1;have hmu2:((xN*xN2:Nat):Int)=(xN:Int)*(xN2:Int):=tu _ _;refine Z4z ?_;iterate 8 refine Z4x ?_
 refine OW.put 29 (J ((xN*xN2:Nat):Int)) rfl (by rw[hmu2]) ?_
 refine Zh @D8 ?_;refine Zh @rI ?_;refine Zh @D8 ?_;refine Zh @rI ?_;refine Zh @Sy ?_;refine Zh @NW ?_;refine Z4u ?_;intro AB cB LB _ _ _ _ _ hrB _ _ _ _ _ _ hrN3 AB2 cB2 LB2 _ _ _ _ _ hrB2 _ _ _ _ _ _ hrN4 AT cT tt _ _ _ _ _ hft hrT xM _ eM _ _ hxM hrM;have hrF:=W3 hrN hrN2 hrB hrN3 hrB2 hrN4 hrT hrM;refine Zc ?_ ?_
 ·refine Z4u ?_;intros;refine CW.Kv ?_;refine Z19 (k:=Zr (k:=Z4Q ?_));obtain rfl:eM=10:=K1;rw[Pt K1 K1 hrF];exact⟨aP.z,rfl,rfl,rfl,kM⟩
 refine Zc ?_ ?_
 ·refine Z4u ?_;intros;refine CW.Kv ?_;refine Zr (k:=Z4Q ?_);obtain rfl:eM=0:=K1;rw[LH K1 hrF K1];exact⟨aP.z,rfl,rfl,rfl,kM⟩
 refine Z4u ?_;intro hc hc;obtain rfl:eM=0:=K1;have hgf:aP.q (⟨xN,xN2,LB,LB2,tt,xM,AB,cB,AB2,cB2,AT,cT⟩:aP)|>.fit:=PM hxN hxN2 (show LB.length<=100000 by omega) (show LB2.length<=100000 by omega) (show(tt.map (·.q)).length<=100000 by simp;omega) (MS hft) ⟨hxM.1,hxM.2.1⟩
 refine CW.aX [5,4,2,2,0,0,0] 4 rfl rfl ?_;refine CW.chunk 0 (HP.cfg (⟨xN,xN2,LB,LB2,tt,xM,AB,cB,AB2,cB2,AT,cT⟩:aP)) rfl rfl ?_;refine CW.chunk 1 (HP.aw B3 28 (aP.cells (⟨xN,xN2,LB,LB2,tt,xM,AB,cB,AB2,cB2,AT,cT⟩:aP))) rfl rfl ?_;refine Z1g (k:=?_);refine Zg @o0 ?_;refine Zc ?_ ?_
 ·refine Z4u ?_;intros;refine CW.Kv ?_;refine Zr (k:=Z4Q ?_);rw[RR K1 hrF K1 K2];exact⟨aP.z,rfl,rfl,rfl,kM⟩
 refine Z4t ?_;intros;refine Z4Q ?_;rw[YC K1 hrF K1 K2];exact⟨(⟨xN,xN2,LB,LB2,tt,xM,AB,cB,AB2,cB2,AT,cT⟩:aP),rfl,rfl,rfl,hgf⟩
instance(a:Int):CB 397 #[(0,J a)] ((.agg #[J a])):=⟨fun _=>K0⟩
instance(a:Int):CB 194 #[(0,V a)] ((.agg #[V a,J 0])):=⟨fun _=>K0⟩
instance(a b c d e:Int):CB 324 #[(0,J a),(1,J b),(2,J c),(3,U d),(4,V e)] ((.agg #[J a,J b,J c,U d,V e,V 0])):=⟨fun _=>K0⟩
def kI:Ta prog 20 397 (.agg #[J 0]):=⟨fun _ _=>by kernel_rfl,fun _=>by kernel_rfl⟩
def Ks(w:World):(Instr.buildSlice 192 0 #[]).run prog w=.ok (.slice (some ⟨w.heap.size,0,none⟩) 0 0) (w.alloc (.cells #[] 324)):=K0
instance qj{a:am}{b c:Nat}{d:am}{e f:Nat}{g:Int}{h:Int}:CB 196 #[(0,.slice a b c),(1,.slice d e f),(2,.agg #[V g,J h])] ((.agg #[.slice a b c,.slice d e f,V g,J h])):=⟨fun _=>K0⟩
instance EG{a:am}{b c:Nat}{d:am}{e f:Nat}{g:Int}{h:Int}{i:am}{j k:Nat}{l:am}{m n:Nat}{o:am}{p q:Nat}{r:Int}{s:Int}{t:Int}{u:Int}{v:Int}:CB 402 #[(0,.agg #[.slice a b c,.slice d e f,V g,J h]),(1,.agg #[.slice i j k,.slice l m n,.slice o p q,J r,J s,J t,J u,J v])] ((.agg #[.slice a b c,.slice d e f,V g,J h,.slice i j k,.slice l m n,.slice o p q,J r,J s,J t,J u,J v])):=⟨fun _=>K0⟩
def u7{a:Int}{b:Int}{c:Int}{d:Int}{e:Int}{f:Int}(w:World):(Instr.buildSlice 192 1 #[(0,.agg #[J a,J b,J c,U d,V e,V f])]).run prog w=.ok (.slice (some ⟨w.heap.size,0,none⟩) 1 1) (w.alloc (.cells #[J a,J b,J c,U d,V e,V f] 324)):=K0
instance:CB 324 #[] ((.agg #[J 0,J 0,J 0,U 0,V 0,V 0])):=⟨fun _=>K0⟩
instance rT{a:Int}{b:Int}{c:am}{d e:Nat}{f:am}{g h:Nat}{i:am}{j k:Nat}{l:Int}{m:Int}{n:am}{o p:Nat}{q:am}{r s:Nat}{t:am}{u v:Nat}{x:Int}{y:Int}{z:Int}{A:Int}{B:Int}{C:Int}{D:Int}:CB 342 #[(0,.agg #[J a,J b,.slice c d e,.slice f g h,.slice i j k,V l]),(1,J m),(2,.agg #[.slice n o p,.slice q r s,.slice t u v,J x,J y,J z,J A,J B]),(3,V C),(6,J D)] ((.agg #[J a,J b,.slice c d e,.slice f g h,.slice i j k,V l,J m,.slice n o p,.slice q r s,.slice t u v,J x,J y,J z,J A,J B,V C,.slice none 0 0,.slice none 0 0,.slice none 0 0,V 0,J 0,J D,.slice none 0 0])):=⟨fun _=>K0⟩
instance EX{a:Int}{b:Int}{c:Int}{d:Int}{e:Int}{f:Bool}{g:Int}:CB 345 #[(0,.agg #[J a,U b,J c,J d,J e,.bool f]),(1,J g)] ((.agg #[J a,U b,J c,J d,J e,.bool f,J g])):=⟨fun _=>K0⟩
def Fc{a:Int}{b:Int}{c:Int}{d:Int}{e:Int}{f:Bool}{g:Int}(w:World):(Instr.buildSlice 340 1 #[(0,.agg #[J a,U b,J c,J d,J e,.bool f,J g])]).run prog w=.ok (.slice (some ⟨w.heap.size,0,none⟩) 1 1) (w.alloc (.cells #[J a,U b,J c,J d,J e,.bool f,J g] 345)):=K0
instance DY{a:am}{b c:Nat}{d:am}{e f:Nat}{g:Int}{h:Int}{i:Int}:CB 198 #[(1,.agg #[.slice a b c,.slice d e f,V g,J h]),(2,J i)] ((.agg #[.slice none 0 0,.slice a b c,.slice d e f,V g,J h,J i])):=⟨fun _=>K0⟩
instance(a:Fn)(b c:Array Value):CB 358 #[(0,.func a b c)] ((.agg #[.func a b c])):=⟨fun _=>K0⟩
def vr{a:Int}{b:Int}{c:Int}{d:Int}{e:Int}{f:Bool}(w:World):(Instr.buildSlice 191 1 #[(0,.agg #[J a,U b,J c,J d,J e,.bool f])]).run prog w=.ok (.slice (some ⟨w.heap.size,0,none⟩) 1 1) (w.alloc (.cells #[J a,U b,J c,J d,J e,.bool f] 246)):=K0
def mN{a:Fn}{b c:Array Value}{d:Fn}{e f:Array Value}{g:Fn}{h i:Array Value}{j:Fn}{k l:Array Value}{m:Fn}{n o:Array Value}{p:Fn}{q r:Array Value}(w:World):(Instr.buildSlice 302 6 #[(0,.agg #[.func a b c]),(1,.agg #[.func d e f]),(2,.agg #[.func g h i]),(3,.agg #[.func j k l]),(4,.agg #[.func m n o]),(5,.agg #[.func p q r])]).run prog w=.ok (.slice (some ⟨w.heap.size,0,none⟩) 6 6) (w.alloc (.cells #[.func a b c,.func d e f,.func g h i,.func j k l,.func m n o,.func p q r] 358)):=K0
instance:CB 198 #[] ((.agg #[.slice none 0 0,.slice none 0 0,.slice none 0 0,V 0,J 0,J 0])):=⟨fun _=>K0⟩
instance(a:Int):CB 198 #[(2,J a)] ((.agg #[.slice none 0 0,.slice none 0 0,.slice none 0 0,V 0,J 0,J a])):=⟨fun _=>K0⟩
instance(a b c:Int):CB 220 #[(0,J a),(1,U b),(2,J c)] ((.agg #[J a,U b,J c])):=⟨fun _=>K0⟩
instance(a:Int):CB 246 #[(0,J a)] ((.agg #[J a,U 0,J 0,J 0,J 0,.bool false])):=⟨fun _=>K0⟩
def JM{a:Int}{b:Int}{c:Int}(w:World):(Instr.buildSlice 51 1 #[(0,.agg #[J a,U b,J c])]).run prog w=.ok (.slice (some ⟨w.heap.size,0,none⟩) 1 1) (w.alloc (.cells #[J a,U b,J c] 220)):=K0
def JN(w:World):(Instr.buildSlice 191 0 #[]).run prog w=.ok (.slice (some ⟨w.heap.size,0,none⟩) 0 0) (w.alloc (.cells #[] 246)):=K0
def mV{a:Int}{b:Int}(w:World):(Instr.buildSlice 63 2 #[(0,J a),(1,J b)]).run prog w=.ok (.slice (some ⟨w.heap.size,0,none⟩) 2 2) (w.alloc (.cells #[J a,J b] 3)):=K0
def LP(w:World):(Instr.buildSlice 79 0 #[]).run prog w=.ok (.slice (some ⟨w.heap.size,0,none⟩) 0 0) (w.alloc (.cells #[] 258)):=K0
instance(a b:Int):CB 299 #[(0,V a),(1,J b)] ((.agg #[V a,J b])):=⟨fun _=>K0⟩
instance(a b c:Int):CB 305 #[(0,V a),(1,J b),(2,J c)] ((.agg #[V a,J b,J c])):=⟨fun _=>K0⟩
instance(a:Option Nat)(b:Option Nat):CB 297 #[(0,.map a),(1,.map b)] ((.agg #[.map a,.map b])):=⟨fun _=>K0⟩
def xF{a:Int}{b:Int}{c:Int}{d:Int}(w:World):(Instr.buildSlice 79 1 #[(0,.agg #[V a,J b,J c,J d])]).run prog w=.ok (.slice (some ⟨w.heap.size,0,none⟩) 1 1) (w.alloc (.cells #[V a,J b,J c,J d] 258)):=K0
instance:CB 194 #[] ((.agg #[V 0,J 0])):=⟨fun _=>K0⟩
instance(a b c d:Int):CB 258 #[(0,V a),(1,J b),(2,J c),(3,J d)] ((.agg #[V a,J b,J c,J d])):=⟨fun _=>K0⟩
instance:CB 81 #[] ((.agg #[.slice none 0 0,.slice none 0 0,V 0])):=⟨fun _=>K0⟩
instance(a:Int):CB 81 #[(2,V a)] ((.agg #[.slice none 0 0,.slice none 0 0,V a])):=⟨fun _=>K0⟩
def ri{a:am}{b c:Nat}{d:am}{e f:Nat}{g:am}{h i:Nat}{j:Int}{k:Int}{l:Int}(w:World):(Instr.buildSlice 78 1 #[(0,.agg #[.slice a b c,.slice d e f,.slice g h i,V j,J k,J l])]).run prog w=.ok (.slice (some ⟨w.heap.size,0,none⟩) 1 1) (w.alloc (.cells #[.slice a b c,.slice d e f,.slice g h i,V j,J k,J l] 198)):=K0
instance(a b:Int):CB 206 #[(0,J a),(1,J b)] ((.agg #[J a,J b])):=⟨fun _=>K0⟩
def E3{a:Int}{b:Int}(w:World):(Instr.buildSlice 202 1 #[(0,.agg #[J a,J b])]).run prog w=.ok (.slice (some ⟨w.heap.size,0,none⟩) 1 1) (w.alloc (.cells #[J a,J b] 206)):=K0
def YK(x k:Int)(w0:World):
  CV 309 #[O x,J k] w0 (O (rl x k)):=by
 refine Zq ?_;refine Zr (k:=Z1h (k:=?_));refine Zk ?_;exact⟨rfl,rfl⟩
def nC(x:Int)(B:Nat)(A:am)(c:Nat)(l:bv)(w0:World)(hB:ce w0 (some ⟨B,0,.none⟩) [.slice A l.length c])(hX:ce w0 A (ints l))(hl:l.length<=100)(hr:∀k,k<l.length->0<=l.getD k 0/\l.getD k 0<=100):
  CV 308 #[O x,Y B 0] w0 (O (mix l x)):=by
 refine Zq ?_;refine Z4t ?_;refine CW.av [0,7,8] 0 rfl rfl (fun mm mods Hm=>∃k:Nat,mm=l.length-k/\mods=[(9,J k),(4,O (mix (l.take k) x))]/\Hm=[]/\k<=l.length) (l.length) ?_ ?_
 ·exact⟨[(9,_),(4,_)],Kc,0,rfl,rfl,rfl,K1⟩
 rintro _ _ _ ⟨k,rfl,rfl,rfl,hk⟩;refine Zc ?_ ?_
 ·refine Z4u ?_;intros;have hrk:=hr k K1;refine Z4t ?_;refine OW.pure rfl rfl rfl (PV.neg rfl rfl K1) ?_;refine Zg @YK ?_;refine Z4t ?_;refine⟨_,[(9,_),(4,_)],[],_,?_,Kc,rfl,k+1,rfl,(by rw[Ng l x K1]<;>rfl),rfl,K1⟩
  omega
 refine Zk ?_;intros;obtain rfl:k=l.length:=K1;exact⟨by rw[bJ],rfl⟩
def o7(A:am)(c n:Nat)(w0:World):
  CO 307 #[.slice A n c] w0 fun v Hn=>∃B,v=.func (.func 308) #[] #[Y B 0]/\Hn=[HP.aw B 63 [.slice A n c]]:=by
 refine Zq ?_;refine Zl ?_;intros;exact⟨_,rfl,rfl⟩
def nV{a:Int}{b:Int}{c:Int}(w:World):(Instr.buildSlice 63 3 #[(0,J a),(1,J b),(2,J c)]).run prog w=.ok (.slice (some ⟨w.heap.size,0,none⟩) 3 3) (w.alloc (.cells #[J a,J b,J c] 3)):=K0
def Yu(st:bv)(b:ap)(w0:World)(hst:st.length=8)(hb8:b.length=64)(hK:ce w0 (some ⟨1,0,.none⟩) (dm ks)):
  CV 302 #[.agg (dm st).toArray,.agg (aA b).toArray] w0 (.agg (dm (Dg.cmp st b)).toArray):=by
 have hkl:=Ys;refine Zq ?_;refine Ze (k:=Z3 (k:=Z1i (k:=fun B1=>?_)));refine OW.box rfl rfl rfl rfl rfl rfl (fun B2=>?_);refine OW.alloc (Jr) rfl rfl rfl rfl rfl (fun B3=>?_);refine Zi (k:=Zb (k:=Ze (k:=Z4z ?_)));refine OW.alloc (Jr) rfl rfl rfl rfl rfl (fun B4=>?_);refine Zi (k:=Zb (k:=Z4I ?_));refine CW.bO 0 (HP.aw B4 459 (dm (wN b 0))) rfl rfl ?_;refine Z4z ?_;refine OW.bsl 1 (ints ([7,18])) rfl rfl (fun w=>mV w) (fun A5=>?_);refine OW.chunk 0 (HP.row 3 1 A5 (List.length ([7,18])) 2 (ints ([7,18]))) rfl rfl ?_;refine OW.put 17 (.slice A5 (List.length ([7,18])) 2) rfl rfl ?_;refine OW.call Mx rfl rfl rfl rfl rfl rfl _ (fun w hw=>o7 _ _ 2 w) ?_;rintro _ _ ⟨M0,rfl,rfl⟩;refine OW.bsl 1 (ints ([17,19])) rfl rfl (fun w=>mV w) (fun A6=>?_);refine OW.chunk 0 (HP.row 3 1 A6 (List.length ([17,19])) 2 (ints ([17,19]))) rfl rfl ?_;refine OW.put 19 (.slice A6 (List.length ([17,19])) 2) rfl rfl ?_;refine OW.call Mx rfl rfl rfl rfl rfl rfl _ (fun w hw=>o7 _ _ 2 w) ?_;rintro _ _ ⟨M1,rfl,rfl⟩;refine OW.bsl 1 (ints ([2,13,22])) rfl rfl (fun w=>nV w) (fun A7=>?_);refine OW.chunk 0 (HP.row 3 1 A7 (List.length ([2,13,22])) 3 (ints ([2,13,22]))) rfl rfl ?_;refine OW.put 21 (.slice A7 (List.length ([2,13,22])) 3) rfl rfl ?_;refine OW.call Mx rfl rfl rfl rfl rfl rfl _ (fun w hw=>o7 _ _ 3 w) ?_;rintro _ _ ⟨M2,rfl,rfl⟩;refine OW.bsl 1 (ints ([6,11,25])) rfl rfl (fun w=>nV w) (fun A8=>?_);refine OW.chunk 0 (HP.row 3 1 A8 (List.length ([6,11,25])) 3 (ints ([6,11,25]))) rfl rfl ?_;refine OW.put 23 (.slice A8 (List.length ([6,11,25])) 3) rfl rfl ?_;refine OW.call Mx rfl rfl rfl rfl rfl rfl _ (fun w hw=>o7 _ _ 3 w) ?_;rintro _ _ ⟨M3,rfl,rfl⟩;refine Zf (k:=Zf (k:=Zf (k:=Zf (k:=Zi (k:=Zb (k:=Ze (k:=Z4I ?_)))))));refine CW.gT [0,0,0,0,0,0,0,0,0,0,0,0] 8 rfl rfl [(some ⟨M3,0,.none⟩,[.slice A8 3 3]),(A8,ints [6,11,25]),(some ⟨M2,0,.none⟩,[.slice A7 3 3]),(A7,ints [2,13,22]),(some ⟨M1,0,.none⟩,[.slice A6 2 2]),(A6,ints [17,19]),(some ⟨M0,0,.none⟩,[.slice A5 2 2]),(A5,ints [7,18])] K7 ?_;refine Z3 (k:=ZJ (k:=Zi (k:=Zb (k:=Z1j (k:=?_)))));refine CW.sels [1,0,0,0,0] rfl ?_;refine CW.av [2,3,4,5,6,7,8,9] 1 rfl rfl (fun mm mods Hm=>∃k:Nat,∃W:bv,mm=64-k/\mods=[(25,J k)]/\Hm=[HP.aw B4 459 (dm W)]/\k<=64/\W=wN b k/\W.length=64) (64) ?_ ?_
 ·exact⟨[(25,_)],Kc,0,_,rfl,rfl,rfl,K1,rfl,rfl⟩
 rintro _ _ _ ⟨k,W,rfl,rfl,rfl,hk,hW,hWl⟩;refine Ze (k:=Z3 (k:=Z1k (k:=Zi (k:=Zb (k:=Z4I ?_)))));refine CW.cond rfl (fun hc=>?_) (fun hc=>?_)
 ·simp only[bz,reduceCtorEq] at hc
  all_goals
   refine ZB (k:=Zb (k:=Ze (k:=Z1j (k:=Ze (k:=Z3 (k:=ZJ (k:=Zf (k:=Zi (k:=Zb (k:=Ze (k:=Ze (k:=Z3 (k:=ZJ (k:=Z1k (k:=Zi (k:=Z4B ?_))))))))))))))));refine CW.cond rfl (fun hc=>?_) (fun hc=>?_)
   ·simp only[bz,reduceCtorEq] at hc
    all_goals
     refine Ze (k:=Z3 (k:=ZJ (k:=Z4A ?_)));refine OW.pure rfl rfl rfl (PV.H9 rfl rfl rfl K1) ?_;refine Z4A ?_;refine OW.pure rfl rfl rfl (PV.H9 rfl rfl rfl K1) ?_;refine Z1l (k:=?_);refine OW.put 32 (J ((4*k:Nat):Int)) rfl (aq (Value.int .i64) K1) ?_;refine OW.put 35 (J ((4*k+4:Nat):Int)) rfl (aq (Value.int .i64) K1) ?_;refine OW.pure rfl rfl rfl (PV.aag Ux Jx rfl rfl rfl rfl K40 K40) ?_;refine OW.put 36 (.slice (fu (some ⟨B2,0,.none⟩) 64 (4*k)) ((b.drop (4*k)).take 4).length (64-4*k)) rfl (by rw[cf,bN];congr 1;omega) ?_
     refine OW.call Mx rfl rfl rfl rfl rfl rfl _ (fun w hw=>Nq _ _ ((b.drop (4*k)).take 4) w (by rw[cf];omega) (qD ((hw.aL (i:=3) rfl).at 0 rfl) K1 K1)) ?_;rintro _ _ ⟨rfl,rfl⟩
     refine OW.pure rfl rfl rfl (PV.conv Ux Ux rfl rfl) ?_;refine OW.pure rfl rfl rfl (PV.wT Ux Jx rfl rfl rfl rfl K1) ?_;refine Z1m (k:=Zi (k:=Zb (k:=Z1n (k:=Z1o (k:=Z1p (k:=Zb (k:=Z3 (k:=Z1l (k:=ZJ (k:=Zi (k:=Z1q (k:=?_))))))))))));refine⟨_,[(25,_)],[0,0,0,0,0],[_],?_,Kc,rfl,k+1,_,rfl,rfl,rfl,K1,(by rw[aaM K1,<-hW]<;>rfl),by simp[hWl]⟩
     omega
   simp only[bz,reduceCtorEq] at hc
   all_goals
    refine ZB (k:=Z4B ?_);refine CW.gx (T:=[37]) mixed [0,0] rfl ?_
    all_goals
     refine E.AW.fT 0 rfl K0 K0 K0 rfl rfl rfl (PV.move rfl rfl) ?_
    all_goals
     refine E.AW.fT 1 rfl K0 K0 K0 rfl rfl rfl (PV.move rfl rfl) ?_
    all_goals
     refine E.AW.fT 2 rfl K0 K0 K0 rfl rfl rfl (PV.UX rfl rfl rfl K1) ?_
    all_goals
     refine E.AW.put 42 (J ((k-16:Nat):Int)) rfl (aq (Value.int .i64) K1) ?_
    all_goals
     refine E.AW.fT 3 rfl K0 K0 K0 rfl rfl rfl (PV.wT Ux Jx rfl rfl rfl rfl K1) ?_
    all_goals
     refine E.AW.ru [[]] 4 rfl K0 K0 K0 rfl rfl rfl (PV.pL (i:=0) Nx rfl rfl rfl K5) ?_
    all_goals
     refine E.AW.fT 5 rfl K0 K0 K0 rfl rfl rfl (PV.move rfl rfl) ?_
    all_goals
     refine E.AW.fT 6 rfl K0 K0 K0 rfl rfl rfl (PV.move rfl rfl) ?_
    all_goals
     refine E.AW.fT 7 rfl K0 K0 K0 rfl rfl rfl (PV.UX rfl rfl rfl K1) ?_
    all_goals
     refine E.AW.put 47 (J ((k-15:Nat):Int)) rfl (aq (Value.int .i64) K1) ?_
    all_goals
     refine E.AW.fT 8 rfl K0 K0 K0 rfl rfl rfl (PV.wT Ux Jx rfl rfl rfl rfl K1) ?_
    all_goals
     refine E.AW.ru [[]] 9 rfl K0 K0 K0 rfl rfl rfl (PV.pL (i:=0) Nx rfl rfl rfl K5) ?_
    all_goals
     refine E.AW.fT 11 rfl K0 K0 K0 rfl rfl rfl (PV.move rfl rfl) ?_
    all_goals
     refine E.AW.fT 12 rfl K0 K0 K0 rfl rfl rfl (PV.UX rfl rfl rfl K1) ?_
    all_goals
     refine E.AW.put 52 (J ((k-15:Nat):Int)) rfl (aq (Value.int .i64) K1) ?_
    all_goals
     refine E.AW.fT 13 rfl K0 K0 K0 rfl rfl rfl (PV.wT Ux Jx rfl rfl rfl rfl K1) ?_
    all_goals
     refine E.AW.ru [[]] 14 rfl K0 K0 K0 rfl rfl rfl (PV.pL (i:=0) Nx rfl rfl rfl K5) ?_
    all_goals
     refine E.AW.fT 15 rfl K0 K0 K0 rfl rfl rfl (PV.shr rfl rfl rfl (by first|omega|exact uM _)) ?_
    all_goals
     refine E.AW.fT 18 rfl K0 K0 K0 rfl rfl rfl (PV.move rfl rfl) ?_
    all_goals
     refine E.AW.fT 19 rfl K0 K0 K0 rfl rfl rfl (PV.UX rfl rfl rfl K1) ?_
    all_goals
     refine E.AW.put 59 (J ((k-7:Nat):Int)) rfl (aq (Value.int .i64) K1) ?_
    all_goals
     refine E.AW.fT 20 rfl K0 K0 K0 rfl rfl rfl (PV.wT Ux Jx rfl rfl rfl rfl K1) ?_
    all_goals
     refine E.AW.ru [[]] 21 rfl K0 K0 K0 rfl rfl rfl (PV.pL (i:=0) Nx rfl rfl rfl K5) ?_
    all_goals
     refine E.AW.fT 23 rfl K0 K0 K0 rfl rfl rfl (PV.move rfl rfl) ?_
    all_goals
     refine E.AW.fT 24 rfl K0 K0 K0 rfl rfl rfl (PV.move rfl rfl) ?_
    all_goals
     refine E.AW.fT 25 rfl K0 K0 K0 rfl rfl rfl (PV.UX rfl rfl rfl K1) ?_
    all_goals
     refine E.AW.put 65 (J ((k-2:Nat):Int)) rfl (aq (Value.int .i64) K1) ?_
    all_goals
     refine E.AW.fT 26 rfl K0 K0 K0 rfl rfl rfl (PV.wT Ux Jx rfl rfl rfl rfl K1) ?_
    all_goals
     refine E.AW.ru [[]] 27 rfl K0 K0 K0 rfl rfl rfl (PV.pL (i:=0) Nx rfl rfl rfl K5) ?_
    all_goals
     refine E.AW.fT 29 rfl K0 K0 K0 rfl rfl rfl (PV.move rfl rfl) ?_
    all_goals
     refine E.AW.fT 30 rfl K0 K0 K0 rfl rfl rfl (PV.UX rfl rfl rfl K1) ?_
    all_goals
     refine E.AW.put 70 (J ((k-2:Nat):Int)) rfl (aq (Value.int .i64) K1) ?_
    all_goals
     refine E.AW.fT 31 rfl K0 K0 K0 rfl rfl rfl (PV.wT Ux Jx rfl rfl rfl rfl K1) ?_
    all_goals
     refine E.AW.ru [[]] 32 rfl K0 K0 K0 rfl rfl rfl (PV.pL (i:=0) Nx rfl rfl rfl K5) ?_
    all_goals
     refine E.AW.fT 33 rfl K0 K0 K0 rfl rfl rfl (PV.shr rfl rfl rfl (by first|omega|exact uM _)) ?_
    all_goals
     refine Z4H ?_
    all_goals
     refine OW.o6 Mx rfl rfl rfl rfl rfl rfl _ (fun w hw=>nC _ M0 A5 2 [7,18] w ((hw.aL (i:=1) rfl).mem (A:=some ⟨M0,0,.none⟩) (xs:=[.slice A5 2 2]) K7) ((hw.aL (i:=1) rfl).mem (A:=A5) (xs:=ints [7,18]) K7) K6 K6) ?_;rintro _ _ ⟨rfl,rfl⟩
    all_goals
     refine Z1r (k:=?_)
    all_goals
     refine E.AW.fT 16 rfl K0 K0 K0 rfl rfl rfl (PV.ad8 rfl rfl rfl) ?_
    all_goals
     refine E.AW.fT 17 rfl K0 K0 K0 rfl rfl rfl (PV.add rfl rfl rfl) ?_
    all_goals
     refine E.AW.fT 22 rfl K0 K0 K0 rfl rfl rfl (PV.add rfl rfl rfl) ?_
    all_goals
     refine E.AW.one 28 K0 rfl ?_
    all_goals
     refine OW.o6 Mx rfl rfl rfl rfl rfl rfl _ (fun w hw=>nC _ M1 A6 2 [17,19] w ((hw.aL (i:=1) rfl).mem (A:=some ⟨M1,0,.none⟩) (xs:=[.slice A6 2 2]) K7) ((hw.aL (i:=1) rfl).mem (A:=A6) (xs:=ints [17,19]) K7) K6 K6) ?_;rintro _ _ ⟨rfl,rfl⟩
    all_goals
     refine Z1r (k:=?_)
    all_goals
     refine E.AW.fT 34 rfl K0 K0 K0 rfl rfl rfl (PV.ad8 rfl rfl rfl) ?_
    all_goals
     refine E.AW.fT 35 rfl K0 K0 K0 rfl rfl rfl (PV.add rfl rfl rfl) ?_
    all_goals
     refine E.AW.fT 36 rfl K0 K0 K0 rfl rfl rfl (PV.wT Ux Jx rfl rfl rfl rfl K1) ?_
    all_goals
     refine E.AW.jK 37 K0 rfl K0 ?_
    all_goals
     refine Z1m (k:=?_)
    all_goals
     refine Z1s (k:=?_)
    all_goals
     refine Z4E ?_
    all_goals
     skip;refine Z1u (k:=Zb (k:=Z3 (k:=Z1l (k:=ZJ (k:=Zi (k:=Z1q (k:=?_)))))));refine⟨_,[(25,_)],[0,0,0,0,0],[_],?_,Kc,rfl,k+1,_,rfl,rfl,rfl,K1,(by rw[aaC K1,<-hW]<;>rfl),by simp[hWl]⟩
     omega
 simp only[bz,reduceCtorEq] at hc
 all_goals
  refine Z1n (k:=Z1o (k:=Z1o (k:=Z1p (k:=Zb (k:=Z4I ?_)))));obtain rfl:k=64:=K1;refine Z4z ?_;refine OW.pure rfl rfl rfl (PV.qQ (i:=4) Ix rfl rfl rfl K5) ?_;refine OW.alloc (Jr) rfl rfl rfl rfl rfl (fun B9=>?_);refine Z1v (k:=Zi (k:=Zb (k:=Ze (k:=Ze (k:=Z4z ?_)))));refine OW.pure rfl rfl rfl (PV.uC (oh hK) Ix K6 rfl rfl K5) ?_;refine OW.put 79 (.agg (dm ks).toArray) rfl (by rw[bU (by rw[gr];omega)]) ?_
  refine ZJ (k:=Zi (k:=Zb (k:=Z1j (k:=?_))));refine CW.av [2,4,5,8,9,11,79] 1 rfl rfl (fun mm mods Hm=>∃k:Nat,∃v:bv,mm=64-k/\mods=[(80,J k)]/\Hm=[HP.aw B9 406 (dm v)]/\k<=64/\v=vN st ks W k/\v.length=8) (64) ?_ ?_
  ·exact⟨[(80,_)],Kc,0,_,rfl,rfl,rfl,K1,rfl,hst⟩
  rintro _ _ _ ⟨k,v,rfl,rfl,rfl,hk2,hv,hv8⟩;refine Ze (k:=Z3 (k:=Z1k (k:=Zi (k:=Zb (k:=Z4I ?_)))));refine CW.cond rfl (fun hc=>?_) (fun hc=>?_)
  ·simp only[bz,reduceCtorEq] at hc
   all_goals
    refine ZB (k:=Zb (k:=Ze (k:=Z1j (k:=Ze (k:=Z3 (k:=ZJ (k:=Z1w (k:=Zf (k:=Zf (k:=Zi (k:=Zb (k:=Z4I ?_))))))))))));have hsh:(sh v).length=8:=by simp[sh,hv8]
    refine Z1x (k:=?_)
    all_goals
     refine E.AW.first 0 rfl K0 K0 K0 rfl rfl rfl (PV.wT Ux Jx rfl rfl rfl (E.tn K1) K1) ?_
    all_goals
     refine E.AW.first 1 rfl K0 K0 K0 rfl rfl rfl (PV.pL (i:=0) Nx rfl rfl rfl K5) ?_
    all_goals
     refine Z1y (k:=?_)
    all_goals
     refine E.AW.first 3 rfl K0 K0 K0 rfl rfl rfl (PV.wT Ux Jx rfl rfl rfl (E.tn K1) K1) ?_
    all_goals
     refine E.AW.first 4 rfl K0 K0 K0 rfl rfl rfl (PV.pL (i:=0) Nx rfl rfl rfl K5) ?_
    all_goals
     refine E.AW.first 7 rfl K0 K0 K0 rfl rfl rfl (PV.wT Ux Jx rfl rfl rfl (E.tn K1) K1) ?_
    all_goals
     refine E.AW.first 8 rfl K0 K0 K0 rfl rfl rfl (PV.pL (i:=0) Nx rfl rfl rfl K5) ?_
    all_goals
     refine Z1z (k:=?_)
    all_goals
     refine Z1A (k:=?_)
    all_goals
     refine E.AW.first 11 rfl K0 K0 K0 rfl rfl rfl (PV.ab2 rfl rfl rfl) ?_
    all_goals
     refine E.AW.first 12 rfl K0 K0 K0 rfl rfl rfl (PV.wT Ux Jx rfl rfl rfl (E.tn K1) K1) ?_
    all_goals
     refine E.AW.first 13 rfl K0 K0 K0 rfl rfl rfl (PV.pL (i:=0) Nx rfl rfl rfl K5) ?_
    all_goals
     refine E.AW.first 14 rfl K0 K0 K0 rfl rfl rfl (PV.ad9 rfl rfl) ?_
    all_goals
     refine Z1B (k:=?_)
    all_goals
     refine Z1C (k:=?_)
    all_goals
     refine E.AW.first 17 rfl K0 K0 K0 rfl rfl rfl (PV.ab2 rfl rfl rfl) ?_
    all_goals
     refine E.AW.first 18 rfl K0 K0 K0 rfl rfl rfl (PV.ad8 rfl rfl rfl) ?_
    all_goals
     refine Z1D (k:=?_)
    all_goals
     refine E.AW.first 22 rfl K0 K0 K0 rfl rfl rfl (PV.move rfl rfl) ?_
    all_goals
     refine E.AW.first 23 rfl K0 K0 K0 rfl rfl rfl (PV.wT Ux Jx rfl rfl rfl rfl K1) ?_
    all_goals
     refine E.AW.first 24 rfl K0 K0 K0 rfl rfl rfl (PV.pL (i:=1) Nx rfl rfl rfl K5) ?_
    all_goals
     refine Z4G ?_
    all_goals
     refine OW.o6 Mx rfl rfl rfl rfl rfl rfl _ (fun w hw=>nC _ M3 A8 3 [6,11,25] w ((hw.aL (i:=2) rfl).mem (A:=some ⟨M3,0,.none⟩) (xs:=[.slice A8 3 3]) K7) ((hw.aL (i:=2) rfl).mem (A:=A8) (xs:=ints [6,11,25]) K7) K6 K6) ?_;rintro _ _ ⟨rfl,rfl⟩
    all_goals
     refine Z1E (k:=?_)
    all_goals
     refine E.AW.first 6 rfl K0 K0 K0 rfl rfl rfl (PV.add rfl rfl rfl) ?_
    all_goals
     refine E.AW.first 19 rfl K0 K0 K0 rfl rfl rfl (PV.add rfl rfl rfl) ?_
    all_goals
     refine E.AW.first 21 rfl K0 K0 K0 rfl rfl rfl (PV.add rfl rfl rfl) ?_
    all_goals
     refine E.AW.first 25 rfl K0 K0 K0 rfl rfl rfl (PV.add rfl rfl rfl) ?_
    all_goals
     refine E.AW.first 26 rfl K0 K0 K0 rfl rfl rfl (PV.assign rfl rfl) ?_
    all_goals
     refine Z4E ?_
    all_goals
     skip;refine Zb (k:=Ze (k:=Z4R ?_))
     all_goals
      refine Z1F (k:=?_)
     all_goals
      refine E.AW.first 1 rfl K0 K0 K0 rfl rfl rfl (PV.wT Ux Jx rfl rfl rfl (E.tn K1) K1) ?_
     all_goals
      refine E.AW.first 2 rfl K0 K0 K0 rfl rfl rfl (PV.pL (i:=0) Nx rfl rfl rfl K5) ?_
     all_goals
      refine E.AW.first 4 rfl K0 K0 K0 rfl rfl rfl (PV.wT Ux Jx rfl rfl rfl (E.tn K1) K1) ?_
     all_goals
      refine E.AW.first 5 rfl K0 K0 K0 rfl rfl rfl (PV.pL (i:=0) Nx rfl rfl rfl K5) ?_
     all_goals
      refine E.AW.first 6 rfl K0 K0 K0 rfl rfl rfl (PV.wT Ux Jx rfl rfl rfl (E.tn K1) K1) ?_
     all_goals
      refine E.AW.first 7 rfl K0 K0 K0 rfl rfl rfl (PV.pL (i:=0) Nx rfl rfl rfl K5) ?_
     all_goals
      refine E.AW.first 8 rfl K0 K0 K0 rfl rfl rfl (PV.ab2 rfl rfl rfl) ?_
     all_goals
      refine Z1z (k:=?_)
     all_goals
      refine Z1A (k:=?_)
     all_goals
      refine E.AW.first 11 rfl K0 K0 K0 rfl rfl rfl (PV.wT Ux Jx rfl rfl rfl (E.tn K1) K1) ?_
     all_goals
      refine E.AW.first 12 rfl K0 K0 K0 rfl rfl rfl (PV.pL (i:=0) Nx rfl rfl rfl K5) ?_
     all_goals
      refine E.AW.first 13 rfl K0 K0 K0 rfl rfl rfl (PV.ab2 rfl rfl rfl) ?_
     all_goals
      refine E.AW.first 14 rfl K0 K0 K0 rfl rfl rfl (PV.ad8 rfl rfl rfl) ?_
     all_goals
      refine Z1B (k:=?_)
     all_goals
      refine Z1C (k:=?_)
     all_goals
      refine E.AW.first 17 rfl K0 K0 K0 rfl rfl rfl (PV.wT Ux Jx rfl rfl rfl (E.tn K1) K1) ?_
     all_goals
      refine E.AW.first 18 rfl K0 K0 K0 rfl rfl rfl (PV.pL (i:=0) Nx rfl rfl rfl K5) ?_
     all_goals
      refine E.AW.first 19 rfl K0 K0 K0 rfl rfl rfl (PV.ab2 rfl rfl rfl) ?_
     all_goals
      refine E.AW.first 20 rfl K0 K0 K0 rfl rfl rfl (PV.ad8 rfl rfl rfl) ?_
     all_goals
      refine Z14 (k:=?_)
     all_goals
      refine OW.o6 Mx rfl rfl rfl rfl rfl rfl _ (fun w hw=>nC _ M2 A7 3 [2,13,22] w ((hw.aL (i:=2) rfl).mem (A:=some ⟨M2,0,.none⟩) (xs:=[.slice A7 3 3]) K7) ((hw.aL (i:=2) rfl).mem (A:=A7) (xs:=ints [2,13,22]) K7) K6 K6) ?_;rintro _ _ ⟨rfl,rfl⟩
     all_goals
      refine Z1G (k:=?_)
     all_goals
      refine E.AW.first 21 rfl K0 K0 K0 rfl rfl rfl (PV.add rfl rfl rfl) ?_
     all_goals
      refine E.AW.first 22 rfl K0 K0 K0 rfl rfl rfl (PV.assign rfl rfl) ?_
     all_goals
      refine Z4E ?_
     all_goals
      skip;refine Zb (k:=Z4I ?_);refine CW.gx (T:=[2]) mixed [0] rfl ?_
      all_goals
       refine E.AW.fT 0 rfl K0 K0 K0 rfl rfl rfl (PV.aaW Ux Jx rfl rfl rfl K40) ?_
      all_goals
       refine E.AW.fT 1 rfl K0 K0 K0 rfl rfl rfl (PV.acr Ux Jx rfl rfl rfl K40) ?_
      all_goals
       refine E.AW.jK 2 K0 rfl K0 ?_
      all_goals
       refine OW.Xs (i:=0) Ux Jx rfl rfl rfl rfl rfl rfl rfl hv8 ?_
      all_goals
       refine Z1s (k:=?_)
      all_goals
       refine Z4E ?_
      all_goals
       skip;refine Zb (k:=Ze (k:=Z3 (k:=Z1H (k:=?_))));refine OW.pure rfl rfl rfl (PV.pL (i:=0) Nx rfl rfl rfl K5) ?_;refine ZJ (k:=ZG (k:=Z1H (k:=Z1m (k:=Zi (k:=Zb (k:=Z3 (k:=ZJ (k:=ZJ (k:=ZG (k:=Z1H (k:=Z1m (k:=Zi (k:=Z1u (k:=Zb (k:=Z3 (k:=Z1l (k:=ZJ (k:=Zi (k:=Z1q (k:=?_))))))))))))))))))));refine⟨_,[(80,_)],[0,0,0,0,0,0],[_],?_,Kc,rfl,k+1,sV v (ks.getD k 0) (W.getD k 0),rfl,rfl,rfl,K1,(by rw[hv]<;>rfl),TM _ _ hv8⟩
       omega
  simp only[bz,reduceCtorEq] at hc
  all_goals
   refine Z1n (k:=Z1o (k:=Z1o (k:=Z1p (k:=Zb (k:=Ze (k:=Z4I ?_))))));obtain rfl:k=64:=K1;refine Z3 (k:=ZJ (k:=Zi (k:=Zb (k:=Z1j (k:=?_)))));refine CW.sels [5,0,0,0,0,0] rfl ?_;refine CW.av [2,4,11] 1 rfl rfl (fun mm mods Hm=>∃k:Nat,∃q:bv,mm=8-k/\mods=[(145,J k)]/\Hm=[HP.aw B1 406 (dm q)]/\k<=8/\q=oN st v k/\q.length=8) (8) ?_ ?_
   ·exact⟨[(145,_)],Kc,0,st,rfl,rfl,rfl,K1,rfl,hst⟩
   rintro _ _ _ ⟨k,q,rfl,rfl,rfl,hk3,hq,hq8⟩;refine Ze (k:=Z3 (k:=Z1k (k:=Zi (k:=Zb (k:=Z4I ?_)))));refine CW.cond rfl (fun hc=>?_) (fun hc=>?_)
   ·simp only[bz,reduceCtorEq] at hc
    all_goals
     refine ZB (k:=Zb (k:=Ze (k:=Z1j (k:=Ze (k:=Z3 (k:=ZJ (k:=Zf (k:=Zi (k:=Z4B ?_)))))))));refine CW.gx (T:=[8]) mixed [0,0] rfl ?_
     all_goals
      refine E.AW.fT 0 rfl K0 K0 K0 rfl rfl rfl (PV.move rfl rfl) ?_
     all_goals
      refine E.AW.fT 1 rfl K0 K0 K0 rfl rfl rfl (PV.wT Ux Jx rfl rfl rfl rfl K1) ?_
     all_goals
      refine E.AW.ru [[]] 2 rfl K0 K0 K0 rfl rfl rfl (PV.pL (i:=0) Nx rfl rfl rfl K5) ?_
     all_goals
      refine E.AW.fT 3 rfl K0 K0 K0 rfl rfl rfl (PV.move rfl rfl) ?_
     all_goals
      refine E.AW.fT 4 rfl K0 K0 K0 rfl rfl rfl (PV.wT Ux Jx rfl rfl rfl rfl K1) ?_
     all_goals
      refine E.AW.ru [[]] 5 rfl K0 K0 K0 rfl rfl rfl (PV.pL (i:=1) Nx rfl rfl rfl K5) ?_
     all_goals
      refine E.AW.fT 6 rfl K0 K0 K0 rfl rfl rfl (PV.add rfl rfl rfl) ?_
     all_goals
      refine E.AW.fT 7 rfl K0 K0 K0 rfl rfl rfl (PV.wT Ux Jx rfl rfl rfl rfl K1) ?_
     all_goals
      refine E.AW.jK 8 K0 rfl K0 ?_
     all_goals
      refine Z1m (k:=?_)
     all_goals
      refine Z1s (k:=?_)
     all_goals
      refine Z4E ?_
     all_goals
      skip;refine Z1u (k:=Zb (k:=Z3 (k:=Z1l (k:=ZJ (k:=Zi (k:=Z1q (k:=?_)))))));refine⟨_,[(145,_)],[0,0,0,0,0,0],[_],?_,Kc,rfl,k+1,_,rfl,rfl,rfl,K1,(by rw[hq]<;>rfl),by simp[hq8]⟩
      omega
   simp only[bz,reduceCtorEq] at hc
   all_goals
    refine Z1n (k:=Z1o (k:=Z1o (k:=Z1p (k:=Zb (k:=Z4I ?_)))));obtain rfl:k=8:=K1;refine Z4z ?_;refine OW.pure rfl rfl rfl (PV.qQ (i:=0) Ix rfl rfl rfl K5) ?_;refine OW.jF (i:=4) Js rfl rfl rfl rfl rfl rfl K14 K5 K5 ?_;refine Zi (k:=Zb (k:=Zm (k:=?_)));refine KR.we [] rfl (rv.xg Ix rfl (dU 0 rfl) K5) rfl ?_;exact⟨by rw[hq,hv,hW]<;>rfl,rfl⟩
def XN(m:Nat)(w0:World)(hm:m*1<=140737488355328):
  CO 303 #[.slice none 0 0,J (m:Int)] w0 fun v Hn=>∃A2 c2,v=.slice A2 0 c2/\Hn=[HP.row 5 1 A2 0 c2 []]:=by
 refine Zq ?_;refine Zx (k:=Zy (k:=Zy (k:=Z4y ?_)));refine CW.put 1 (J (m:Int)) rfl K7 ?_;refine ZV (k:=?_);refine Zc ?_ ?_
 ·refine Z4t ?_;intros;refine ZH (k:=Zr (k:=ZI (k:=fun A2 c2 zs2=>Zr (k:=ZH (k:=?_)))));refine Zl ?_;exact⟨_,_,rfl,rfl⟩
 refine Zl ?_;intros;exact⟨_,_,rfl,rfl⟩
def X8(A:am)(c:Nat)(ss:List Yb)(w0:World)(hl:ss.length<=100)(hX:ce w0 A (fl Yb.cs ss))(hs:∀s∈ss,ce w0 s.A (aA s.l))(hf:(fE ss ss.length).length*8<=140737488355328):
  CO 286 #[.slice A ss.length c] w0 fun v Hn=>∃A2 c2,v=.slice A2 (fE ss ss.length).length c2/\Hn=[HP.row 5 1 A2 (fE ss ss.length).length c2 (aA (fE ss ss.length))]:=by
 refine Zq ?_;refine Z4t ?_;refine CW.av [0,9,10] 0 rfl rfl (fun mm mods Hm=>∃k:Nat,mm=ss.length-k/\mods=[(3,J ((fE ss k).length:Int)),(11,J k)]/\Hm=[]/\k<=ss.length) (ss.length) ?_ ?_
 ·exact⟨[(3,_),(11,_)],Kc,0,rfl,by rw[og]<;>rfl,rfl,K1⟩
 rintro _ _ _ ⟨k,rfl,rfl,rfl,hk⟩;refine Zc ?_ ?_
 ·refine Z4u ?_;intro hc;have hsk:=hs _ (Yb.mem (show k<ss.length by omega))
  have hfl:=Al ss (k+1);have hfs:=uD (show k<ss.length by omega)
  have hfn:(fE ss (k+1)).length=(fE ss k).length+(ss.getD k Yb.z).l.length:=by rw[hfs,aF]
  refine Z4t ?_;refine⟨_,[(3,_),(11,_)],[],_,?_,Kc,rfl,k+1,rfl,by rw[hfn]<;>rfl,rfl,K1⟩
  omega
 refine Z4u ?_;intro hc;obtain rfl:k=ss.length:=K1;refine Zg @XN ?_;refine Z4t ?_;intros;refine CW.av [25,26] 1 rfl rfl (fun mm mods Hm=>∃k:Nat,∃D:am,∃e:Nat,mm=ss.length-k/\mods=[(27,J k),(6,.slice D (fE ss k).length e)]/\Hm=[HP.row 5 1 D (fE ss k).length e (aA (fE ss k))]/\k<=ss.length) (ss.length) ?_ ?_
 ·exact⟨[(27,_),(6,_)],Kc,0,_,_,rfl,by rw[og]<;>rfl,by rw[og]<;>rfl,K1⟩
 rintro _ _ _ ⟨k,D,e,rfl,rfl,rfl,hk⟩;refine Zc ?_ ?_
 ·refine Z4u ?_;intros;have hsk:=hs _ (Yb.mem (show k<ss.length by omega))
  have hfl:=Al ss (k+1);have hfs:=uD (show k<ss.length by omega)
  have hfn:(fE ss (k+1)).length=(fE ss k).length+(ss.getD k Yb.z).l.length:=by rw[hfs,aF]
  refine Z4t ?_;refine OW.iP (i:=0) Ux Jx rfl rfl rfl rfl rfl rfl rfl rfl rfl (oh hsk) K3 (fun A1 c1=>?_);refine Z4t ?_;refine⟨_,[(27,_),(6,_)],[0],_,?_,Kc,rfl,k+1,_,_,rfl,by rw[hfs]<;>rfl,by rw[hfs],K1⟩
  omega
 refine Zl ?_;intros;obtain rfl:k=ss.length:=K1;exact⟨_,_,rfl,rfl⟩
def Am(A:am)(c:Nat)(bs:ap)(n:Int)(s:Nat)(S:Nat->Prop)(w0:World)(hS:(HP.row 5 1 A bs.length c (aA bs)).bA S w0)(hb:∀k,S k->k<w0.heap.size)(hz:bs.length<=100000)(hs8:s<=8):
  CF 48 #[.slice A bs.length c,V n,J (s:Int)] w0 S fun v Hn=>∃A2 c2,v=.slice A2 (bs++Dg.bs n s s).length c2/\Hn=[HP.row 5 1 A2 (bs++Dg.bs n s s).length c2 (aA (bs++Dg.bs n s s))]:=by
 refine Zp (HA.au hS hb) ?_;refine Z4t ?_;refine CW.av [1] 1 rfl rfl (fun mm mods Hm=>∃k:Nat,∃D:am,∃e:Nat,mm=s-k/\mods=[(7,J ((s:Int)-1-(k:Int))),(0,.slice D (bs++Dg.bs n s k).length e)]/\Hm=[HP.row 5 1 D (bs++Dg.bs n s k).length e (aA (bs++Dg.bs n s k))]/\k<=s) (s) ?_ ?_
 ·exact⟨[(7,_),(0,_)],Kc,0,A,c,rfl,by simp[Dg.bs],by simp[Dg.bs],K1⟩
 rintro _ _ _ ⟨k,D,e,rfl,rfl,rfl,hk⟩;have hbl:(bs++Dg.bs n s k).length=bs.length+k:=by simp
 refine Zc ?_ ?_
 ·refine Z4t ?_;intros;refine Z18 hO (k:=fun A1=>?_);refine OW.np (j:=0) (i:=0) (eo (n/256^(s-1-k))) (by exact PF n K1 hs8) Ux Jx rfl rfl rfl rfl rfl rfl rfl rfl rfl rfl K3 (fun A2 c2=>?_)
  refine Z4t ?_;refine⟨_,[(7,_),(0,_)],[0],_,?_,Kc,rfl,k+1,_,_,rfl,by rw[sL,<-aQ,show(s:Int)-1-((k+1:Nat):Int)=(s:Int)-1-k-1 by omega],by rw[sL,<-aQ],K1⟩
  omega
 refine Zl ?_;intros;obtain rfl:k=s:=K1;exact⟨_,_,rfl,rfl⟩
def SX(x0 x1 x2 x3 x4 x5 x6 x7:Int)(b:ap)(w0:World)(hb8:b.length=64)(hK:ce w0 (some ⟨1,0,.none⟩) (dm ks)):CV 302 #[.agg #[O x0,O x1,O x2,O x3,O x4,O x5,O x6,O x7],.agg (aA b).toArray] w0 (.agg #[O ((Dg.cmp [x0,x1,x2,x3,x4,x5,x6,x7] b).getD 0 0),O ((Dg.cmp [x0,x1,x2,x3,x4,x5,x6,x7] b).getD 1 0),O ((Dg.cmp [x0,x1,x2,x3,x4,x5,x6,x7] b).getD 2 0),O ((Dg.cmp [x0,x1,x2,x3,x4,x5,x6,x7] b).getD 3 0),O ((Dg.cmp [x0,x1,x2,x3,x4,x5,x6,x7] b).getD 4 0),O ((Dg.cmp [x0,x1,x2,x3,x4,x5,x6,x7] b).getD 5 0),O ((Dg.cmp [x0,x1,x2,x3,x4,x5,x6,x7] b).getD 6 0),O ((Dg.cmp [x0,x1,x2,x3,x4,x5,x6,x7] b).getD 7 0)]):=by
 have:=Yu [x0,x1,x2,x3,x4,x5,x6,x7] b w0 rfl hb8 hK;rw[OR (yZ rfl)] at this;exact this
def xi(x0 x1 x2 x3 x4 x5 x6 x7:Int)(A:am)(n c:Nat)(len:Int)(w0:World)(hl:0<=len/\len<=8192)(hn:(n:Int)=len%64):
  CV 284 #[.agg #[O x0,O x1,O x2,O x3,O x4,O x5,O x6,O x7,.slice A n c,V len]] w0 (J 0):=by
 refine Zq ?_;refine Zk ?_;intros;exact⟨rfl,rfl⟩
def gW(x0 x1 x2 x3 x4 x5 x6 x7:Int)(A:am)(c:Nat)(l:ap)(w0:World)(hl:l.length<=100000)(hc:l.length<=c)(hX:ce w0 A (aA l))(hK:ce w0 (some ⟨1,0,.none⟩) (dm ks)):
  CO 285 #[.agg #[O x0,O x1,O x2,O x3,O x4,O x5,O x6,O x7],.slice A l.length c] w0 fun v Hn=>∃A2 c2,v=.tuple #[.agg #[O ((gB [x0,x1,x2,x3,x4,x5,x6,x7] l (l.length/64)).getD 0 0),O ((gB [x0,x1,x2,x3,x4,x5,x6,x7] l (l.length/64)).getD 1 0),O ((gB [x0,x1,x2,x3,x4,x5,x6,x7] l (l.length/64)).getD 2 0),O ((gB [x0,x1,x2,x3,x4,x5,x6,x7] l (l.length/64)).getD 3 0),O ((gB [x0,x1,x2,x3,x4,x5,x6,x7] l (l.length/64)).getD 4 0),O ((gB [x0,x1,x2,x3,x4,x5,x6,x7] l (l.length/64)).getD 5 0),O ((gB [x0,x1,x2,x3,x4,x5,x6,x7] l (l.length/64)).getD 6 0),O ((gB [x0,x1,x2,x3,x4,x5,x6,x7] l (l.length/64)).getD 7 0)],.slice A2 (l.drop (64*(l.length/64))).length c2]/\Hn=[]/\(∀w G,Rd w G A (aA l)->Rd w G A2 (aA (l.drop (64*(l.length/64))))):=by
 refine Zq ?_;refine Z4t ?_;intro B1 _;refine Z1I (k:=?_);refine CW.av [2,4] 1 rfl rfl (fun mm mods Hm=>∃k:Nat,∃s:bv,∃Ak:am,∃ck:Nat,mm=(l.length/64)-k/\mods=[(1,.slice Ak (l.length-64*k) ck)]/\Hm=[HP.aw B1 406 [O (s.getD 0 0),O (s.getD 1 0),O (s.getD 2 0),O (s.getD 3 0),O (s.getD 4 0),O (s.getD 5 0),O (s.getD 6 0),O (s.getD 7 0)]]/\64*k<=l.length/\s=gB [x0,x1,x2,x3,x4,x5,x6,x7] l k/\s.length=8/\(∀w G,Rd w G A (aA l)->Rd w G Ak (aA (l.drop (64*k))))/\l.length-64*k<=ck) ((l.length/64)) ?_ ?_
 ·exact⟨[(1,_)],Kc,0,[x0,x1,x2,x3,x4,x5,x6,x7],A,c,rfl,rfl,rfl,K1,rfl,rfl,fun w G h=>h,K1⟩
 rintro _ _ _ ⟨k,s,Ak,ck,rfl,rfl,rfl,hk,hs,hs8,htr,hck⟩;refine Zc ?_ ?_
 ·refine Z4u ?_;intros;refine CW.gx (T:=[5]) mixed [0] rfl ?_;iterate 3 refine Z4v ?_
  refine E.AW.fT 3 rfl K0 K0 K0 rfl rfl rfl (PV.uC (fun w hw=>htr w _ (hw.rd hX)) Ix K6 rfl rfl K5) ?_;refine E.AW.put 12 (.agg (aA ((l.drop (64*k)).take 64)).toArray) rfl (by simp[aA,zH]) ?_
  refine ZR (k:=?_);refine Zg @SX ?_;refine Z4w ?_;refine E.AW.jK 5 K0 rfl K0 ?_;refine Z1v (k:=Z4t ?_);refine OW.pure rfl rfl rfl (PV.D4 (lo:=64) Ux Jx rfl rfl rfl K1) ?_;refine OW.put 15 (.slice (fu Ak ck 64) (l.length-64*(k+1)) (ck-64)) rfl (by first|(congr 1;done)|(congr 1;omega)) ?_
  refine Z4t ?_
  refine⟨_,[(1,_)],[0,0],[_],?_,Kc,rfl,k+1,Dg.cmp [s.getD 0 0,s.getD 1 0,s.getD 2 0,s.getD 3 0,s.getD 4 0,s.getD 5 0,s.getD 6 0,s.getD 7 0] ((l.drop (64*k)).take 64),_,_,rfl,rfl,rfl,K1,(by rw[<-MQ hs8,hs]<;>rfl),yZ rfl,(fun w G h=>by
  have h9:=qD (k:=64) (m:=l.length-64*(k+1)) (htr w G h) K25 K25;rw[List.drop_drop,bU K25] at h9;rw[show 64*(k+1)=64*k+64 by omega]
  exact h9),K1⟩
  omega
 refine Z4u ?_;intros;refine Z4z ?_;iterate 2 refine Z4x ?_
 refine Z1J (k:=Zr (k:=Z1K (k:=?_)));obtain rfl:k=(l.length/64):=K1;exact⟨Ak,ck,by rw[hs,bN],rfl,htr⟩
instance(a b c d e f g h:Int):CB 406 #[(0,O a),(1,O b),(2,O c),(3,O d),(4,O e),(5,O f),(6,O g),(7,O h)] ((.agg #[O a,O b,O c,O d,O e,O f,O g,O h])):=⟨fun _=>K0⟩
instance MO{a:Int}{b:Int}{c:Int}{d:Int}{e:Int}{f:Int}{g:Int}{h:Int}:CB 408 #[(0,.agg #[O a,O b,O c,O d,O e,O f,O g,O h])] ((.agg #[O a,O b,O c,O d,O e,O f,O g,O h,.slice none 0 0,V 0])):=⟨fun _=>K0⟩
instance yw{a:Int}{b:Int}{c:Int}{d:Int}{e:Int}{f:Int}{g:Int}{h:Int}{i:am}{j k:Nat}{l:Int}:CB 408 #[(0,.agg #[O a,O b,O c,O d,O e,O f,O g,O h]),(1,.slice i j k),(2,V l)] ((.agg #[O a,O b,O c,O d,O e,O f,O g,O h,.slice i j k,V l])):=⟨fun _=>K0⟩
def pS{a:am}{b c:Nat}{d:am}{e f:Nat}(w:World):(Instr.buildSlice 208 2 #[(0,.slice a b c),(1,.slice d e f)]).run prog w=.ok (.slice (some ⟨w.heap.size,0,none⟩) 2 2) (w.alloc (.cells #[.slice a b c,.slice d e f] 22)):=K0
def Ek(R:am)(c9:Nat)(A:am)(c:Nat)(l:ap)(w0:World)(hR:ce w0 R (fl Yb.cs [Yb.z,⟨A,c,l⟩]))(hl:l.length<=100000)(hr:ce w0 A (aA l)):CO 286 #[.slice R 2 c9] w0 fun v Hn=>∃A2 c2,v=.slice A2 l.length c2/\Hn=[HP.row 5 1 A2 l.length c2 (aA l)]:=by
 have hf:fE [Yb.z,⟨A,c,l⟩] 2=l:=by simp[fE,Yb.z]
 have h:=X8 R c9 [Yb.z,⟨A,c,l⟩] w0 (by simp) hR (fun s hs=>by
  simp only[er,bg,or_false] at hs;rcases hs with rfl|rfl
  ·exact Rd.nil
  exact hr) (by show(fE _ 2).length*8<=_;rw[hf];omega)
 simp only[bI,gL,jt,Nat.reduceAdd] at h;rw[hf] at h;exact h
def I6(x0 x1 x2 x3 x4 x5 x6 x7:Int)(A:am)(c:Nat)(l:ap)(w0:World)(hl:l.length<=8192)(hX:ce w0 A (aA l))(hK:ce w0 (some ⟨1,0,.none⟩) (dm ks)):
  CO 253 #[.agg #[O x0,O x1,O x2,O x3,O x4,O x5,O x6,O x7,.slice none 0 0,V 0],.slice A l.length c] w0 fun v Hn=>∃A2 c2,v=.tuple #[.agg #[O ((gB [x0,x1,x2,x3,x4,x5,x6,x7] l (l.length/64)).getD 0 0),O ((gB [x0,x1,x2,x3,x4,x5,x6,x7] l (l.length/64)).getD 1 0),O ((gB [x0,x1,x2,x3,x4,x5,x6,x7] l (l.length/64)).getD 2 0),O ((gB [x0,x1,x2,x3,x4,x5,x6,x7] l (l.length/64)).getD 3 0),O ((gB [x0,x1,x2,x3,x4,x5,x6,x7] l (l.length/64)).getD 4 0),O ((gB [x0,x1,x2,x3,x4,x5,x6,x7] l (l.length/64)).getD 5 0),O ((gB [x0,x1,x2,x3,x4,x5,x6,x7] l (l.length/64)).getD 6 0),O ((gB [x0,x1,x2,x3,x4,x5,x6,x7] l (l.length/64)).getD 7 0),.slice A2 (l.drop (64*(l.length/64))).length c2,V l.length],J 0]/\Hn=[HP.row 5 1 A2 ((l.drop (64*(l.length/64)))).length c2 (aA ((l.drop (64*(l.length/64)))))]:=by
 refine Zq ?_;refine Zg @xi ?_;refine Z4t ?_;intros;refine Z1h (k:=?_);refine OW.put 20 (V 8192) rfl rfl ?_;refine Z4u ?_;intros;refine ZQ (k:=?_);iterate 5 refine Z4v ?_
 refine E.AW.two 5 11 K0 rfl rfl ?_ ?_
 focus
  refine OW.buildSlice (Et:=22) (sz:=1) (cs:=fl Yb.cs [Yb.z,(⟨A,c,l⟩:Yb)]) (ps:=[(0,.tmp 27),(1,.tmp 28)]) rfl rfl rfl rfl rfl rfl K4 (fun w=>pS w) (fun A3=>?_);refine Z4w ?_;refine E.AW.two 6 11 K0 rfl rfl ?_ ?_
  focus
   refine Zg @Ek ?_;refine Z4w ?_;intro AS cS;refine E.AW.two 7 11 K0 rfl rfl ?_ ?_
   focus
    refine Zg @gW ?_;refine Z4w ?_;iterate 4 refine Z4v ?_
    intro AB cB htr _;refine Z1L (k:=Z1v (k:=Z4w ?_));iterate 2 refine Z4v ?_
   rotate_right
   focus
    refine Zo (k:=Z4w ?_);intros;refine Z4O ?_;refine Zg @gW ?_;refine Z4w ?_;iterate 3 refine Z4v ?_
    intro AB cB htr;refine Z1L (k:=Z1v (k:=Z4w ?_));iterate 2 refine Z4v ?_
  rotate_right
  focus
   refine Zo (k:=Z4w ?_);intros;refine Z4N ?_;refine Zg @Ek ?_;refine Z4w ?_;intro AS cS;refine Z4O ?_;refine Zg @gW ?_;refine Z4w ?_;iterate 3 refine Z4v ?_
   intro AB cB htr;refine Z1L (k:=Z1J (k:=Z4w ?_));iterate 2 refine Z4v ?_
 rotate_right
 focus
  refine Zo (k:=Z4w ?_);intros;refine Z4G ?_;refine OW.buildSlice (Et:=22) (sz:=1) (cs:=fl Yb.cs [Yb.z,(⟨A,c,l⟩:Yb)]) (ps:=[(0,.tmp 27),(1,.tmp 28)]) rfl rfl rfl rfl rfl rfl K4 (fun w=>pS w) (fun A8=>?_);refine Zj (k:=Z4N ?_);refine Zg @Ek ?_;refine Z4w ?_;intro AS cS;refine Z4O ?_;refine Zg @gW ?_;refine Z4w ?_;iterate 3 refine Z4v ?_
  intro _ _ htr;refine Z1L (k:=?_);refine OW.jF (i:=2) Js rfl rfl rfl rfl rfl rfl K14 K5 K5 ?_;refine Z4w ?_;iterate 2 refine Z4v ?_
 all_goals
  refine Z4u ?_;refine CW.gx (T:=[10]) mixed [0,3] rfl ?_;iterate 8 refine Z4v ?_
  refine Z10 (k:=?_);refine OW.call Mx rfl rfl rfl rfl rfl rfl _ (fun w hw=>fF _ _ (l.drop (64*(l.length/64))) w K25 (htr w _ (by first|exact hw.bh (i:=0) rfl|exact hw.bh (i:=1) rfl|exact hw.bh (i:=2) rfl))) ?_;rintro _ _ ⟨AK,cK,rfl,rfl⟩
  refine Z4w ?_;refine E.AW.put 42 (V l.length) rfl (aq (Value.int .u64) K1) ?_;refine E.AW.fT 9 rfl K0 K0 K0 rfl rfl rfl (PV.build (ps:=[(0,.tmp 34),(1,.tmp 36),(2,.tmp 42)]) rfl rfl (fun w=>(yw).h w)) ?_;refine Z1M (k:=Zr (k:=Z4Q ?_));exact⟨AK,cK,rfl,rfl⟩
def LQ(w0:World):
  CV 254 #[] w0 (.agg #[O 1779033703,O 3144134277,O 1013904242,O 2773480762,O 1359893119,O 2600822924,O 528734635,O 1541459225,.slice none 0 0,V 0]):=by
 refine Zq ?_;refine Zx (k:=Z4y ?_);intros;refine Z3 (k:=Z4x ?_);refine OW.pure rfl rfl rfl (PV.build (ps:=[(0,.tmp 1)]) rfl rfl (fun w=>(MO).h w)) ?_;refine Zk ?_;exact⟨rfl,rfl⟩
instance:CB 54 #[] ((.agg #[U 0,U 0,U 0,U 0,U 0,U 0,U 0,U 0,U 0,U 0,U 0,U 0,U 0,U 0,U 0,U 0,U 0,U 0,U 0,U 0,U 0,U 0,U 0,U 0,U 0,U 0,U 0,U 0,U 0,U 0,U 0,U 0])):=⟨fun _=>K0⟩
def Rk(A:am)(c:Nat)(bs o:ap)(n:Int)(s:Nat)(S:Nat->Prop)(w0:World)(hS:(HP.row 5 1 A bs.length c (aA bs)).bA S w0)(hb:∀k,S k->k<w0.heap.size)(hz:bs.length<=100000)(hs8:s<=8)(ho:o=bs++Dg.bs n s s):CF 48 #[.slice A bs.length c,V n,J (s:Int)] w0 S fun v Hn=>∃A2 c2,v=.slice A2 o.length c2/\Hn=[HP.row 5 1 A2 o.length c2 (aA o)]:=by
 subst ho;exact Am A c bs n s S w0 hS hb hz hs8
def aaf(x0 x1 x2 x3 x4 x5 x6 x7:Int)(A:am)(c:Nat)(r:ap)(len:Int)(w0:World)(hlen:0<=len/\len<=8192)(hn:(r.length:Int)=len%64)(hX:ce w0 A (aA r))(hK:ce w0 (some ⟨1,0,.none⟩) (dm ks)):
  CV 255 #[.agg #[O x0,O x1,O x2,O x3,O x4,O x5,O x6,O x7,.slice A r.length c,V len]] w0 (.tuple #[.agg (aA (fin [x0,x1,x2,x3,x4,x5,x6,x7] r len)).toArray,J 0]):=by
 have hr64:r.length<64:=K1;obtain⟨z,hz⟩:∃z,z=zc r.length:=⟨_,rfl⟩;have hzz:z=(119-r.length)%64:=hz;obtain⟨P9,hP9⟩:∃P9,P9=r++[128]++List.replicate z 0++Dg.bs (8*len) 8 8:=⟨_,rfl⟩;have hpz:P9.length=r.length+1+z+8:=by simp only[hP9,aF,eZ,bI,gL,eS]
 obtain⟨s9,hs9⟩:∃s9,s9=(gB [x0,x1,x2,x3,x4,x5,x6,x7] P9 (P9.length/64)):=⟨_,rfl⟩;have hs8:s9.length=8:=by rw[hs9];exact pX rfl _
 refine Zq ?_;refine Zg @xi ?_;refine Zg @fF ?_;intros;refine OW.bsl 1 _ rfl rfl (fun w=>hO _ w) (fun A3=>?_);refine OW.np (j:=0) (i:=0) (128) (by rfl) Ux Jx rfl rfl rfl rfl rfl rfl rfl rfl rfl rfl K3 (fun A4 c4=>?_)
 refine Z4t ?_;refine CW.av [1,2] 1 rfl rfl (fun mm mods Hm=>∃j:Nat,∃D:am,∃e:Nat,mm=z-j/\mods=[(5,.slice D (r++[128]++List.replicate j 0).length e)]/\Hm=[HP.row 5 1 D ((r++[128]++List.replicate j 0)).length e (aA ((r++[128]++List.replicate j 0)))]/\j<=z) (z) ?_ ?_
 ·exact⟨[(5,_)],Kc,0,A4,c4,rfl,(by rw[tv,bp]),(by rw[tv,bp]),K1⟩
 rintro _ _ _ ⟨j,D,e,rfl,rfl,rfl,hj⟩;have hlp:(r++[128]++List.replicate j 0).length=r.length+1+j:=by simp only[aF,eZ,bI,gL]
 refine Zc ?_ ?_
 ·refine Z4t ?_;intros;refine OW.bsl 1 _ rfl rfl (fun w=>hO _ w) (fun A5=>?_);refine OW.np (j:=0) (i:=0) (0) (by rfl) Ux Jx rfl rfl rfl rfl rfl rfl rfl rfl rfl rfl K3 (fun A6 c6=>?_)
  refine Z4t ?_;refine⟨_,[(5,_)],[0,0,0],[_],?_,Kc,rfl,j+1,_,_,rfl,(by rw[List.replicate_succ',<-aQ]),(by rw[List.replicate_succ',<-aQ]),K1⟩
  omega
 have hlp:(r++[128]++List.replicate j 0).length=r.length+1+j:=by simp only[aF,eZ,bI,gL]
 refine Z4u ?_;intro hc;obtain rfl:z=j:=K1;refine Z19 (k:=?_);iterate 5 refine Z4v ?_
 refine E.AW.first 5 rfl K0 K0 K0 rfl rfl rfl (PV.mul rfl rfl rfl) ?_;refine Z1N (k:=?_);refine E.AW.two 6 11 K0 rfl rfl ?_ ?_
 focus
  refine Zh @Rk ?_;refine Z4w ?_;intro AD cD;refine E.AW.two 7 11 K0 rfl rfl ?_ ?_
  focus
   refine Zg @gW ?_;refine Z4w ?_;iterate 4 refine Z4v ?_
   intro AB cB htr _;refine Z1L (k:=Z1v (k:=Z4w ?_));iterate 2 refine Z4v ?_
  rotate_right
  focus
   refine Zo (k:=Z4w ?_);intros;refine Z4O ?_;refine Zg @gW ?_;refine Z4w ?_;iterate 3 refine Z4v ?_
   intro AB cB htr;refine Z1L (k:=Z1v (k:=Z4w ?_));iterate 2 refine Z4v ?_
 rotate_right
 focus
  refine Zo (k:=Z4w ?_);intros;refine Z1N (k:=Z4N ?_);refine Zh @Rk ?_;refine Z4w ?_;intro AD cD;refine Z4O ?_;refine Zg @gW ?_;refine Z4w ?_;iterate 3 refine Z4v ?_
  intros;refine Z1L (k:=Z1J (k:=Z4w ?_));iterate 2 refine Z4v ?_
 all_goals
  refine Zx (k:=Zy (k:=ZV (k:=Z3 (k:=Z4x ?_))));refine OW.put 40 (.agg (dm s9).toArray) rfl (by rw[OR hs8,hs9]) ?_
  refine Z4t ?_;refine CW.av [2,40] 1 rfl rfl (fun mm mods Hm=>∃k:Nat,∃D:am,∃e:Nat,mm=8-k/\mods=[(41,J k),(8,.slice D (words s9 k).length e)]/\Hm=[HP.row 5 1 D (words s9 k).length e (aA (words s9 k))]/\k<=8) (8) ?_ ?_
  ·exact⟨[(41,_),(8,_)],Kc,0,none,0,rfl,rfl,rfl,K1⟩
  rintro _ _ _ ⟨k,D,e,rfl,rfl,rfl,hk⟩;refine Zc ?_ ?_
  ·refine Z4t ?_;intro hc;refine Z1w (k:=?_);have hwl:=qO s9 k K1;refine Z4t ?_;refine OW.aU Mx rfl rfl rfl rfl rfl rfl _ 0 rfl (fun w S hw hs hb hc=>Rk D e (words s9 k) (words s9 (k+1)) (IntKind.u64.wrap (s9.getD k 0)) 4 S w hs (fun k hk=>(hb k hk).1) K1 K1 (uL K1)) ?_;rintro _ _ ⟨AP,cP,rfl,rfl⟩;refine Z4t ?_;refine⟨_,[(41,_),(8,_)],[0,0,0,0,0],[_],?_,Kc,rfl,k+1,_,_,rfl,rfl,rfl,K1⟩;omega
  refine Z4u ?_;intros;obtain rfl:k=8:=K1;have hw32:=qO s9 8 K1;refine Z4z ?_;iterate 3 refine Z4x ?_
  refine OW.put 51 (.agg (aA (words s9 8)).toArray) rfl (by rw[bU (by rw[dC];omega)]) ?_
  refine OW.jF (i:=3) Js rfl rfl rfl rfl rfl rfl K14 K5 K5 ?_;refine Zr (k:=Z1K (k:=?_));exact⟨by rw[hs9,hP9,hz]<;>rfl,rfl⟩
def zl(A:am)(c:Nat)(l:ap)(w0:World)(hl:l.length<=8192)(hX:ce w0 A (aA l))(hK:ce w0 (some ⟨1,0,.none⟩) (dm ks)):
  CV 219 #[.slice A l.length c] w0 (.tuple #[.agg (aA (sum l)).toArray,J 0]):=by
 refine Zq ?_;refine Zg @LQ ?_;refine Zg @I6 ?_;refine Zg @aaf ?_;have hf32:=Dg.qm (s:=[(gB Dg.start l (l.length/64)).getD 0 0,(gB Dg.start l (l.length/64)).getD 1 0,(gB Dg.start l (l.length/64)).getD 2 0,(gB Dg.start l (l.length/64)).getD 3 0,(gB Dg.start l (l.length/64)).getD 4 0,(gB Dg.start l (l.length/64)).getD 5 0,(gB Dg.start l (l.length/64)).getD 6 0,(gB Dg.start l (l.length/64)).getD 7 0]) rfl (l.drop (64*(l.length/64))) (l.length:Int);iterate 2 refine Z4x ?_
 intros;refine OW.jF (i:=2) Js rfl rfl rfl rfl rfl rfl K14 K5 K5 ?_;refine Zr (k:=Z1K (k:=?_));exact⟨aq (fun s=>Value.tuple #[.agg (aA (fin s (l.drop (64*(l.length/64))) l.length)).toArray,J 0]) (MQ (pX (st:=Dg.start) (l:=l) rfl (l.length/64))).symm,rfl⟩
def w4(A:am)(c:Nat)(key:ap)(m:UInt8)(w0:World)(hk1:1<=key.length)(hk2:key.length<=64)(hX:ce w0 A (aA key)):
  CO 224 #[.slice A key.length c,U (m.toNat:Int)] w0 fun v Hn=>∃A2 c2,v=.slice A2 (masked key m).length c2/\Hn=[HP.row 5 1 A2 (masked key m).length c2 (aA (masked key m))]:=by
 obtain⟨ad,hA,_,_⟩:=hX K17;have hml:=n9 key m hk2;have hx0:(key++List.replicate (64-key.length) 0).length=64:=by simp;omega
 refine Zq ?_;refine Z4t ?_;refine OW.Pn 64 Ux Jx rfl rfl rfl rfl rfl rfl rfl K6 K6 (fun AN=>?_);refine Zx (k:=Z4z ?_);iterate 2 refine Z4x ?_
 refine OW.put 9 (.slice (some ad) key.length c) rfl (by rw[hA]) ?_
 refine OW.OM (i:=0) (cs:=aA key) Ux Jx rfl rfl rfl rfl rfl rfl rfl (by rw[dC];exact(nv K1).symm) K6 (fun w hw=>by rw[<-hA];exact hw.rd hX) (mJ key) ?_
 refine Z4u ?_;refine CW.bO 0 (HP.row 5 1 AN 64 64 (aA (Ae (key++List.replicate (64-key.length) 0) m 0))) rfl (aq (HP.row 5 1 AN 64 64) (show aA key++(aA (List.replicate 64 0)).drop (aA key).length=aA (Ae (key++List.replicate (64-key.length) 0) m 0) by rw[QE,dC];unfold aA;rw[<-List.map_drop,List.drop_replicate,<-dZ])) ?_
 refine Z4t ?_;refine CW.av [1,5,12] 1 rfl rfl (fun mm mods Hm=>∃k:Nat,mm=64-k/\mods=[(13,J k)]/\Hm=[HP.row 5 1 AN 64 64 (aA (Ae (key++List.replicate (64-key.length) 0) m k))]/\k<=64) (64) ?_ ?_
 ·exact⟨[(13,_)],Kc,0,rfl,rfl,rfl,K1⟩
 rintro _ _ _ ⟨k,rfl,rfl,rfl,hk⟩;refine Zc ?_ ?_
 ·have hmk:(Ae (key++List.replicate (64-key.length) 0) m k).length=64:=by rw[TF];exact hx0
  refine Z4t ?_;intros;refine OW.pure rfl rfl rfl (PV.V7 (q:=m) rfl rfl rfl) ?_;refine Z4t ?_;refine OW.Cy (i:=0) Js rfl rfl rfl rfl rfl rfl K1 ?_;refine Z4t ?_;refine⟨_,[(13,_)],[0],[_],?_,Kc,rfl,k+1,rfl,rfl,(by rw[P8 K1]),K1⟩
  omega
 refine Zl ?_;intros;obtain rfl:k=64:=K1;have e9:(Ae (key++List.replicate (64-key.length) 0) m 64)=masked key m:=SN hx0.symm;exact⟨AN,64,by rw[hml],by rw[e9,hml]⟩
def W5(A:am)(c:Nat)(key:ap)(C:am)(e:Nat)(b:ap)(w0:World)(hk1:1<=key.length)(hk2:key.length<=64)(hbl:b.length<=8000)(hX:ce w0 A (aA key))(hY:ce w0 C (aA b))(hK:ce w0 (some ⟨1,0,.none⟩) (dm ks)):
  CV 191 #[.slice A key.length c,.slice C b.length e] w0 (.tuple #[.agg (aA (Dg.tag key b)).toArray,J 0]):=by
 have hm1:=n9 key 54 hk2;have hm2:=n9 key 92 hk2;have hsl:=gh (masked key 54++b);refine Zq ?_;refine Z4t ?_;intro _ hc;refine OW.call Mx rfl rfl rfl rfl rfl rfl _ (fun w hw=>w4 A c key 54 w hk1 hk2 (hw.rd hX)) ?_;rintro _ _ ⟨AM,cM,rfl,rfl⟩;refine Z4t ?_;refine OW.iP (i:=0) Ux Jx rfl rfl rfl rfl rfl rfl rfl rfl rfl (oh hY) K3 (fun A2 c2=>?_);refine Zg @zl ?_;iterate 4 refine Z4x ?_
 intro B3;refine Z1v (k:=Zx (k:=Zy (k:=Z1c (k:=Z4v ?_))));refine E.AW.first 2 rfl K0 K0 K0 rfl rfl rfl (PV.RY Ux Jx rfl rfl) ?_;refine Z1O (k:=?_);refine OW.call Mx rfl rfl rfl rfl rfl rfl _ (fun w hw=>w4 A c key 92 w hk1 hk2 (hw.rd hX)) ?_;rintro _ _ ⟨AM2,cM2,rfl,rfl⟩;refine Z4w ?_;refine E.AW.put 31 (.slice (some ⟨B3,0,.none⟩) (sum (masked key 54++b)).length 32) rfl (by rw[gh]<;>rfl) ?_
 refine Z14 (k:=?_);refine OW.iP (i:=0) Ux Jx rfl rfl rfl rfl rfl rfl rfl rfl rfl (fun w hw=>hw.dq (i:=1) rfl) K3 (fun A4 c4=>?_);refine Zj (k:=ZR (k:=?_));refine Zg @zl ?_;refine Z4w ?_;iterate 2 refine Z4v ?_
 refine Z4O ?_;refine OW.jF (i:=3) Js rfl rfl rfl rfl rfl rfl K14 K5 K5 ?_;refine Zr (k:=Z1K (k:=?_));exact⟨rfl,rfl⟩
def Kb(w:World):(Instr.buildSlice 128 0 #[]).run prog w=.ok (.slice (some ⟨w.heap.size,0,none⟩) 0 0) (w.alloc (.cells #[] 135)):=K0
def Dd(A:am)(c:Nat)(key:ap)(w0:World):
  CV 141 #[.slice A key.length c] w0 (.bool (keyed key)):=by
 refine Zq ?_;refine Zs ?_ ?_
 all_goals
  refine Zk ?_;intros;exact⟨aq Value.bool (by rw[de];simp[keyed];omega),rfl⟩
def sw(t:Int)(w0:World):
  CV 140 #[J t] w0 (.bool (fX t)):=by
 refine Zq ?_;refine Zs ?_ ?_
 all_goals
  refine Zk ?_;intros;exact⟨aq Value.bool (by rw[de];simp[fX];omega),rfl⟩
def rO(A:am)(c:Nat)(l:List Mt)(w0:World)(hX:ce w0 A (fl Mt.cs l)):
  CV 167 #[.slice A l.length c] w0 (J (Au.check l)):=by
 refine Zq ?_;refine Zc ?_ ?_
 ·refine Zk ?_;intros;exact⟨aq (Value.int .i64) (Lh K1).symm,rfl⟩
 refine Z4t ?_;intro hc;refine CW.av [8,9] 0 rfl rfl (fun mm mods Hm=>∃k:Nat,mm=l.length-k/\mods=[(10,J k)]/\Hm=[]/\(k<=l.length/\∀j,j<k->VL (l.getD j Mt.z)=true)) (l.length) ?_ ?_
 ·exact⟨[(10,_)],Kc,0,rfl,rfl,rfl,K1,fun j hj=>by omega⟩
 rintro _ _ _ ⟨k,rfl,rfl,rfl,hk,hI⟩;refine Zc ?_ ?_
 ·refine Zs ?_ ?_;all_goals first|(refine Zt ?_ ?_<;>try exact⟨⟩)|((iterate 5 (refine Z4x ?_;intros)))|skip
  all_goals
   refine Zd ?_ ?_
   ·try exact⟨⟩
    all_goals
     refine Zk ?_;intros;exact⟨aq (Value.int .i64) (I1 (k:=k) K1 K1 (by unfold VL;rw[k8];simp only[ay,ax,ne_eq];omega)).symm,rfl⟩
   try exact⟨⟩
   all_goals
    refine Z4t ?_;intros
    refine⟨_,[(10,_)],[],_,?_,Kc,rfl,k+1,rfl,rfl,rfl,K1,fun j hj=>by
    rcases eG.1 hj with h|rfl
    ·exact hI j h
    ·unfold VL;simp only[ay,ax];omega⟩
    omega
 refine Zk ?_;intros;exact⟨aq (Value.int .i64) (Au.mn K1 (fun j hj=>hI j K1)).symm,rfl⟩
def EV(A:am)(c:Nat)(l:List Mt)(w0:World)(hl:l.length*24<=140737488355328)(hX:ce w0 A (fl Mt.cs l)):
  CO 51 #[.slice A l.length c] w0 fun v Hn=>∃A2 c2,v=.slice A2 l.length c2/\Hn=[HP.row 135 3 A2 l.length c2 (fl Mt.cs l)]:=by
 refine Zq ?_;refine Zc ?_ ?_
 ·refine Z4u ?_;intro hc;refine Z1P (k:=?_);refine Zl ?_
  have hl0:l=[]:=by
    cases hA:A with
    |none=>
      cases l with
      |nil=>rfl
      |cons x r=>obtain⟨ad,e,_⟩:=hX (by rw[Mt.fx.ct];exact jG (by simp) Mt.fx.pos);rw[hA] at e;cases e
    |some ad=>rw[hA] at hc;cases hc
  subst hl0;exact⟨none,0,rfl,rfl⟩
 refine Z4t ?_;intros;refine OW.bsl 3 (fl Mt.cs []) rfl rfl (fun w=>Kb w) (fun A1=>?_);refine Z4t ?_;refine OW.qA (xs:=[]) (i:=0) Mt.fx Ux Jx rfl rfl rfl rfl rfl rfl rfl rfl rfl (oh hX) K3 K3 (fun A2 c2=>?_);refine Zl ?_;exact⟨_,_,rfl,rfl⟩
def VQ(A:am)(c:Nat)(l:ap)(x:Int)(w0:World)(hl:l.length<=100000)(hX:ce w0 A (aA l)):
  CV 240 #[.slice A l.length c,U x] w0 (J (Fl.idx (fun y:UInt8=>decide (x=(y.toNat:Int))) l)):=by
 refine Zq ?_;refine Z4t ?_;refine CW.av [0,1,7] 0 rfl rfl (fun mm mods Hm=>∃k:Nat,mm=l.length-k/\mods=[(8,J k)]/\Hm=[]/\(k<=l.length/\∀j,j<k->decide (x=((l.getD j 0).toNat:Int))=false)) (l.length) ?_ ?_
 ·exact⟨[(8,_)],Kc,0,rfl,rfl,rfl,K1,fun j hj=>by omega⟩
 rintro _ _ _ ⟨k,rfl,rfl,rfl,hk,hI⟩;refine Zc ?_ ?_
 ·refine Zc ?_ ?_
  ·refine Zk ?_;intros;exact⟨by rw[Fl.iJ (k:=k) K1 hI (bu K2)],rfl⟩
  refine Z4t ?_;intros
  refine⟨_,[(8,_)],[],_,?_,Kc,rfl,k+1,rfl,rfl,rfl,K1,(fun j hj=>by
  rcases eG.1 hj with h|rfl
  ·exact hI j h
  ·exact aV K2)⟩
  omega
 refine Zk ?_;intros;exact⟨by rw[Fl.iK (fun j hj=>hI j K1)],rfl⟩
def Yi(A:am)(c:Nat)(l:ap)(x:Int)(w0:World)(hl:l.length<=100000)(hX:ce w0 A (aA l)):
  CV 208 #[.slice A l.length c,U x] w0 (.bool (decide (0<=Fl.idx (fun y:UInt8=>decide (x=(y.toNat:Int))) l))):=by
 refine Zq ?_;refine Zg @VQ ?_;refine Zk ?_;exact⟨rfl,rfl⟩
instance:CB 135 #[] ((.agg #[U 0,V 0,.bool false])):=⟨fun _=>K0⟩
instance(a b:Int):CB 135 #[(0,U a),(1,V b)] ((.agg #[U a,V b,.bool false])):=⟨fun _=>K0⟩
def EK{a:Int}{b:Int}{c:Bool}(w:World):(Instr.buildSlice 128 1 #[(0,.agg #[U a,V b,.bool c])]).run prog w=.ok (.slice (some ⟨w.heap.size,0,none⟩) 1 1) (w.alloc (.cells #[U a,V b,.bool c] 135)):=K0
def Dq(A:am)(c:Nat)(l:List Mt)(dM:Int)(w0:World)(hl:l.length<=32)(hs:0<=dM/\dM<4294967296)(hX:ce w0 A (fl Mt.cs l)):
  CV 168 #[.slice A l.length c,O dM] w0 (.tuple #[.agg (Mt.cs (entry l dM).1).toArray,.bool (entry l dM).2]):=by
 refine Zq ?_;refine Zs ?_ ?_
 all_goals
  refine Zd ?_ ?_
  ·try exact⟨⟩
   all_goals
    refine Zk ?_;intros;have e9:entry l dM=(Mt.z,false):=aa K1;exact⟨by rw[e9]<;>rfl,rfl⟩
  try exact⟨⟩
  all_goals
   refine Z4t ?_;intros;refine Z1h (k:=?_);refine OW.put 19 (O (dM-1)) rfl (aq (Value.int .u32) K55) ?_;refine Zk ?_;have e9:entry l dM=(l.getD (dM-1).toNat Mt.z,true):=ae K1;exact⟨by rw[e9]<;>rfl,rfl⟩
def D1(pm:List Yb)(role kind:Int)(w0:World)(hr:0<=role/\role<256)(hP:Pm w0 (Old w0) pm):
  CV 178 #[U role,U kind] w0 (.bool (permits role kind)):=by
 have hpl:=hP.len;have hpa:=hP.at role.toNat;refine Zq ?_;refine Zs ?_ ?_
 all_goals
  iterate 2 refine Z4x ?_
  intros;first|refine OW.put 10 (bB (some ⟨0,0,.none⟩) role.toNat) rfl (Wl 0 role.toNat) ?_|skip
  first|(refine OW.off rfl rfl rfl ?_)|(refine OW.pure rfl rfl rfl (PV.yJ (A:=some ⟨0,0,.none⟩) (k:=role.toNat) (oh hP.r) Nx rfl rfl K1) ?_)
  refine Z4x ?_;first|(refine OW.off rfl rfl rfl ?_)|((refine OW.call Mx rfl rfl rfl rfl rfl rfl _ (fun w hw=>Yi _ _ (pm.getD role.toNat Yb.z).l kind w (Pm.sm hP role.toNat) (hw.rd (hP.m _ (Yb.mem K1)))) ?_;rintro _ _ ⟨rfl,rfl⟩))
  refine Zk ?_;exact⟨aq Value.bool (by unfold permits;first|(rw[hpa];simp_all;done)|(simp;omega)),rfl⟩
def Sb(A:am)(c:Nat)(l:List Mt)(role aG now:Int)(w0:World)(hX:ce w0 A (fl Mt.cs l)):
  CO 139 #[.slice A l.length c,U role,V aG,V now] w0 fun v Hn=>∃A2 c2,v=.tuple #[.slice A2 (Au.fM l role aG now).1.length c2,O (Au.fM l role aG now).2.1,J (Au.fM l role aG now).2.2]/\Hn=[HP.row 135 3 A2 ((Au.fM l role aG now).1).length c2 (fl Mt.cs ((Au.fM l role aG now).1))]:=by
 refine Zq ?_;refine Zg @rO ?_;refine Zc ?_ ?_
 ·refine Z4u ?_;intros;refine Z1P (k:=?_);refine Zl ?_;have e9:(Au.fM l role aG now)=([],0,Au.check l):=ae K2;exact⟨none,0,by rw[e9]<;>rfl,by rw[e9]<;>rfl⟩
 refine Z4u ?_;intro hc;have hck:Au.check l=0:=by assumption
 have hll:=nq hck;refine Zs ?_ ?_;all_goals first|(refine Zt ?_ ?_<;>try exact⟨⟩)|((iterate 4 (refine Z4x ?_;intros)))|skip
 all_goals first|(refine Zt ?_ ?_<;>try exact⟨⟩)|((iterate 4 (refine Z4x ?_;intros)))|skip
 all_goals first|(refine Zt ?_ ?_<;>try exact⟨⟩)|((iterate 4 (refine Z4x ?_;intros)))|skip
 all_goals
  refine Zd ?_ ?_
  ·try exact⟨⟩
   all_goals
    refine Z4u ?_;intros;refine Z1P (k:=?_);refine Zl ?_;have e9:(Au.fM l role aG now)=([],0,2):=(aa hck).trans (aa K56);exact⟨none,0,by rw[e9]<;>rfl,by rw[e9]<;>rfl⟩
  try exact⟨⟩
  all_goals
   refine Zc ?_ ?_
   ·refine Z4u ?_;intros;refine Z1P (k:=?_);refine Zl ?_;have e9:(Au.fM l role aG now)=([],0,9):=(aa hck).trans ((ae K56).trans (aa K1));exact⟨none,0,by rw[e9]<;>rfl,by rw[e9]<;>rfl⟩
   refine Zg @EV ?_;refine Z4t ?_;intros;refine ZG (k:=Z4t ?_);refine OW.bsl 3 (fl Mt.cs [(⟨role,fO aG now,false⟩:Mt)]) rfl rfl (fun w=>EK w) (fun A1=>?_);refine OW.dJ (j:=0) (i:=0) Mt.fx Ux Jx rfl rfl rfl rfl rfl rfl rfl rfl rfl rfl K3 K3 (fun A2 c2=>?_);refine Zl ?_;have e9:(Au.fM l role aG now)=(l++[⟨role,fO aG now,false⟩],IntKind.u32.wrap ((l.length+1:Nat):Int),0):=(aa hck).trans ((ae K56).trans (ae K1));exact⟨_,_,by rw[e9,aF]<;>rfl,by rw[e9]⟩
def Jh(A:am)(c:Nat)(l:List Mt)(dM:Int)(w0:World)(hs:0<=dM/\dM<4294967296)(hX:ce w0 A (fl Mt.cs l)):
  CO 184 #[.slice A l.length c,O dM] w0 fun v Hn=>∃A2 c2,v=.tuple #[.slice A2 (bT l dM).1.length c2,J (bT l dM).2]/\Hn=[HP.row 135 3 A2 ((bT l dM).1).length c2 (fl Mt.cs ((bT l dM).1))]:=by
 refine Zq ?_;refine Zg @rO ?_;refine Zc ?_ ?_
 ·refine Z4u ?_;intros;refine Z1P (k:=?_);refine Zl ?_;have e9:(bT l dM)=([],Au.check l):=ae K2;exact⟨none,0,by rw[e9]<;>rfl,by rw[e9]<;>rfl⟩
 refine Z4u ?_;intro hc;have hck:Au.check l=0:=by assumption
 have hll:=nq hck;refine Zg @Dq ?_;refine Zc ?_ ?_
 ·refine Z4u ?_;intros;refine Z1P (k:=?_);refine Zl ?_;have e9:(bT l dM)=([],191):=(aa hck).trans (ae K8);exact⟨none,0,by rw[e9]<;>rfl,by rw[e9]<;>rfl⟩
 refine Zc ?_ ?_
 ·refine Z4u ?_;intros;refine Z1P (k:=?_);refine Zl ?_;have e9:(bT l dM)=([],192):=(aa hck).trans ((aa K2).trans (aa K2));exact⟨none,0,by rw[e9]<;>rfl,by rw[e9]<;>rfl⟩
 refine Z4u ?_;intros;have hen:(entry l dM).2=true:=by assumption
 have hrv:(entry l dM).1.rev=false:=by assumption
 have hser:¬(dM=0\/(l.length:Int)<dM):=fun h=>by rw[show(entry l dM)=(Mt.z,false) from aa h] at hen;cases hen
 have hee:(entry l dM)=((l.getD (dM-1).toNat Mt.z),true):=ae hser;refine Zg @EV ?_;refine Z4t ?_;intro AK cK;refine Z1h (k:=?_);refine OW.put 29 (O (dM-1)) rfl (aq (Value.int .u32) K55) ?_;refine Z4t ?_;refine OW.kr (i:=0) ((⟨(l.getD (dM-1).toNat Mt.z).role,(l.getD (dM-1).toNat Mt.z).exp,true⟩:Mt)) Mt.z Mt.fx Js rfl rfl rfl rfl rfl rfl rfl K6 rfl rfl K1 ?_;refine Zl ?_;have e9:(bT l dM)=(l.set (dM-1).toNat ⟨(l.getD (dM-1).toNat Mt.z).role,(l.getD (dM-1).toNat Mt.z).exp,true⟩,0):=(aa hck).trans ((aa hen).trans ((ae (by rw[hrv];simp)).trans (by rw[hee])))
 exact⟨AK,cK,by rw[e9,aM],by rw[e9,aM]⟩
def VO(A:am)(c:Nat)(bs:ap)(n:Int)(w0:World)(hz:bs.length<=8000)(hn:0<=n/\n<4294967296)(hX:ce w0 A (aA bs)):
  CO 26 #[.slice A bs.length c,V n,J 4] w0 fun v Hn=>∃A2 c2,v=.tuple #[.slice A2 (bs++Dg.bs n 4 4).length c2,J 0]/\Hn=[HP.row 5 1 A2 (bs++Dg.bs n 4 4).length c2 (aA (bs++Dg.bs n 4 4))]:=by
 refine Zq ?_;refine Zx (k:=Zy (k:=Z4z ?_));iterate 14 refine Z4x ?_
 first|refine OW.put 21 (V 0) rfl (aq (Value.int .u64) (by rw[show(2:Int)^min ((8:Int)*4).toNat IntKind.u64.bits=4294967296 from by decide];omega)) ?_|skip
 refine Zg @fF ?_;refine Zh @Am ?_;refine Zl ?_;intros;exact⟨_,_,rfl,rfl⟩
def rY{a:Int}{b:Int}(w:World):(Instr.buildSlice 22 2 #[(0,U a),(1,U b)]).run prog w=.ok (.slice (some ⟨w.heap.size,0,none⟩) 2 2) (w.alloc (.cells #[U a,U b] 5)):=K0
def HD(t:Gw.Tk)(w0:World)(hf:fit t):
  CO 192 #[t.v] w0 fun v Hn=>∃A2 c2,v=.slice A2 (Au.enc t).length c2/\Hn=[HP.row 5 1 A2 (Au.enc t).length c2 (aA (Au.enc t))]:=by
 have hel:=Au.jP hf;have htl:=hf.tag;have hft:=hf.tn;have hfr:=hf.role;have hfe:=hf.exp;have hfs:=hf.dM;have h8:=Au.l9 t.exp 8;have hl9:([eo t.tn,eo t.role]++be t.exp 8++Dg.bs t.dM 4 4).length=14:=by simp[h8]
 refine Zq ?_;refine Zx (k:=Z4y ?_);intro B1;refine Z4z ?_;iterate 4 refine Z4x ?_
 refine OW.put 5 (U ((eo t.tn).toNat:Int)) rfl (aq (Value.int .u8) (by have:=jH t.tn;rw[IntKind.wrap_u8] at this;omega)) ?_
 refine OW.put 7 (U ((eo t.role).toNat:Int)) rfl (aq (Value.int .u8) (by have:=jH t.role;rw[IntKind.wrap_u8] at this;omega)) ?_
 refine OW.bsl 1 (aA ([eo t.tn,eo t.role])) rfl rfl (fun w=>rY w) (fun A2=>?_);refine OW.chunk 0 (HP.row 5 1 A2 (List.length ([eo t.tn,eo t.role])) 2 (aA ([eo t.tn,eo t.role]))) rfl rfl ?_;refine OW.put 8 (.slice A2 (List.length ([eo t.tn,eo t.role])) 2) rfl rfl ?_;refine Zg @U7 ?_;refine Zg @VO ?_;refine Z4t ?_;intros;refine OW.pure rfl rfl rfl (PV.zg Ux Jx rfl rfl) ?_;refine OW.put 26 (.slice (some ⟨B1,4,.none⟩) t.tag.length 32) rfl (by rw[htl]) ?_
 refine OW.iP (i:=0) Ux Jx rfl rfl rfl rfl rfl rfl rfl rfl rfl (fun w hw=>hw.aaR (i:=3) rfl) K3 (fun A3 c3=>?_);refine Zl ?_;exact⟨_,_,rfl,rfl⟩
instance:CB 56 #[] ((.agg #[U 0,U 0,V 0,O 0,U 0,U 0,U 0,U 0,U 0,U 0,U 0,U 0,U 0,U 0,U 0,U 0,U 0,U 0,U 0,U 0,U 0,U 0,U 0,U 0,U 0,U 0,U 0,U 0,U 0,U 0,U 0,U 0,U 0,U 0,U 0,U 0])):=⟨fun _=>K0⟩
def Cs(A:am)(c:Nat)(key:ap)(t:Gw.Tk)(w0:World)(hk1:1<=key.length)(hk2:key.length<=64)(hf:fit t)(hX:ce w0 A (aA key))(hK:ce w0 (some ⟨1,0,.none⟩) (dm ks)):
  CV 142 #[.slice A key.length c,t.v] w0 (.tuple #[(sign key t).v,J 0]):=by
 have hel:=Au.jP hf;have htl:=hf.tag;have h14:((Au.enc t).take 14).length=14:=by rw[cf];omega
 have htg:(Dg.tag key ((Au.enc t).take 14)).length=32:=gh _;refine Zq ?_;refine Z4t ?_;intros;refine OW.pure rfl rfl rfl (PV.qQ (i:=1) Ix rfl rfl rfl K9) ?_;refine Zg @HD ?_;intro AE cE;refine OW.cut (i:=0) (h:=14) Ux Jx rfl rfl rfl rfl rfl rfl rfl K1 ?_;refine OW.put 12 (.slice AE ((Au.enc t).take 14).length cE) rfl (by rw[h14]) ?_
 refine Zg @W5 ?_;iterate 4 refine Z4x ?_
 intros;refine Z1Q (k:=Zr (k:=Z1R (k:=Z4t ?_)));first|refine OW.nF (i:=0) Js rfl rfl rfl rfl rfl rfl htg htl ?_|refine OW.nF (i:=1) Js rfl rfl rfl rfl rfl rfl htg htl ?_|refine OW.nF (i:=2) Js rfl rfl rfl rfl rfl rfl htg htl ?_|refine OW.nF (i:=3) Js rfl rfl rfl rfl rfl rfl htg htl ?_
 refine Zr (k:=Z1R (k:=?_));refine OW.jF (i:=3) Js rfl rfl rfl rfl rfl rfl K18 K9 K9 ?_;refine Z4t ?_;refine KR.kR [] rfl (rv.xg Ix rfl (dU 0 rfl) K9) rfl rfl ?_;exact⟨rfl,rfl⟩
def dA(n most:Int)(w0:World):
  CV 250 #[J n,J most] w0 (.bool (within n most)):=by
 refine Zq ?_;refine Zs ?_ ?_
 all_goals
  refine Zk ?_;intros;exact⟨aq Value.bool (by rw[de];simp[within];omega),rfl⟩
def fK(b:Bool)(e:Int)(w0:World):
  Calls prog 244 #[.bool b,J e] w0 (db w0 (Old w0) (fun v Hn=>b=true/\v=.tuple #[]/\Hn=[]) fun c Hp=>(b=false/\c=pn e)/\Hp=[]):=by
 refine ZX (HA.start w0) ?_;refine Zc ?_ ?_
 ·refine Z4t ?_;intros;refine OW.panic rfl rfl rfl ?_;refine Kp (k:=?_);refine⟨[],_,rfl,?_,rfl⟩;exact⟨by simp_all,rfl⟩
 refine Zk ?_;intros;exact⟨by simp_all,rfl,rfl⟩
def N5(m:Tm)(w0:World):
  CV 245 #[m.v] w0 (.bool (numbers m.q)):=by
 refine Zq ?_;refine Zg @dA ?_;refine Zs ?_ ?_;all_goals first|(iterate 3 refine Z4x ?_;intros)|intros
 all_goals first|(refine OW.off rfl rfl rfl ?_)|(refine OW.call Mx rfl rfl rfl rfl rfl rfl _ (fun w hw=>dA _ _ w) ?_;rintro _ _ ⟨rfl,rfl⟩)|skip
 all_goals first|(refine Zt ?_ ?_<;>try exact⟨⟩)|((iterate 2 (refine Z4x ?_;intros)))|skip
 all_goals first|(iterate 3 refine Z4x ?_;intros)|intros
 all_goals first|(refine OW.off rfl rfl rfl ?_)|(refine OW.call Mx rfl rfl rfl rfl rfl rfl _ (fun w hw=>dA _ _ w) ?_;rintro _ _ ⟨rfl,rfl⟩)|skip
 all_goals
  first|(refine Zu ?_ ?_<;>try exact⟨⟩)|skip
  all_goals first|(iterate 2 refine Z4x ?_;intros)|intros
  all_goals first|(refine OW.off rfl rfl rfl ?_)|(refine OW.call Mx rfl rfl rfl rfl rfl rfl _ (fun w hw=>dA _ _ w) ?_;rintro _ _ ⟨rfl,rfl⟩)|skip
  all_goals first|(refine Zt ?_ ?_<;>try exact⟨⟩)|((iterate 2 (refine Z4x ?_;intros)))|skip
  all_goals first|(iterate 2 refine Z4x ?_;intros)|intros
  all_goals first|(refine OW.off rfl rfl rfl ?_)|(refine OW.call Mx rfl rfl rfl rfl rfl rfl _ (fun w hw=>dA _ _ w) ?_;rintro _ _ ⟨rfl,rfl⟩)|skip
  all_goals first|(refine Zt ?_ ?_<;>try exact⟨⟩)|((iterate 2 (refine Z4x ?_;intros)))|skip
  all_goals first|(iterate 2 refine Z4x ?_;intros)|intros
  all_goals first|(refine OW.off rfl rfl rfl ?_)|(refine OW.call Mx rfl rfl rfl rfl rfl rfl _ (fun w hw=>dA _ _ w) ?_;rintro _ _ ⟨rfl,rfl⟩)|skip
  all_goals first|(refine Zt ?_ ?_<;>try exact⟨⟩)|((iterate 2 (refine Z4x ?_;intros)))|skip
  all_goals first|(iterate 2 refine Z4x ?_;intros)|intros
  all_goals first|(refine OW.off rfl rfl rfl ?_)|(refine OW.call Mx rfl rfl rfl rfl rfl rfl _ (fun w hw=>dA _ _ w) ?_;rintro _ _ ⟨rfl,rfl⟩)|skip
  all_goals first|(refine Zt ?_ ?_<;>try exact⟨⟩)|((iterate 2 (refine Z4x ?_;intros)))|skip
  all_goals first|(iterate 2 refine Z4x ?_;intros)|intros
  all_goals first|(refine OW.off rfl rfl rfl ?_)|(refine OW.call Mx rfl rfl rfl rfl rfl rfl _ (fun w hw=>dA _ _ w) ?_;rintro _ _ ⟨rfl,rfl⟩)|skip
  all_goals
   refine Zk ?_;intros;exact⟨aq Value.bool (by rw[de];simp_all [numbers,sD,NS,within];try omega),rfl⟩
def vm(c:Od.N)(qP quota:Int)(w0:World):
  CV 247 #[c.v,J qP,J quota] w0 (J (dD c qP quota)):=by
 refine Zq ?_;refine Zg @dA ?_;refine Zs ?_ ?_;all_goals first|(refine Z4x ?_;intros)|intros
 all_goals first|(refine OW.off rfl rfl rfl ?_)|(refine OW.call Mx rfl rfl rfl rfl rfl rfl _ (fun w hw=>dA _ _ w) ?_;rintro _ _ ⟨rfl,rfl⟩)|skip
 all_goals
  refine Zd ?_ ?_
  ·try exact⟨⟩
   all_goals
    refine Zk ?_;intros;exact⟨aq (Value.int .i64) K57,rfl⟩
  try exact⟨⟩
  all_goals
   refine Zs ?_ ?_;all_goals first|(refine Zt ?_ ?_<;>try exact⟨⟩)|((iterate 5 (refine Z4x ?_;intros)))|skip
   all_goals
    refine Zd ?_ ?_
    ·try exact⟨⟩
     all_goals
      refine Zk ?_;intros;exact⟨aq (Value.int .i64) K57,rfl⟩
    try exact⟨⟩
    all_goals
     refine Zk ?_;intros;exact⟨aq (Value.int .i64) K57,rfl⟩
def qT(o:Od.O)(w0:World)(hp: -9223372036854775808<=o.pick+1/\o.pick+1<=9223372036854775807)(hd: -9223372036854775808<=o.drop+1/\o.drop+1<=9223372036854775807):
  CV 248 #[o.v] w0 (.bool (oL o)):=by
 refine Zq ?_;refine Zg @dA ?_;refine Zs ?_ ?_;all_goals first|(iterate 3 refine Z4x ?_;intros)|intros
 all_goals first|(refine OW.off rfl rfl rfl ?_)|(refine OW.call Mx rfl rfl rfl rfl rfl rfl _ (fun w hw=>dA _ _ w) ?_;rintro _ _ ⟨rfl,rfl⟩)|skip
 all_goals first|(refine Zt ?_ ?_<;>try exact⟨⟩)|((iterate 3 (refine Z4x ?_;intros)))|skip
 all_goals first|(iterate 3 refine Z4x ?_;intros)|intros
 all_goals first|(refine OW.off rfl rfl rfl ?_)|(refine OW.call Mx rfl rfl rfl rfl rfl rfl _ (fun w hw=>dA _ _ w) ?_;rintro _ _ ⟨rfl,rfl⟩)|skip
 all_goals first|(refine Zt ?_ ?_<;>try exact⟨⟩)|((iterate 3 (refine Z4x ?_;intros)))|skip
 all_goals first|(refine Zt ?_ ?_<;>try exact⟨⟩)|((iterate 5 (refine Z4x ?_;intros)))|skip
 all_goals first|(refine Zt ?_ ?_<;>try exact⟨⟩)|((iterate 5 (refine Z4x ?_;intros)))|skip
 all_goals
  refine Zd ?_ ?_
  ·try exact⟨⟩
   all_goals
    refine Zk ?_;intros;exact⟨aq Value.bool K58,rfl⟩
  try exact⟨⟩
  all_goals
   refine Zc ?_ ?_
   ·refine Zk ?_;intros;exact⟨aq Value.bool K58,rfl⟩
   refine Zs ?_ ?_;all_goals intros
   all_goals
    refine Zk ?_;intros;exact⟨aq Value.bool K58,rfl⟩
def Xh(k:Od.N)(qP quota now:Int)(w0:World)(hn:0<=now/\now<18446744073709551616):
  Calls prog 301 #[k.v,J qP,J quota,V now] w0 (db w0 (Old w0) (fun v Hn=>∃x,Ln k qP quota now=.ok x/\v=x.v/\Hn=[]) fun c Hp=>(∃e,Ln k qP quota now=.error e/\c=pn e)/\Hp=[]):=by
 refine ZX (HA.start w0) ?_;refine Zg @vm ?_;refine Z4t ?_;intros;refine OW.gy Mx rfl rfl rfl rfl rfl rfl _ _ (fun w hw=>fK _ _ w) (by rintro _ _ ⟨⟨hx,rfl⟩,rfl⟩;refine Kp (k:=?_);refine⟨[],_,rfl,?_,rfl⟩;exact⟨_,by unfold Ln;rw[ae (fc hx)],rfl⟩) ?_;rintro _ _ ⟨hm1,rfl,rfl⟩
 refine Z4t ?_;refine OW.gy Mx rfl rfl rfl rfl rfl rfl _ _ (fun w hw=>fK _ _ w) (by rintro _ _ ⟨⟨hx,rfl⟩,rfl⟩;refine Kp (k:=?_);refine⟨[],_,rfl,?_,rfl⟩;exact⟨_,by unfold Ln;rw[aa (bf hm1),ae (by have:=fc hx;simp only[last];omega)],rfl⟩) ?_;rintro _ _ ⟨hm2,rfl,rfl⟩
 have hck:=bf hm1;have hwq:=FW hck;have hnl:=bf hm2;refine Z4t ?_;refine OW.pure rfl rfl rfl (PV.Ts rfl rfl rfl K1 K1) ?_;refine Zc ?_ ?_
 ·refine Zk ?_;intros;exact⟨⟨now/qP,0⟩,by unfold Ln;rw[aa hck,aa (by simp only[last];omega),ae K1],rfl,rfl⟩
 refine Zk ?_;intros;exact⟨k,by unfold Ln;rw[aa hck,aa (by simp only[last];omega),aa K1],rfl,rfl⟩
def oJ(id pick drop now:Int)(w0:World)(hp: -9223372036854775808<=pick+1/\pick+1<=9223372036854775807)(hd: -9223372036854775808<=drop+1/\drop+1<=9223372036854775807):
  Calls prog 281 #[J id,J pick,J drop,V now] w0 (db w0 (Old w0) (fun v Hn=>∃x,created id pick drop now=.ok x/\v=x.v/\Hn=[]) fun c Hp=>(∃e,created id pick drop now=.error e/\c=pn e)/\Hp=[]):=by
 refine ZX (HA.start w0) ?_;refine Z4t ?_;intros;refine OW.call Mx rfl rfl rfl rfl rfl rfl _ (fun w hw=>qT ⟨id,pick,drop,1,now,0⟩ w hp hd) ?_;rintro _ _ ⟨rfl,rfl⟩;refine OW.gy Mx rfl rfl rfl rfl rfl rfl _ _ (fun w hw=>fK _ _ w) (by rintro _ _ ⟨⟨hx,rfl⟩,rfl⟩;refine Kp (k:=?_);refine⟨[],_,rfl,?_,rfl⟩;exact⟨2,by unfold created;rw[ae (by rw[hx];simp)],rfl⟩) ?_;rintro _ _ ⟨hm1,rfl,rfl⟩
 refine Zk ?_;exact⟨⟨id,pick,drop,1,now,0⟩,by unfold created;rw[aa hm1],rfl,rfl⟩
def uz(k:Od.N)(qP quota now:Int)(w0:World)(hn:0<=now/\now<18446744073709551616):
  Calls prog 280 #[k.v,J qP,J quota,V now] w0 (db w0 (Old w0) (fun v Hn=>∃x,Od.taken k qP quota now=.ok x/\v=x.v/\Hn=[]) fun c Hp=>(∃e,Od.taken k qP quota now=.error e/\c=pn e)/\Hp=[]):=by
 refine ZX (HA.start w0) ?_;refine Z4t ?_;intros;refine OW.gy Mx rfl rfl rfl rfl rfl rfl _ _ (fun w hw=>Xh k qP quota now w hn) (by rintro _ _ ⟨⟨ex,hx,rfl⟩,rfl⟩;refine Kp (k:=?_);refine⟨[],_,rfl,?_,rfl⟩;exact⟨ex,by unfold Od.taken;rw[hx],rfl⟩) ?_;rintro _ _ ⟨nA,hnA,rfl,rfl⟩
 refine Z4t ?_;refine OW.gy Mx rfl rfl rfl rfl rfl rfl _ _ (fun w hw=>fK _ _ w) (by rintro _ _ ⟨⟨hx,rfl⟩,rfl⟩;refine Kp (k:=?_);refine⟨[],_,rfl,?_,rfl⟩;exact⟨160,by unfold Od.taken;rw[hnA];exact ae (fc hx),rfl⟩) ?_;rintro _ _ ⟨hm1,rfl,rfl⟩
 have hck:=aa8 hnA;have hwq:=FW hck.1;have hmq:=bf hm1;refine Zk ?_;exact⟨⟨nA.qP,nA.many+1⟩,by unfold Od.taken;rw[hnA];exact aa (bf hm1),rfl,rfl⟩
def C3(o:Od.O)(st now:Int)(w0:World)(hp: -9223372036854775808<=o.pick+1/\o.pick+1<=9223372036854775807)(hd: -9223372036854775808<=o.drop+1/\o.drop+1<=9223372036854775807):
  Calls prog 292 #[o.v,U st,V now] w0 (db w0 (Old w0) (fun v Hn=>∃x,fp o st now=.ok x/\v=x.v/\Hn=[]) fun c Hp=>(∃e,fp o st now=.error e/\c=pn e)/\Hp=[]):=by
 refine ZX (HA.start w0) ?_;refine Z4t ?_;intros;refine OW.call Mx rfl rfl rfl rfl rfl rfl _ (fun w hw=>qT o w hp hd) ?_;rintro _ _ ⟨rfl,rfl⟩;refine OW.gy Mx rfl rfl rfl rfl rfl rfl _ _ (fun w hw=>fK _ _ w) (by rintro _ _ ⟨⟨hx,rfl⟩,rfl⟩;refine Kp (k:=?_);refine⟨[],_,rfl,?_,rfl⟩;exact⟨8,by unfold fp;rw[ae (by rw[hx];simp)],rfl⟩) ?_;rintro _ _ ⟨hm1,rfl,rfl⟩
 refine Zx (k:=Z4z ?_);refine OW.join 18 [1,2,3,6] rfl [(28,.bool (decide (1<=st/\st<=5/\now<=last/\(¬st=4\/0<now))))] (fun hm=>?_) ?_
 ·skip;refine Z4A ?_;refine OW.pure rfl rfl rfl (PV.geq rfl rfl rfl) ?_;refine Z4A ?_
  all_goals
   refine OW.split 13 rfl (fun hc=>?_) (fun hc=>?_)<;>(try simp only[bz,reduceCtorEq] at hc)<;>try exact Kf
  all_goals
   refine Z4K ?_
  all_goals
   refine Z1S (k:=?_)
  all_goals
   refine Z4F ?_
  all_goals
   refine Z4A ?_
  all_goals
   first|(refine OW.put 17 (.bool false) (v:=.bool false) rfl rfl ?_)|(refine OW.split 17 rfl (fun hc=>?_) (fun hc=>?_)<;>(try simp only[bz,reduceCtorEq] at hc)<;>try exact Kf)
  all_goals
   refine Z4K ?_
  all_goals
   refine Z1S (k:=?_)
  all_goals
   refine Z4F ?_
  all_goals
   refine Z4A ?_
  all_goals
   first|(refine OW.put 21 (.bool false) (v:=.bool false) rfl rfl ?_)|(refine OW.split 21 rfl (fun hc=>?_) (fun hc=>?_)<;>(try simp only[bz,reduceCtorEq] at hc)<;>try exact Kf)
  all_goals
   refine Z4K ?_
  all_goals
   refine ZM (k:=?_)
  all_goals
   refine Z4K ?_
  all_goals
   first|(refine OW.put 24 (.tuple #[]) (v:=.tuple #[]) rfl rfl ?_)|(refine OW.split 24 rfl (fun hc=>?_) (fun hc=>?_)<;>(try simp only[bz,reduceCtorEq] at hc)<;>try exact Kf)
  all_goals
   refine Z4K ?_
  all_goals
   refine Z1T (k:=?_)
  all_goals
   refine Z1U (k:=?_)
  all_goals
   refine Z4F ?_
  all_goals
   refine OW.put 28 (.bool (decide (1<=st/\st<=5/\now<=last/\(¬st=4\/0<now)))) rfl K59 ?_
  all_goals
   exact OW.ti Kc hm
 refine OW.gy Mx rfl rfl rfl rfl rfl rfl _ _ (fun w hw=>fK _ _ w) (by rintro _ _ ⟨⟨hx,rfl⟩,rfl⟩;refine Kp (k:=?_);refine⟨[],_,rfl,?_,rfl⟩;exact⟨2,by unfold fp;rw[aa hm1,ae (fc hx)],rfl⟩) ?_;rintro _ _ ⟨hm2,rfl,rfl⟩
 refine Zx (k:=Z3 (k:=Zf (k:=Zi (k:=Z4B ?_))));refine CW.cut [1,2,3,6] 0 rfl rfl (fun mods Hm=>mods=[(7,U (cJ st))]/\Hm=[]/\True) ?_ ?_
 ·refine Zc ?_ ?_
  ·refine Z4t ?_;intros;first|(refine⟨[(7,_)],[0,0],_,?_,rfl,by rw[show cJ st=2 by unfold cJ;rw[aa K1]],rfl,trivial⟩;exact Kc)|(refine⟨[(7,_)],[0,0],_,?_,rfl,by rw[show cJ st=3 by unfold cJ;rw[ae K1,aa K1]],rfl,trivial⟩;exact Kc)|(refine⟨[(7,_)],[0,0],_,?_,rfl,by rw[show cJ st=1 by unfold cJ;rw[ae K1,ae K1]],rfl,trivial⟩;exact Kc)
  refine Zc ?_ ?_
  ·refine Z4t ?_;intros;first|(refine⟨[(7,_)],[0,0],_,?_,rfl,by rw[show cJ st=2 by unfold cJ;rw[aa K1]],rfl,trivial⟩;exact Kc)|(refine⟨[(7,_)],[0,0],_,?_,rfl,by rw[show cJ st=3 by unfold cJ;rw[ae K1,aa K1]],rfl,trivial⟩;exact Kc)|(refine⟨[(7,_)],[0,0],_,?_,rfl,by rw[show cJ st=1 by unfold cJ;rw[ae K1,ae K1]],rfl,trivial⟩;exact Kc)
  refine Z4t ?_;intros;first|(refine⟨[(7,_)],[0,0],_,?_,rfl,by rw[show cJ st=2 by unfold cJ;rw[aa K1]],rfl,trivial⟩;exact Kc)|(refine⟨[(7,_)],[0,0],_,?_,rfl,by rw[show cJ st=3 by unfold cJ;rw[ae K1,aa K1]],rfl,trivial⟩;exact Kc)|(refine⟨[(7,_)],[0,0],_,?_,rfl,by rw[show cJ st=1 by unfold cJ;rw[ae K1,ae K1]],rfl,trivial⟩;exact Kc)
 rintro _ _ ⟨rfl,rfl,_⟩;refine Zx (k:=Z4z ?_);refine OW.join 8 [1,2,3,6] rfl [(42,.bool (decide (¬st=1/\o.st=cJ st)))] (fun hm=>?_) ?_
 ·skip;refine ZJ (k:=ZK (k:=Z4A ?_))
  all_goals
   refine OW.split 37 rfl (fun hc=>?_) (fun hc=>?_)<;>(try simp only[bz,reduceCtorEq] at hc)<;>try exact Kf
  all_goals
   refine Z4M ?_
  all_goals
   refine Z1W (k:=?_)
  all_goals
   refine Z4K ?_
  all_goals
   refine Z1X (k:=?_)
  all_goals
   refine Z4F ?_
  all_goals
   refine OW.put 42 (.bool (decide (¬st=1/\o.st=cJ st))) rfl K59 ?_
  all_goals
   exact OW.ti Kc hm
 refine OW.gy Mx rfl rfl rfl rfl rfl rfl _ _ (fun w hw=>fK _ _ w) (by rintro _ _ ⟨⟨hx,rfl⟩,rfl⟩;refine Kp (k:=?_);refine⟨[],_,rfl,?_,rfl⟩;exact⟨150,by unfold fp;rw[aa hm1,aa (bf hm2),ae (fc hx)],rfl⟩) ?_;rintro _ _ ⟨hm3,rfl,rfl⟩
 refine Zc ?_ ?_
 ·refine Zk ?_;intros;exact⟨Uh o st now,by unfold fp;rw[aa hm1,aa (bf hm2),aa (bf hm3)],by unfold Uh;first|(rw[aa K1];rfl)|(rw[ae K1];rfl),rfl⟩
 refine Zk ?_;intros;exact⟨Uh o st now,by unfold fp;rw[aa hm1,aa (bf hm2),aa (bf hm3)],by unfold Uh;first|(rw[aa K1];rfl)|(rw[ae K1];rfl),rfl⟩
end Go.Proofs.YtcgecopggfjojaaGreatDoor
