/- Part 8: the logic, the plain laws and the walks behind TopAlone (lemmas only; each says its own conditions). -/
import Derived.Test.YtcgecopggfjojaaGreatDoorK7
set_option maxRecDepth 100000
set_option linter.all false
set_option maxHeartbeats 0
namespace Go.Proofs.YtcgecopggfjojaaGreatDoor
open Go Go.RowKit Go.Proofs.Tryz E Fl Cf Od Bf Cr Rt Tr Gw Dg Au Wi
attribute [local irreducible] E.CW E.OW E.QW E.AW E.lJ E.blockK E.PV
def adQ(PB QB:Nat)(e:Int)(S:Nat->Prop)(w0:World)(hS:(HP.dj [HP.aw PB 196 [.slice .none 0 0,.slice .none 0 0,V 0,J 0],HP.aw QB 33 [J 0]]).bA S w0)(hb:∀k,S k->k<w0.heap.size):
  CallsDIn Fence.wide 0 prog 291 #[Y PB 0,Y QB 0] (.panicking (pn e)) w0 fun e2 u2 w2=>e2=.returned (.tuple #[])/\u2=.panicking [{v:=.iface 397 (.agg #[J e]),recovered:=true}]/\∃Hn,(Hn=[HP.aw PB 196 [.slice .none 0 0,.slice .none 0 0,V 0,J 0],HP.aw QB 33 [J e]])/\HA w0 (Fm w0 S) Hn w2:=by
 refine gz (vs:=[Y PB 0,Y QB 0]) (H:=[HP.dj [HP.aw PB 196 [.slice .none 0 0,.slice .none 0 0,V 0,J 0],HP.aw QB 33 [J 0]]]) (R:=fun Hn=>Hn=[HP.aw PB 196 [.slice .none 0 0,.slice .none 0 0,V 0,J 0],HP.aw QB 33 [J e]]) func291 ntmps291 rfl results291 rfl (HA.au hS hb) fun c0 cs hu=>?_;show E.SW _ _ _ _ _ _ _ [0,1,2,3,4,5,6,7] _ _;refine E.SW.rec rfl rfl rfl rfl rfl ?_;rw[hu];refine E.SW.pure rfl rfl rfl rfl (PV.pI kI rfl rfl) ?_;refine E.SW.pure rfl rfl rfl rfl (PV.move rfl rfl) ?_;refine E.SW.pure rfl rfl rfl rfl (PV.extract rfl rfl rfl) ?_;refine E.SW.pure rfl rfl rfl rfl (PV.extract rfl rfl rfl) ?_;refine E.SW.alloc (Jr) rfl rfl rfl rfl rfl rfl (fun B1=>?_);refine E.SW.store (i:=0) rfl Js rfl rfl rfl rfl rfl rfl rfl rfl rfl ?_;refine E.SW.pure rfl rfl rfl rfl (PV.assign rfl rfl) ?_;refine E.SW.done ?_;refine CW.open 1 rfl ?_;refine CW.sels [2,0,0] rfl ?_;refine CW.seq ?_;refine CW.region ?_;refine OW.pure rfl rfl rfl (PV.move rfl rfl) ?_;refine OW.nil ?_;refine iR ?_;refine CW.cond rfl (fun hc=>?_) (fun hc=>?_)
 ·simp only[E.b0,E.b1,E.b2,E.b3,E.b4,E.b5,E.b6,E.b7,E.b8,E.b9,E.GZ,E.Gz,E.Hu,E.HY,E.Gb,E.Ic,E.Iq,E.HE,E.HN,E.HC,E.G4,reduceCtorEq] at hc
  all_goals(
   refine CW.seq ?_;refine CW.region ?_;refine OW.alloc (Jr) rfl rfl rfl rfl rfl (fun B2=>?_);refine OW.nil ?_;refine iR ?_;refine CW.dV mixed [0,0] rfl ?_;all_goals(refine E.AW.first 0 rfl K0 K0 K0 rfl rfl rfl (PV.jD (i:=0) Ix rfl rfl rfl rfl) ?_)
   all_goals(refine E.AW.first 1 rfl K0 K0 K0 rfl rfl rfl (PV.fieldAddr Ax rfl rfl) ?_)
   all_goals(refine E.AW.first 2 rfl K0 K0 K0 rfl rfl rfl (PV.load (i:=1) Nx rfl rfl rfl rfl) ?_)
   all_goals(refine E.AW.one 3 K0 rfl ?_)
   all_goals(refine OW.store (i:=2) Js rfl rfl rfl rfl rfl rfl rfl rfl rfl ?_)
   all_goals(first|(refine E.AW.nil [0,0] rfl ?_)|(refine E.AW.nil [1,1] rfl ?_)|(refine E.AW.nil [2,2] rfl ?_)|(refine E.AW.nil [3,3] rfl ?_)|(refine E.AW.nil [4,4] rfl ?_)|(refine E.AW.nil [5,5] rfl ?_)|(refine E.AW.nil [6,6] rfl ?_)|(refine E.AW.nil [0,0] rfl ?_)|(refine E.AW.nil [0,0] rfl ?_))
   all_goals(refine E.AW.one 4 K0 rfl ?_)
   all_goals(refine OW.store (i:=3) Js rfl rfl rfl rfl rfl rfl rfl rfl rfl ?_)
   all_goals(first|(refine E.AW.nil [0,0] rfl ?_)|(refine E.AW.nil [1,1] rfl ?_)|(refine E.AW.nil [2,2] rfl ?_)|(refine E.AW.nil [3,3] rfl ?_)|(refine E.AW.nil [4,4] rfl ?_)|(refine E.AW.nil [5,5] rfl ?_)|(refine E.AW.nil [6,6] rfl ?_)|(refine E.AW.nil [0,0] rfl ?_)|(refine E.AW.nil [0,0] rfl ?_))
   all_goals(refine E.AW.done K0 ?_)
   all_goals(
    skip
    exact⟨[1,0],_,rfl,by rfl⟩))
 (cases hc;done)
def ad7(PB QB:Nat)(w0:World):
  CallsDIn Fence.wide 0 prog 291 #[Y PB 0,Y QB 0] (.returning) w0 fun e2 u2 w2=>e2=.returned (.tuple #[])/\u2=.returning/\∃Hn,(Hn=[])/\HA w0 (Old w0) Hn w2:=by
 refine gz (vs:=[Y PB 0,Y QB 0]) (H:=[]) (R:=fun Hn=>Hn=[]) func291 ntmps291 rfl results291 rfl (HA.start w0) fun c0 cs hu=>?_;show E.SW _ _ _ _ _ _ _ [0,1,2,3,4,5,6,7] _ _;refine E.SW.rec rfl rfl rfl rfl rfl ?_;rw[hu];refine E.SW.pure rfl rfl rfl rfl (PV.uv kI rfl rfl) ?_;refine E.SW.pure rfl rfl rfl rfl (PV.move rfl rfl) ?_;refine E.SW.pure rfl rfl rfl rfl (PV.extract rfl rfl rfl) ?_;refine E.SW.pure rfl rfl rfl rfl (PV.extract rfl rfl rfl) ?_;refine E.SW.alloc (Jr) rfl rfl rfl rfl rfl rfl (fun B1=>?_);refine E.SW.store (i:=0) rfl Js rfl rfl rfl rfl rfl rfl rfl rfl rfl ?_;refine E.SW.pure rfl rfl rfl rfl (PV.assign rfl rfl) ?_;refine E.SW.done ?_;refine CW.seq ?_;refine CW.region ?_;refine OW.pure rfl rfl rfl (PV.move rfl rfl) ?_;refine OW.nil ?_;refine iR ?_;refine CW.cond rfl (fun hc=>?_) (fun hc=>?_)
 ·(cases hc;done)
 simp only[E.b0,E.b1,E.b2,E.b3,E.b4,E.b5,E.b6,E.b7,E.b8,E.b9,E.GZ,E.Gz,E.Hu,E.HY,E.Gb,E.Ic,E.Iq,E.HE,E.HN,E.HC,E.G4,reduceCtorEq] at hc
 all_goals(
  refine CW.skip ?_
  exact⟨[],_,rfl,by rfl⟩)
def adL(PB QB:Nat)(e:Int)(S:Nat->Prop)(w0:World)(hS:(HP.dj [HP.aw PB 324 [J 0,J 0,J 0,U 0,V 0,V 0],HP.aw QB 33 [J 0]]).bA S w0)(hb:∀k,S k->k<w0.heap.size):
  CallsDIn Fence.wide 0 prog 243 #[Y PB 0,Y QB 0] (.panicking (pn e)) w0 fun e2 u2 w2=>e2=.returned (.tuple #[])/\u2=.panicking [{v:=.iface 397 (.agg #[J e]),recovered:=true}]/\∃Hn,(Hn=[HP.aw PB 324 [J 0,J 0,J 0,U 0,V 0,V 0],HP.aw QB 33 [J e]])/\HA w0 (Fm w0 S) Hn w2:=by
 refine gz (vs:=[Y PB 0,Y QB 0]) (H:=[HP.dj [HP.aw PB 324 [J 0,J 0,J 0,U 0,V 0,V 0],HP.aw QB 33 [J 0]]]) (R:=fun Hn=>Hn=[HP.aw PB 324 [J 0,J 0,J 0,U 0,V 0,V 0],HP.aw QB 33 [J e]]) func243 ntmps243 rfl results243 rfl (HA.au hS hb) fun c0 cs hu=>?_;show E.SW _ _ _ _ _ _ _ [0,1,2,3,4,5,6,7] _ _;refine E.SW.rec rfl rfl rfl rfl rfl ?_;rw[hu];refine E.SW.pure rfl rfl rfl rfl (PV.pI kI rfl rfl) ?_;refine E.SW.pure rfl rfl rfl rfl (PV.move rfl rfl) ?_;refine E.SW.pure rfl rfl rfl rfl (PV.extract rfl rfl rfl) ?_;refine E.SW.pure rfl rfl rfl rfl (PV.extract rfl rfl rfl) ?_;refine E.SW.alloc (Jr) rfl rfl rfl rfl rfl rfl (fun B1=>?_);refine E.SW.store (i:=0) rfl Js rfl rfl rfl rfl rfl rfl rfl rfl rfl ?_;refine E.SW.pure rfl rfl rfl rfl (PV.assign rfl rfl) ?_;refine E.SW.done ?_;refine CW.open 1 rfl ?_;refine CW.sels [2,0,0] rfl ?_;refine CW.seq ?_;refine CW.region ?_;refine OW.pure rfl rfl rfl (PV.move rfl rfl) ?_;refine OW.nil ?_;refine iR ?_;refine CW.cond rfl (fun hc=>?_) (fun hc=>?_)
 ·simp only[E.b0,E.b1,E.b2,E.b3,E.b4,E.b5,E.b6,E.b7,E.b8,E.b9,E.GZ,E.Gz,E.Hu,E.HY,E.Gb,E.Ic,E.Iq,E.HE,E.HN,E.HC,E.G4,reduceCtorEq] at hc
  all_goals(
   refine CW.seq ?_;refine CW.region ?_;refine OW.alloc (Jr) rfl rfl rfl rfl rfl (fun B2=>?_);refine OW.nil ?_;refine iR ?_;refine CW.dV mixed [0,0] rfl ?_;all_goals(refine E.AW.first 0 rfl K0 K0 K0 rfl rfl rfl (PV.jD (i:=0) Ix rfl rfl rfl rfl) ?_)
   all_goals(refine E.AW.first 1 rfl K0 K0 K0 rfl rfl rfl (PV.fieldAddr Ax rfl rfl) ?_)
   all_goals(refine E.AW.first 2 rfl K0 K0 K0 rfl rfl rfl (PV.load (i:=1) Nx rfl rfl rfl rfl) ?_)
   all_goals(refine E.AW.one 3 K0 rfl ?_)
   all_goals(refine OW.store (i:=2) Js rfl rfl rfl rfl rfl rfl rfl rfl rfl ?_)
   all_goals(first|(refine E.AW.nil [0,0] rfl ?_)|(refine E.AW.nil [1,1] rfl ?_)|(refine E.AW.nil [2,2] rfl ?_)|(refine E.AW.nil [3,3] rfl ?_)|(refine E.AW.nil [4,4] rfl ?_)|(refine E.AW.nil [5,5] rfl ?_)|(refine E.AW.nil [6,6] rfl ?_)|(refine E.AW.nil [0,0] rfl ?_)|(refine E.AW.nil [0,0] rfl ?_))
   all_goals(refine E.AW.one 4 K0 rfl ?_)
   all_goals(refine OW.store (i:=3) Js rfl rfl rfl rfl rfl rfl rfl rfl rfl ?_)
   all_goals(first|(refine E.AW.nil [0,0] rfl ?_)|(refine E.AW.nil [1,1] rfl ?_)|(refine E.AW.nil [2,2] rfl ?_)|(refine E.AW.nil [3,3] rfl ?_)|(refine E.AW.nil [4,4] rfl ?_)|(refine E.AW.nil [5,5] rfl ?_)|(refine E.AW.nil [6,6] rfl ?_)|(refine E.AW.nil [0,0] rfl ?_)|(refine E.AW.nil [0,0] rfl ?_))
   all_goals(refine E.AW.done K0 ?_)
   all_goals(
    skip
    exact⟨[1,0],_,rfl,by rfl⟩))
 (cases hc;done)
def aef(PB QB:Nat)(w0:World):
  CallsDIn Fence.wide 0 prog 243 #[Y PB 0,Y QB 0] (.returning) w0 fun e2 u2 w2=>e2=.returned (.tuple #[])/\u2=.returning/\∃Hn,(Hn=[])/\HA w0 (Old w0) Hn w2:=by
 refine gz (vs:=[Y PB 0,Y QB 0]) (H:=[]) (R:=fun Hn=>Hn=[]) func243 ntmps243 rfl results243 rfl (HA.start w0) fun c0 cs hu=>?_;show E.SW _ _ _ _ _ _ _ [0,1,2,3,4,5,6,7] _ _;refine E.SW.rec rfl rfl rfl rfl rfl ?_;rw[hu];refine E.SW.pure rfl rfl rfl rfl (PV.uv kI rfl rfl) ?_;refine E.SW.pure rfl rfl rfl rfl (PV.move rfl rfl) ?_;refine E.SW.pure rfl rfl rfl rfl (PV.extract rfl rfl rfl) ?_;refine E.SW.pure rfl rfl rfl rfl (PV.extract rfl rfl rfl) ?_;refine E.SW.alloc (Jr) rfl rfl rfl rfl rfl rfl (fun B1=>?_);refine E.SW.store (i:=0) rfl Js rfl rfl rfl rfl rfl rfl rfl rfl rfl ?_;refine E.SW.pure rfl rfl rfl rfl (PV.assign rfl rfl) ?_;refine E.SW.done ?_;refine CW.seq ?_;refine CW.region ?_;refine OW.pure rfl rfl rfl (PV.move rfl rfl) ?_;refine OW.nil ?_;refine iR ?_;refine CW.cond rfl (fun hc=>?_) (fun hc=>?_)
 ·(cases hc;done)
 simp only[E.b0,E.b1,E.b2,E.b3,E.b4,E.b5,E.b6,E.b7,E.b8,E.b9,E.GZ,E.Gz,E.Hu,E.HY,E.Gb,E.Ic,E.Iq,E.HE,E.HN,E.HC,E.G4,reduceCtorEq] at hc
 all_goals(
  refine CW.skip ?_
  exact⟨[],_,rfl,by rfl⟩)
def adU(PB QB:Nat)(e:Int)(S:Nat->Prop)(w0:World)(hS:(HP.dj [HP.aw PB 371 [.pointer none],HP.aw QB 33 [J 0]]).bA S w0)(hb:∀k,S k->k<w0.heap.size):
  CallsDIn Fence.wide 0 prog 304 #[Y PB 0,Y QB 0] (.panicking (pn e)) w0 fun e2 u2 w2=>e2=.returned (.tuple #[])/\u2=.panicking [{v:=.iface 397 (.agg #[J e]),recovered:=true}]/\∃Hn,(Hn=[HP.aw PB 371 [.pointer none],HP.aw QB 33 [J e]])/\HA w0 (Fm w0 S) Hn w2:=by
 refine gz (vs:=[Y PB 0,Y QB 0]) (H:=[HP.dj [HP.aw PB 371 [.pointer none],HP.aw QB 33 [J 0]]]) (R:=fun Hn=>Hn=[HP.aw PB 371 [.pointer none],HP.aw QB 33 [J e]]) func304 ntmps304 rfl results304 rfl (HA.au hS hb) fun c0 cs hu=>?_;show E.SW _ _ _ _ _ _ _ [0,1,2,3,4,5,6,7] _ _;refine E.SW.rec rfl rfl rfl rfl rfl ?_;rw[hu];refine E.SW.pure rfl rfl rfl rfl (PV.pI kI rfl rfl) ?_;refine E.SW.pure rfl rfl rfl rfl (PV.move rfl rfl) ?_;refine E.SW.pure rfl rfl rfl rfl (PV.extract rfl rfl rfl) ?_;refine E.SW.pure rfl rfl rfl rfl (PV.extract rfl rfl rfl) ?_;refine E.SW.alloc (Jr) rfl rfl rfl rfl rfl rfl (fun B1=>?_);refine E.SW.store (i:=0) rfl Js rfl rfl rfl rfl rfl rfl rfl rfl rfl ?_;refine E.SW.pure rfl rfl rfl rfl (PV.assign rfl rfl) ?_;refine E.SW.done ?_;refine CW.open 1 rfl ?_;refine CW.sels [2,0,0] rfl ?_;refine CW.seq ?_;refine CW.region ?_;refine OW.pure rfl rfl rfl (PV.move rfl rfl) ?_;refine OW.nil ?_;refine iR ?_;refine CW.cond rfl (fun hc=>?_) (fun hc=>?_)
 ·simp only[E.b0,E.b1,E.b2,E.b3,E.b4,E.b5,E.b6,E.b7,E.b8,E.b9,E.GZ,E.Gz,E.Hu,E.HY,E.Gb,E.Ic,E.Iq,E.HE,E.HN,E.HC,E.G4,reduceCtorEq] at hc
  all_goals(
   refine CW.seq ?_;refine CW.region ?_;refine OW.pure rfl rfl rfl (PV.assign rfl rfl) ?_;refine OW.nil ?_;refine iR ?_;refine CW.dV mixed [0] rfl ?_;all_goals(refine E.AW.first 0 rfl K0 K0 K0 rfl rfl rfl (PV.move rfl rfl) ?_)
   all_goals(refine E.AW.first 1 rfl K0 K0 K0 rfl rfl rfl (PV.fieldAddr Ax rfl rfl) ?_)
   all_goals(refine E.AW.first 2 rfl K0 K0 K0 rfl rfl rfl (PV.load (i:=0) Nx rfl rfl rfl rfl) ?_)
   all_goals(refine E.AW.one 3 K0 rfl ?_)
   all_goals(refine OW.store (i:=1) Js rfl rfl rfl rfl rfl rfl rfl rfl rfl ?_)
   all_goals(first|(refine E.AW.nil [0] rfl ?_)|(refine E.AW.nil [1] rfl ?_)|(refine E.AW.nil [2] rfl ?_)|(refine E.AW.nil [3] rfl ?_)|(refine E.AW.nil [4] rfl ?_)|(refine E.AW.nil [5] rfl ?_)|(refine E.AW.nil [6] rfl ?_)|(refine E.AW.nil [0] rfl ?_)|(refine E.AW.nil [0] rfl ?_))
   all_goals(refine E.AW.one 4 K0 rfl ?_)
   all_goals(refine OW.store (i:=2) Js rfl rfl rfl rfl rfl rfl rfl rfl rfl ?_)
   all_goals(first|(refine E.AW.nil [0] rfl ?_)|(refine E.AW.nil [1] rfl ?_)|(refine E.AW.nil [2] rfl ?_)|(refine E.AW.nil [3] rfl ?_)|(refine E.AW.nil [4] rfl ?_)|(refine E.AW.nil [5] rfl ?_)|(refine E.AW.nil [6] rfl ?_)|(refine E.AW.nil [0] rfl ?_)|(refine E.AW.nil [0] rfl ?_))
   all_goals(refine E.AW.done K0 ?_)
   all_goals(
    skip
    exact⟨[1,0],_,rfl,by rfl⟩))
 (cases hc;done)
def adD(PB QB:Nat)(w0:World):
  CallsDIn Fence.wide 0 prog 304 #[Y PB 0,Y QB 0] (.returning) w0 fun e2 u2 w2=>e2=.returned (.tuple #[])/\u2=.returning/\∃Hn,(Hn=[])/\HA w0 (Old w0) Hn w2:=by
 refine gz (vs:=[Y PB 0,Y QB 0]) (H:=[]) (R:=fun Hn=>Hn=[]) func304 ntmps304 rfl results304 rfl (HA.start w0) fun c0 cs hu=>?_;show E.SW _ _ _ _ _ _ _ [0,1,2,3,4,5,6,7] _ _;refine E.SW.rec rfl rfl rfl rfl rfl ?_;rw[hu];refine E.SW.pure rfl rfl rfl rfl (PV.uv kI rfl rfl) ?_;refine E.SW.pure rfl rfl rfl rfl (PV.move rfl rfl) ?_;refine E.SW.pure rfl rfl rfl rfl (PV.extract rfl rfl rfl) ?_;refine E.SW.pure rfl rfl rfl rfl (PV.extract rfl rfl rfl) ?_;refine E.SW.alloc (Jr) rfl rfl rfl rfl rfl rfl (fun B1=>?_);refine E.SW.store (i:=0) rfl Js rfl rfl rfl rfl rfl rfl rfl rfl rfl ?_;refine E.SW.pure rfl rfl rfl rfl (PV.assign rfl rfl) ?_;refine E.SW.done ?_;refine CW.seq ?_;refine CW.region ?_;refine OW.pure rfl rfl rfl (PV.move rfl rfl) ?_;refine OW.nil ?_;refine iR ?_;refine CW.cond rfl (fun hc=>?_) (fun hc=>?_)
 ·(cases hc;done)
 simp only[E.b0,E.b1,E.b2,E.b3,E.b4,E.b5,E.b6,E.b7,E.b8,E.b9,E.GZ,E.Gz,E.Hu,E.HY,E.Gb,E.Ic,E.Iq,E.HE,E.HN,E.HC,E.G4,reduceCtorEq] at hc
 all_goals(
  refine CW.skip ?_
  exact⟨[],_,rfl,by rfl⟩)
def Vc(fb:Nat)(aE:Array Value)(p:HP)(S:Nat->Prop)(R:Bk->List HP->Prop)(X:Int->List HP->Prop)(w0:World)(hn:E.Nm prog fb)(hS:p.bA S w0)(hb:∀k,S k->k<w0.heap.size)
  (hq:∀w S',HA w0 (Fm w0 S) [p] w->p.bA S' w->(∀k,S' k->k<w.heap.size/\¬Fm w0 S k)->Calls prog fb aE w (db w (Fm w S') (fun v Hn=>∃b:Bk,v=b.v/\R b Hn) fun c Hp=>∃e,c=pn e/\X e Hp)):
  CF 262 #[.func (.func fb) #[] aE] w0 S fun v Hn=>(∃b:Bk,v=.tuple #[b.v,J 0]/\R b Hn)\/(∃e,v=.tuple #[.agg #[.slice .none 0 0,.slice .none 0 0,V 0,J 0],J e]/\X e Hn):=by
 refine Z1Y func262 ntmps262 (k:=Z4t ?_);intro B1 B2;refine Z1Z (k:=Z4t ?_);refine OW.eR hn rfl rfl rfl rfl rfl rfl _ _ 2 rfl (fun w S' hw hs hk hc=>by rw[show(([]:bi).toArray++aE)=aE from by simp];exact hq w S' hw.one hs hk) ?_ ?_
 ·rintro _ Hp ⟨e,rfl,hx⟩;repeat(first|refine jr ?_|refine kK ?_)
  refine⟨291,_,rfl,Mx,fun a w ha hw=>?_⟩;have hw1:HA w0 (Fm w0 S) (HP.dj [HP.aw B1 196 [.slice .none 0 0,.slice .none 0 0,V 0,J 0],HP.aw B2 33 [J 0]]::[HP.dj Hp]) w:=(HA.qS (Hn:=[_,_]) (H:=[_]) (hw.qS.sels (is:=[2,1,0]) rfl));obtain⟨S1,h1,h2,h3,h4,h5⟩:=hw1.focus;refine(adQ B1 B2 e S1 w h1 (fun k hk=>(h2 k hk).1)).mono fun e2 u2 w2 ⟨he,hu,Hn,hHn,hA⟩=>?_;subst he hu hHn;have hA2:=h5 _ _ hA;refine Z20 (k:=Z21 results262 (k:=?_));simpa using(HA.sels hA2 (is:=[2]) rfl).Dm
 rintro _ Hn ⟨b,rfl,hx⟩;refine OW.qS ?_;refine Z4t ?_;repeat(first|refine mS ?_|refine pY ?_)
 refine⟨291,_,rfl,Mx,fun a w ha hw=>?_⟩;refine(ad7 B1 B2 w).mono fun e2 u2 w2 ⟨he,hu,Hz,hHn,hA⟩=>?_;subst he hu hHn;have hA2:=hw.behind hA;refine Z20 (k:=Z22 results262 (k:=?_));simpa using(HA.sels hA2 (is:=[2]) rfl).Dm
def acM(fb:Nat)(aE:Array Value)(p:HP)(S:Nat->Prop)(R:Od.O->List HP->Prop)(X:Int->List HP->Prop)(w0:World)(hn:E.Nm prog fb)(hS:p.bA S w0)(hb:∀k,S k->k<w0.heap.size)
  (hq:∀w S',HA w0 (Fm w0 S) [p] w->p.bA S' w->(∀k,S' k->k<w.heap.size/\¬Fm w0 S k)->Calls prog fb aE w (db w (Fm w S') (fun v Hn=>∃b:Od.O,v=b.v/\R b Hn) fun c Hp=>∃e,c=pn e/\X e Hp)):
  CF 213 #[.func (.func fb) #[] aE] w0 S fun v Hn=>(∃b:Od.O,v=.tuple #[b.v,J 0]/\R b Hn)\/(∃e,v=.tuple #[.agg #[J 0,J 0,J 0,U 0,V 0,V 0],J e]/\X e Hn):=by
 refine Z1Y func213 ntmps213 (k:=Z4t ?_);intro B1 B2;refine Z1Z (k:=Z4t ?_);refine OW.eR hn rfl rfl rfl rfl rfl rfl _ _ 2 rfl (fun w S' hw hs hk hc=>by rw[show(([]:bi).toArray++aE)=aE from by simp];exact hq w S' hw.one hs hk) ?_ ?_
 ·rintro _ Hp ⟨e,rfl,hx⟩;repeat(first|refine jr ?_|refine kK ?_)
  refine⟨243,_,rfl,Mx,fun a w ha hw=>?_⟩;have hw1:HA w0 (Fm w0 S) (HP.dj [HP.aw B1 324 [J 0,J 0,J 0,U 0,V 0,V 0],HP.aw B2 33 [J 0]]::[HP.dj Hp]) w:=(HA.qS (Hn:=[_,_]) (H:=[_]) (hw.qS.sels (is:=[2,1,0]) rfl));obtain⟨S1,h1,h2,h3,h4,h5⟩:=hw1.focus;refine(adL B1 B2 e S1 w h1 (fun k hk=>(h2 k hk).1)).mono fun e2 u2 w2 ⟨he,hu,Hn,hHn,hA⟩=>?_;subst he hu hHn;have hA2:=h5 _ _ hA;refine Z20 (k:=Z21 results213 (k:=?_));simpa using(HA.sels hA2 (is:=[2]) rfl).Dm
 rintro _ Hn ⟨b,rfl,hx⟩;refine OW.qS ?_;refine Z4t ?_;repeat(first|refine mS ?_|refine pY ?_)
 refine⟨243,_,rfl,Mx,fun a w ha hw=>?_⟩;refine(aef B1 B2 w).mono fun e2 u2 w2 ⟨he,hu,Hz,hHn,hA⟩=>?_;subst he hu hHn;have hA2:=hw.behind hA;refine Z20 (k:=Z22 results213 (k:=?_));simpa using(HA.sels hA2 (is:=[2]) rfl).Dm
def ab5(fb:Nat)(aE:Array Value)(p:HP)(S:Nat->Prop)(R:am->List HP->Prop)(X:Int->List HP->Prop)(w0:World)(hn:E.Nm prog fb)(hS:p.bA S w0)(hb:∀k,S k->k<w0.heap.size)
  (hq:∀w S',HA w0 (Fm w0 S) [p] w->p.bA S' w->(∀k,S' k->k<w.heap.size/\¬Fm w0 S k)->Calls prog fb aE w (db w (Fm w S') (fun v Hn=>∃b:am,v=.pointer b/\R b Hn) fun c Hp=>∃e,c=pn e/\X e Hp)):
  CF 287 #[.func (.func fb) #[] aE] w0 S fun v Hn=>(∃b:am,v=.tuple #[.pointer b,J 0]/\R b Hn)\/(∃e,v=.tuple #[.pointer none,J e]/\X e Hn):=by
 refine Z1Y func287 ntmps287 (k:=Z4t ?_);intro B1 B2;refine Z1Z (k:=Z4t ?_);refine OW.eR hn rfl rfl rfl rfl rfl rfl _ _ 2 rfl (fun w S' hw hs hk hc=>by rw[show(([]:bi).toArray++aE)=aE from by simp];exact hq w S' hw.one hs hk) ?_ ?_
 ·rintro _ Hp ⟨e,rfl,hx⟩;repeat(first|refine jr ?_|refine kK ?_)
  refine⟨304,_,rfl,Mx,fun a w ha hw=>?_⟩;have hw1:HA w0 (Fm w0 S) (HP.dj [HP.aw B1 371 [.pointer none],HP.aw B2 33 [J 0]]::[HP.dj Hp]) w:=(HA.qS (Hn:=[_,_]) (H:=[_]) (hw.qS.sels (is:=[2,1,0]) rfl));obtain⟨S1,h1,h2,h3,h4,h5⟩:=hw1.focus;refine(adU B1 B2 e S1 w h1 (fun k hk=>(h2 k hk).1)).mono fun e2 u2 w2 ⟨he,hu,Hn,hHn,hA⟩=>?_;subst he hu hHn;have hA2:=h5 _ _ hA;refine Z20 (k:=?_);refine⟨_,_,TI ha hA2 results287 (rv.fW Nx rfl (dU 0 rfl) rfl) (rv.fW Nx rfl (dU 1 rfl) rfl),.inr ⟨e,rfl,hx⟩,?_⟩;simpa using(HA.sels hA2 (is:=[2]) rfl).Dm
 rintro _ Hn ⟨b,rfl,hx⟩;refine OW.qS ?_;refine Z4t ?_;repeat(first|refine mS ?_|refine pY ?_)
 refine⟨304,_,rfl,Mx,fun a w ha hw=>?_⟩;refine(adD B1 B2 w).mono fun e2 u2 w2 ⟨he,hu,Hz,hHn,hA⟩=>?_;subst he hu hHn;have hA2:=hw.behind hA;refine Z20 (k:=?_);refine⟨_,_,TI ha hA2 results287 (rv.fW Nx rfl (dU 1 rfl) rfl) (rv.fW Nx rfl (dU 0 rfl) rfl),.inl ⟨b,rfl,hx⟩,?_⟩;simpa using(HA.sels hA2 (is:=[2]) rfl).Dm
def EL(A:am)(c:Nat)(l:List Od.O)(w0:World)(hl:l.length*48<=140737488355328)(hX:ce w0 A (fl Od.O.cs l)):
  CO 246 #[.slice A l.length c] w0 fun v Hn=>∃A2 c2,v=.slice A2 l.length c2/\Hn=[HP.row 324 6 A2 l.length c2 (fl Od.O.cs l)]:=by
 refine Zq ?_;refine Zc ?_ ?_
 ·refine Z4u ?_;intro hc;refine CW.bM 324 6 ?_;refine Zl ?_
  have hl0:l=[]:=by
    cases hA:A with
    |none=>
      cases l with
      |nil=>rfl
      |cons x r=>obtain⟨ad,e,_⟩:=hX (by rw[Od.O.fx.ct];exact jG (by simp) Od.O.fx.pos);rw[hA] at e;cases e
    |some ad=>rw[hA] at hc;cases hc
  subst hl0;exact⟨none,0,rfl,rfl⟩
 refine Z4t ?_;intros;refine OW.bsl 6 (fl Od.O.cs []) rfl rfl (fun w=>Ks w) (fun A1=>?_);refine Z4t ?_;refine OW.qA (xs:=[]) (i:=0) Od.O.fx Ux Jx rfl rfl rfl rfl rfl rfl rfl rfl rfl (oh hX) K3 K3 (fun A2 c2=>?_);refine Zl ?_;exact⟨_,_,rfl,rfl⟩
def zX(e:Int)(w0:World):CV 244 #[.bool true,J e] w0 (.tuple #[]):=
 (fK true e w0).mono fun e w h=>by
  rcases h with⟨v,Hn,h1,⟨_,h2,h3⟩,h4⟩|⟨c,Hp,_,⟨⟨h,_⟩,_⟩,_⟩
  ·exact⟨v,Hn,h1,⟨h2,h3⟩,h4⟩
  ·cases h
def Kl(B:Nat)(b:Bk)(m:Tm)(w0:World)(hB:ce w0 (some ⟨B,0,.none⟩) (b.cells++m.cells))(ho:ce w0 b.A1 (fl Od.O.cs b.q.os))(hl:b.q.os.length<=64):
  CO 249 #[Y B 0] w0 fun v Hn=>∃A c,v=.slice A (bR b.q.os).length c/\Hn=[HP.row 3 1 A (bR b.q.os).length c (ints (bR b.q.os))]:=by
 refine Zq ?_;refine Zx (k:=Zy (k:=Zy (k:=ZC (k:=Z4t ?_))));refine CW.av [10,11] 1 rfl rfl (fun mm mods Hm=>∃k:Nat,∃A:am,∃c:Nat,mm=b.q.os.length-k/\mods=[(12,J k),(3,.slice A (bR (b.q.os.take k)).length c)]/\Hm=[HP.row 3 1 A (bR (b.q.os.take k)).length c (ints (bR (b.q.os.take k)))]/\k<=b.q.os.length) (b.q.os.length) ?_ ?_
 ·exact⟨[(12,_),(3,_)],Kc,0,none,0,rfl,rfl,rfl,bF _⟩
 rintro _ _ _ ⟨k,A,c,rfl,rfl,rfl,hk⟩;refine Zc ?_ ?_
 ·have hql:=vG b.q.os k;refine Zc ?_ ?_
  ·refine Z4t ?_;intros;refine ZD df (k:=fun A2=>?_);refine OW.ga (j:=0) (i:=1) Ux Jx rfl rfl rfl rfl rfl rfl rfl rfl rfl rfl K3 (fun A3 c3=>?_);refine Z4t ?_;refine⟨_,[(12,_),(3,_)],[0],_,?_,Kc,rfl,k+1,A3,c3,rfl,(by rw[jW K1,aa (by assumption)]<;>rfl),(by rw[jW K1,aa (by assumption)]),K1⟩
   omega
  refine Z4t ?_;intros;refine⟨_,[(12,_),(3,_)],[1],_,?_,Kc,rfl,k+1,A,c,rfl,(by rw[jW K1,ae (by assumption),bp]<;>rfl),(by rw[jW K1,ae (by assumption),bp]),K1⟩
  omega
 refine Z4u ?_;intros;have hke:k=b.q.os.length:=K1;refine Zl ?_;exact⟨A,c,by rw[hke,bJ],by rw[hke,bJ]⟩
def Hc(m:Tm)(b:Bk)(w0:World)(hm:m.rd w0 (Old w0))(hb:b.rd w0 (Old w0))(hv:Ok m.q b.q):
  CO 215 #[m.v,b.v] w0 fun v Hn=>∃b2:Bk,∃B,v=Y B 0/\Hn=[HP.aw B 402 (b2.cells++m.cells),HP.bk b2]/\b2.q=b.q:=by
 obtain⟨hbo,hbq⟩:=id hb;have hnum:=hv.n;have hln:=hv.l;have hql:=hv.ql;have hck:=hv.c;have hns:=CP.1 hv.n;simp only[Od.within_iff] at hns;refine Zq ?_;refine Zg @N5 ?_;intros;refine OW.put 9 (.bool true) rfl (aq Value.bool hnum) ?_;refine Zg @zX ?_;refine Zx (k:=Z23 (k:=?_));iterate 7 refine Z4v ?_
 refine Z10 (k:=?_);refine Zg @EL ?_;refine Z4w ?_;intro AO cO;refine Z4G ?_;refine Zg @bc ?_;refine Z4w ?_;intro AQ cQ;refine E.AW.first 8 rfl K0 K0 K0 rfl rfl rfl (PV.build (ps:=[(0,.tmp 13),(1,.tmp 16),(2,.tmp 18)]) rfl rfl (fun w=>(qj).h w)) ?_;refine E.AW.first 10 rfl K0 K0 K0 rfl rfl rfl (PV.build (ps:=[(0,.tmp 19),(1,.tmp 20)]) rfl rfl (fun w=>(EG).h w)) ?_;iterate 2 refine Z4v ?_
 intro BD;first|refine E.AW.conv (cg 1 (HP.row 3 1 AQ b.q.q.length cQ (ints b.q.q)) rfl rfl) ?_|refine E.AW.conv (cg 2 (HP.row 3 1 AQ b.q.q.length cQ (ints b.q.q)) rfl rfl) ?_
 refine E.AW.conv (yV (is:=[1,1,0,0,0]) rfl) ?_;refine E.AW.conv (cg 0 (HP.aw BD 402 ((Bk.mk b.q AO cO AQ cQ).cells++m.cells)) rfl rfl) ?_;refine Zx (k:=Z0 (k:=Z4t ?_));refine QW.call Mx rfl rfl rfl rfl rfl rfl _ (fun w hw=>bK.val (vm b.q.n m.q.n5 m.q.n4 w)) ?_;iterate 2 refine Z4x ?_
 refine QW.put 53 (.bool true) rfl (aq Value.bool (bu hck)) ?_;refine QW.call Mx rfl rfl rfl rfl rfl rfl _ (fun w hw=>bK.val (zX _ w)) ?_;refine Zx (k:=Z4J ?_);refine OW.put 59 (.slice AO b.q.os.length cO) rfl rfl ?_;refine OW.put 60 (J (b.q.os.length:Int)) rfl rfl ?_;refine Z4t ?_;refine CW.av [2,5,59,60] 0 rfl rfl (fun mm mods Hm=>∃k:Nat,mm=b.q.os.length-k/\mods=[(61,J k)]/\Hm=[]/\k<=b.q.os.length) (b.q.os.length) ?_ ?_
 ·exact⟨[(61,_)],Kc,0,rfl,rfl,rfl,bF _⟩
 rintro _ _ _ ⟨k,rfl,rfl,rfl,hk⟩;refine Zc ?_ ?_
 ·refine Zx (k:=Z4y ?_);intros;have hoo:=ei.1 (hv.o k K1);obtain⟨ho1,ho2,ho3,ho4⟩:=hoo;have hov:=im.1 ho1;refine Z4t ?_;refine OW.call Mx rfl rfl rfl rfl rfl rfl _ (fun w hw=>qT (b.q.os.getD k Od.O.z) w K1 K1) ?_;rintro _ _ ⟨rfl,rfl⟩;iterate 26 refine Z4x ?_
  refine OW.put 90 (.bool true) rfl (aq Value.bool (bu ho4)) ?_;refine Zg @zX ?_;refine Z4t ?_;refine⟨_,[(61,_)],[1,1,1,1,1],_,?_,Kc,rfl,k+1,rfl,rfl,rfl,K1⟩;omega
 refine Z4u ?_;intros;refine Z4R ?_;iterate 6 refine Z4v ?_
 refine Z4N ?_;refine Zg @Kl ?_;refine Z4w ?_;intros;refine Z4O ?_;refine Zg @yx ?_;refine Z4w ?_;refine E.AW.put 100 (.bool true) rfl (aq Value.bool (bu hv.q)) ?_;refine Z4D ?_;refine Zg @zX ?_;refine Z4u ?_;refine CW.conv (ec [2,2,1] 2 rfl rfl) ?_;refine Z4t ?_;refine KR.one [1,0] rfl rfl rfl ?_;exact⟨(Bk.mk b.q AO cO AQ cQ),BD,rfl,rfl,rfl⟩
def CS(B:Nat)(b:Bk)(m:Tm)(id:Int)(w0:World)(hB:ce w0 (some ⟨B,0,.none⟩) (b.cells++m.cells))(ho:ce w0 b.A1 (fl Od.O.cs b.q.os))(hl:b.q.os.length<=64):
  Calls prog 216 #[Y B 0,J id] w0 (db w0 (Old w0) (fun v Hn=>within id b.q.os.length=true/\v=bB b.A1 ((id-1).toNat*6)/\Hn=[]) fun c Hp=>(∃e,(e=6/\within id b.q.os.length=false)/\c=pn e)/\Hp=[]):=by
 refine ZX (HA.start w0) ?_;refine Zg @dA ?_;refine OW.gy Mx rfl rfl rfl rfl rfl rfl _ _ (fun w hw=>fK _ _ w) (by rintro _ _ ⟨⟨hx,rfl⟩,rfl⟩;refine Kp (k:=?_);refine⟨[],_,rfl,?_,rfl⟩;exact⟨6,⟨rfl,hx⟩,rfl⟩) ?_;rintro _ _ ⟨hm1,rfl,rfl⟩
 have hid:=Od.within_iff.1 hm1;refine Zk ?_;exact⟨hm1,rfl,rfl⟩
def YN(n:Int)(PB:Nat)(id:Int)(w0:World)(hB:ce w0 (some ⟨PB,0,.none⟩) [J id]):
  CV 294 #[J n,Y PB 0] w0 (.bool (decide (n=id))):=by
 refine Zq ?_;refine Zk ?_;exact⟨rfl,rfl⟩
def TA(A:am)(c:Nat)(l:bv)(q:Int->Bool)(f:Nat)(aE:Array Value)(S:Nat->Prop)(w0:World)(hS:(HP.row 3 1 A l.length c (ints l)).bA S w0)(hb:∀k,S k->k<w0.heap.size)(hl:l.length<=64)(hn:E.Nm prog f)(hq:∀w,HA w0 (Fm w0 S) [] w->∀x:Int,Calls prog f (#[J x]++aE) w (bK w (Old w) fun v Hn=>v=.bool (q x)/\Hn=[])):
  CF 293 #[.slice A l.length c,.func (.func f) #[] aE] w0 S fun v Hn=>v=.slice A (l.filter fun x=> !q x).length c/\Hn=[HP.row 3 1 A (l.filter fun x=> !q x).length c (ints (l.filter fun x=> !q x))]:=by
 refine Zp (HA.au hS hb) ?_;refine Z4t ?_;refine OW.call Mx rfl rfl rfl rfl rfl rfl _ (fun w hw=>Ov _ _ _ q _ aE w hn (fun w2 hw2=>hq w2 (hw2.pF hw)) K1 (hw.bh (i:=0) rfl)) ?_;rintro _ _ ⟨rfl,rfl⟩;refine Zc ?_ ?_
 ·refine Zl ?_;intro hc;exact⟨by rw[wz hc],by rw[wz hc]⟩
 refine Z4u ?_;intro hc;obtain⟨k0,hk1,hk2,hk3,hk4⟩:=Tt hc;obtain⟨hd1,hd2⟩:=PW hk1 hk3 hk4;refine CW.put 5 (J (k0:Int)) rfl (aq (Value.int .i64) hk2) ?_;refine Z4t ?_;refine CW.av [0,1] 1 rfl rfl (fun mm mods Hm=>∃j:Nat,∃i0:Nat,∃r:bv,mm=l.length-j/\mods=[(6,J j),(5,J i0)]/\Hm=[HP.row 3 1 A l.length c (ints r)]/\j<=l.length/\i0=(dl q l j).length/\dr q l j r) (l.length-(k0+1)) ?_ ?_
 ·exact⟨[(6,_),(5,_)],Kc,k0+1,k0,l,rfl,rfl,rfl,K1,hd2.symm,hd1⟩
 rintro _ _ _ ⟨j,i0,r,rfl,rfl,rfl,hk,hI0,hI⟩;have hrl:=hI.1;have hdl:=Nw q l j;refine Zc ?_ ?_
 ·refine Z4t ?_;intro hc;refine Z2 (k:=?_);refine Zc ?_ ?_
  ·refine Z4t ?_;intro hc;refine OW.KU (i:=0) Js rfl rfl rfl rfl rfl rfl K1 ?_;refine Z4t ?_;refine⟨_,[(6,_),(5,_)],[0],_,?_,Kc,rfl,j+1,i0+1,r.set i0 (r.getD j 0),rfl,rfl,rfl,K1,by rw[hI0];exact(GI hI K1 K24).2.symm,by rw[hI0];exact(GI hI K1 K24).1⟩
   omega
  refine Z4t ?_;intro hc;refine⟨_,[(6,_),(5,_)],[0],_,?_,Kc,rfl,j+1,i0,r,rfl,rfl,rfl,K1,by rw[(Gi hI K1 K24).2];exact hI0,(Gi hI K1 K24).1⟩
  omega
 refine Z4u ?_;intros;have hjl:j=l.length:=K1;subst hI0;refine Z4t ?_;refine OW.pure rfl rfl rfl (PV.D4 (lo:=(dl q l j).length) Ux Jx rfl rfl rfl K1) ?_;refine OW.clear (i:=0) (h:=(dl q l j).length) (m:=l.length) Ux Jx rfl rfl rfl rfl rfl K1 ?_;refine Z4t ?_;refine OW.cut (i:=0) (h:=(dl q l j).length) Ux Jx rfl rfl rfl rfl rfl rfl rfl K1 ?_;refine Z4L ?_;refine OW.chunk 0 (HP.row 3 1 A (l.filter fun x=> !q x).length c (ints (l.filter fun x=> !q x))) rfl (by rw[<-OH q (show l.length<=j by omega)];simp only[mF];rw[gK (by simp[ints];omega)];rw[List.take_take,Nat.min_self];simp only[ints,<-zH];rw[hI.2.1]) ?_
 refine OW.put 4 (.slice A (l.filter fun x=> !q x).length c) rfl (by rw[<-OH q (show l.length<=j by omega)]) ?_
 refine Zl ?_;exact⟨rfl,rfl⟩
def iv(B:Nat)(b:Bk)(m:Tm)(id st now:Int)(S:Nat->Prop)(w0:World)(hS:(HP.dj [HP.aw B 402 (b.cells++m.cells),HP.bk b]).bA S w0)(hb:∀k,S k->k<w0.heap.size)(hv:Ok m.q b.q):
  Calls prog 264 #[Y B 0,J id,U st,V now] w0 (db w0 (Fm w0 S) (fun v Hn=>∃b2:Bk,Od.move b.q id st now=.ok b2.q/\v=b2.v/\Hn=[HP.bk b2]) fun c Hp=>(∃e,Od.move b.q id st now=.error e/\c=pn e)/\Hp=[]):=by
 have hln:=hv.l;have hqn:=k9 b.q.os;rw[<-hv.q] at hqn;refine ZX (HA.au hS hb) ?_;refine Zx (k:=Z24 (k:=?_));refine CW.open 1 rfl ?_;refine Z4t ?_;intro B1 _;refine OW.gy Mx rfl rfl rfl rfl rfl rfl _ _ (fun w hw=>CS _ b m id w (hw.dq (i:=4) rfl) (hw.bh (i:=2) rfl) K2) (by rintro _ _ ⟨⟨ex,hx,rfl⟩,rfl⟩;refine Kp (k:=?_);refine⟨[],_,rfl,?_,rfl⟩;exact⟨ex,by unfold Od.move;rw[ae (by rw[hx.2];simp),hx.1],rfl⟩) ?_;rintro _ _ ⟨hin,rfl,rfl⟩
 have hid:=Od.within_iff.1 hin;have hoo:=ei.1 (hv.o (id-1).toNat K1);obtain⟨ho1,ho2,ho3,ho4⟩:=hoo;have hov:=im.1 ho1;refine Z4t ?_;refine OW.gy Mx rfl rfl rfl rfl rfl rfl _ _ (fun w hw=>C3 _ _ _ w K1 K1) (by rintro _ _ ⟨⟨ex,hx,rfl⟩,rfl⟩;refine Kp (k:=?_);refine⟨[],_,rfl,?_,rfl⟩;exact⟨ex,by unfold Od.move;rw[aa hin];simp only[hx],rfl⟩) ?_;rintro _ _ ⟨oA,hoA,rfl,rfl⟩
 refine Z4t ?_;refine OW.u6 (i:=2) (oA) Od.O.z Od.O.fx Js rfl rfl rfl rfl rfl rfl K1 ?_;refine Z4t ?_;refine OW.aU Mx rfl rfl rfl rfl rfl rfl _ 3 rfl (fun w S hw hs hb hc=>TA _ _ b.q.q (fun n=>decide (n=id)) 294 #[Y B1 0] S w hs (fun k hk=>(hb k hk).1) K1 Mx (fun w2 hw2 x=>YN x B1 id w2 ((hw2.sy (ez hc (i:=2) rfl)).at 0 rfl))) ?_;rintro _ _ ⟨rfl,rfl⟩;refine Z4u ?_;refine CW.aX [2,1,0,0] 2 rfl rfl ?_;refine CW.bO 0 (HP.bk (Bk.mk ⟨b.q.os.set (id-1).toNat oA,b.q.q.filter (fun x=> !decide (x=id)),b.q.n⟩ b.A1 b.c1 b.A2 b.c2)) rfl (by simp[HP.bk]) ?_
 refine Zr (k:=Z11 (k:=?_));exact⟨(Bk.mk ⟨b.q.os.set (id-1).toNat oA,b.q.q.filter (fun x=> !decide (x=id)),b.q.n⟩ b.A1 b.c1 b.A2 b.c2),by unfold Od.move;rw[aa hin];simp only[hoA],by simp[Bk.v,Bk.cells],rfl⟩
def FQ(PT PK:Nat)(m:Tm)(b:Bk)(PI:Nat)(id:Int)(w0:World)(hT:ce w0 (some ⟨PT,0,.none⟩) m.cells)(hK:ce w0 (some ⟨PK,0,.none⟩) b.cells)(hm:m.rd w0 (Old w0))(hb:b.rd w0 (Old w0))(hv:Ok m.q b.q)(hI:ce w0 (some ⟨PI,0,.none⟩) [J id]):
  Calls prog 282 #[Y PT 0,Y PK 0,Y PI 0] w0 (db w0 (Old w0) (fun v Hn=>∃b2:Bk,Od.move b.q id 5 0=.ok b2.q/\v=b2.v/\Hn=[HP.bk b2]) fun c Hp=>(∃e,Od.move b.q id 5 0=.error e/\c=pn e)/\Hp=[]):=by
 refine ZX (HA.start w0) ?_;refine Zx (k:=Z4y ?_);intros;refine ZY (k:=?_);iterate 3 refine Z4v ?_
 refine Z10 (k:=?_);refine Zg @Hc ?_;refine Z4w ?_;intro b2 BD hq2;refine Z25 (k:=ZR (k:=?_));refine OW.eR (aE:= #[]) Mx rfl rfl rfl rfl rfl rfl _ _ 0 rfl (fun w S hw hs hb hc=>iv BD b2 m id 5 0 S w hs (fun k hk=>(hb k hk).1) K41) (by rintro _ _ ⟨⟨ex,hx,rfl⟩,rfl⟩;refine Kp (k:=?_);refine⟨[],_,rfl,?_,rfl⟩;exact⟨ex,by rw[<-hq2];exact hx,rfl⟩) ?_;rintro _ _ ⟨b3,hb3,rfl,rfl⟩
 refine Zr (k:=Z11 (k:=?_));exact⟨b3,by rw[<-hq2];exact hb3,rfl,rfl⟩
def KK(PT PK:Nat)(m:Tm)(b:Bk)(PI:Nat)(id:Int)(w0:World)(hT:ce w0 (some ⟨PT,0,.none⟩) m.cells)(hK:ce w0 (some ⟨PK,0,.none⟩) b.cells)(hm:m.rd w0 (Old w0))(hb:b.rd w0 (Old w0))(hv:Ok m.q b.q)(hI:ce w0 (some ⟨PI,0,.none⟩) [J id]):
  Calls prog 267 #[Y PT 0,Y PK 0,Y PI 0] w0 (db w0 (Old w0) (fun v Hn=>∃b2:Bk,Od.move b.q id 3 0=.ok b2.q/\v=b2.v/\Hn=[HP.bk b2]) fun c Hp=>(∃e,Od.move b.q id 3 0=.error e/\c=pn e)/\Hp=[]):=by
 refine ZX (HA.start w0) ?_;refine Zx (k:=Z4y ?_);intros;refine ZY (k:=?_);iterate 3 refine Z4v ?_
 refine Z10 (k:=?_);refine Zg @Hc ?_;refine Z4w ?_;intro b2 BD hq2;refine Z25 (k:=ZR (k:=?_));refine OW.eR (aE:= #[]) Mx rfl rfl rfl rfl rfl rfl _ _ 0 rfl (fun w S hw hs hb hc=>iv BD b2 m id 3 0 S w hs (fun k hk=>(hb k hk).1) K41) (by rintro _ _ ⟨⟨ex,hx,rfl⟩,rfl⟩;refine Kp (k:=?_);refine⟨[],_,rfl,?_,rfl⟩;exact⟨ex,by rw[<-hq2];exact hx,rfl⟩) ?_;rintro _ _ ⟨b3,hb3,rfl,rfl⟩
 refine Zr (k:=Z11 (k:=?_));exact⟨b3,by rw[<-hq2];exact hb3,rfl,rfl⟩
def Nt(PT PK:Nat)(m:Tm)(b:Bk)(PI PN:Nat)(id now:Int)(w0:World)(hT:ce w0 (some ⟨PT,0,.none⟩) m.cells)(hK:ce w0 (some ⟨PK,0,.none⟩) b.cells)(hm:m.rd w0 (Old w0))(hb:b.rd w0 (Old w0))(hv:Ok m.q b.q)(hI:ce w0 (some ⟨PI,0,.none⟩) [J id])(hN:ce w0 (some ⟨PN,0,.none⟩) [V now]):
  Calls prog 268 #[Y PT 0,Y PK 0,Y PI 0,Y PN 0] w0 (db w0 (Old w0) (fun v Hn=>∃b2:Bk,Od.move b.q id 4 now=.ok b2.q/\v=b2.v/\Hn=[HP.bk b2]) fun c Hp=>(∃e,Od.move b.q id 4 now=.error e/\c=pn e)/\Hp=[]):=by
 refine ZX (HA.start w0) ?_;refine Zx (k:=Z4y ?_);intros;refine ZY (k:=?_);iterate 4 refine Z4v ?_
 refine Z10 (k:=?_);refine Zg @Hc ?_;refine Z4w ?_;intro b2 BD hq2;refine Z25 (k:=Z4G ?_);refine OW.eR (aE:= #[]) Mx rfl rfl rfl rfl rfl rfl _ _ 0 rfl (fun w S hw hs hb hc=>iv BD b2 m id 4 now S w hs (fun k hk=>(hb k hk).1) K41) (by rintro _ _ ⟨⟨ex,hx,rfl⟩,rfl⟩;refine Kp (k:=?_);refine⟨[],_,rfl,?_,rfl⟩;exact⟨ex,by rw[<-hq2];exact hx,rfl⟩) ?_;rintro _ _ ⟨b3,hb3,rfl,rfl⟩
 refine Zr (k:=Z11 (k:=?_));exact⟨b3,by rw[<-hq2];exact hb3,rfl,rfl⟩
def RG(PT PK:Nat)(m:Tm)(b:Bk)(PI:Nat)(id:Int)(w0:World)(hT:ce w0 (some ⟨PT,0,.none⟩) m.cells)(hK:ce w0 (some ⟨PK,0,.none⟩) b.cells)(hm:m.rd w0 (Old w0))(hb:b.rd w0 (Old w0))(hv:Ok m.q b.q)(hI:ce w0 (some ⟨PI,0,.none⟩) [J id]):
  Calls prog 214 #[Y PT 0,Y PK 0,Y PI 0] w0 (db w0 (Old w0) (fun v Hn=>∃o:Od.O,kq m.q b.q id=.ok o/\v=o.v/\Hn=[]) fun c Hp=>(∃e,kq m.q b.q id=.error e/\c=pn e)/\Hp=[]):=by
 refine ZX (HA.start w0) ?_;refine Zx (k:=Z4y ?_);intros;refine ZY (k:=?_);iterate 3 refine Z4v ?_
 refine Z10 (k:=?_);refine Zg @Hc ?_;refine Z4w ?_;intro b2 BD hq2;refine ZR (k:=?_);refine OW.gy Mx rfl rfl rfl rfl rfl rfl _ _ (fun w hw=>CS BD b2 m id w (hw.dq (i:=0) rfl) (hw.MD (i:=1) rfl).o (by have:=hv.l;rw[hq2];exact this)) (by rintro _ _ ⟨⟨ex,hx,rfl⟩,rfl⟩;refine Kp (k:=?_);refine⟨[],_,rfl,?_,rfl⟩;exact⟨ex,by unfold kq;rw[aa (dN.2 hv),ae (by have:=hx.2;rw[hq2] at this;simp[this]),hx.1],rfl⟩) ?_;rintro _ _ ⟨hin,rfl,rfl⟩
 have hid:=Od.within_iff.1 hin;refine Zj (k:=Z4G ?_);refine OW.pure rfl rfl rfl (PV.jh Od.O.fx (fun w hw=>(hw.MD (i:=1) rfl).o) rfl rfl K1) ?_;refine Zj (k:=Z4N ?_);refine OW.pure rfl rfl rfl (PV.nm Od.O.z Od.O.fx (fun w hw=>(hw.MD (i:=1) rfl).o) Ix rfl rfl K1) ?_;refine Zk ?_;exact⟨_,by unfold kq;rw[aa (dN.2 hv),aa (by rw[<-hq2];exact hin),<-hq2],rfl,rfl⟩
def Jb(PT PK:Nat)(m:Tm)(b:Bk)(w0:World)(hT:ce w0 (some ⟨PT,0,.none⟩) m.cells)(hK:ce w0 (some ⟨PK,0,.none⟩) b.cells)(hm:m.rd w0 (Old w0))(hb:b.rd w0 (Old w0))(hv:Ok m.q b.q):
  CO 288 #[Y PT 0,Y PK 0] w0 fun v Hn=>∃a:am,v=.pointer a/\Hn=[]:=by
 refine Zq ?_;refine Zg @Hc ?_;refine Zk ?_;intros;exact⟨_,rfl,rfl⟩
def FK(PT PK:Nat)(m:Tm)(b:Bk)(PP PD PN:Nat)(pick drop now:Int)(w0:World)(hT:ce w0 (some ⟨PT,0,.none⟩) m.cells)(hK:ce w0 (some ⟨PK,0,.none⟩) b.cells)(hm:m.rd w0 (Old w0))(hb:b.rd w0 (Old w0))(hv:Ok m.q b.q)(hP:ce w0 (some ⟨PP,0,.none⟩) [J pick])(hD:ce w0 (some ⟨PD,0,.none⟩) [J drop])(hN:ce w0 (some ⟨PN,0,.none⟩) [V now])(hnow:0<=now/\now<18446744073709551616):
  Calls prog 279 #[Y PT 0,Y PK 0,Y PP 0,Y PD 0,Y PN 0] w0 (db w0 (Old w0) (fun v Hn=>∃b2:Bk,dH m.q b.q pick drop now=.ok b2.q/\v=b2.v/\Hn=[HP.bk b2]) fun c Hp=>(∃e,dH m.q b.q pick drop now=.error e/\c=pn e)/\Hp=[]):=by
 have hln:=hv.l;have hqn:=k9 b.q.os;rw[<-hv.q] at hqn;have hns:=CP.1 hv.n;simp only[Od.within_iff] at hns;refine ZX (HA.start w0) ?_;refine Zg @Hc ?_;refine Z4u ?_;intro B1 b2 BD hq2;obtain⟨q2,a2,d2,e2,f2⟩:=b2;cases hq2;refine CW.bO 0 (HP.aw BD 402 ([.slice a2 b.q.os.length d2,.slice e2 b.q.q.length f2,V b.q.n.qP,J b.q.n.many]++m.cells)) rfl rfl ?_;refine CW.open 1 rfl ?_;refine CW.bO 0 (HP.row 324 6 a2 b.q.os.length d2 (fl Od.O.cs b.q.os)) rfl rfl ?_;refine CW.bO 1 (HP.row 3 1 e2 b.q.q.length f2 (ints b.q.q)) rfl rfl ?_;refine CW.sels [2,1,0,0] rfl ?_;refine Z4z ?_;refine OW.join 24 [0,2,3,4,5,6] rfl [(34,.bool (decide (0<=pick/\pick<m.q.p.length/\0<=drop/\drop<m.q.d.length/\now<=last)))] (fun hm=>?_) ?_
 ·skip;refine OW.pure rfl rfl rfl (PV.nk (oh hP) Nx rfl rfl rfl) ?_;refine OW.pure rfl rfl rfl (PV.geq rfl rfl rfl) ?_;refine Z4A ?_
  all_goals
   refine OW.split 13 rfl (fun hc=>?_) (fun hc=>?_)<;>(try simp only[bz,reduceCtorEq] at hc)<;>try exact Kf
  all_goals
   first|(refine OW.off rfl rfl rfl ?_)|(refine OW.pure rfl rfl rfl (PV.nk (oh hP) Nx rfl rfl rfl) ?_)
  all_goals
   refine Z4M ?_
  all_goals
   refine Z26 (k:=?_)
  all_goals
   refine Z27 (k:=?_)
  all_goals
   refine Z28 (k:=?_)
  all_goals
   refine Z4F ?_
  all_goals
   refine Z4A ?_
  all_goals
   first|(refine OW.put 20 (.bool false) (v:=.bool false) rfl rfl ?_)|(refine OW.split 20 rfl (fun hc=>?_) (fun hc=>?_)<;>(try simp only[bz,reduceCtorEq] at hc)<;>try exact Kf)
  all_goals
   refine Z29 (k:=?_)
  all_goals
   first|(refine OW.off rfl rfl rfl ?_)|(refine OW.pure rfl rfl rfl (PV.geq rfl rfl rfl) ?_)
  all_goals
   refine Z4F ?_
  all_goals
   refine Z4A ?_
  all_goals
   first|(refine OW.put 24 (.bool false) (v:=.bool false) rfl rfl ?_)|(refine OW.split 24 rfl (fun hc=>?_) (fun hc=>?_)<;>(try simp only[bz,reduceCtorEq] at hc)<;>try exact Kf)
  all_goals
   refine Z29 (k:=?_)
  all_goals
   refine Z4M ?_
  all_goals
   refine Z26 (k:=?_)
  all_goals
   refine Z27 (k:=?_)
  all_goals
   refine Z28 (k:=?_)
  all_goals
   refine Z4F ?_
  all_goals
   refine Z4A ?_
  all_goals
   first|(refine OW.put 31 (.bool false) (v:=.bool false) rfl rfl ?_)|(refine OW.split 31 rfl (fun hc=>?_) (fun hc=>?_)<;>(try simp only[bz,reduceCtorEq] at hc)<;>try exact Kf)
  all_goals
   first|(refine OW.off rfl rfl rfl ?_)|(refine OW.pure rfl rfl rfl (PV.nk (oh hN) Nx rfl rfl rfl) ?_)
  all_goals
   refine Z1S (k:=?_)
  all_goals
   refine Z4F ?_
  all_goals
   refine OW.put 34 (.bool (decide (0<=pick/\pick<m.q.p.length/\0<=drop/\drop<m.q.d.length/\now<=last))) rfl K59 ?_
  all_goals
   exact OW.ti Kc hm
 refine OW.gy Mx rfl rfl rfl rfl rfl rfl _ _ (fun w hw=>fK _ _ w) (by rintro _ _ ⟨⟨hx,rfl⟩,rfl⟩;refine Kp (k:=?_);refine⟨[],_,rfl,?_,rfl⟩;exact⟨2,by unfold dH;rw[aa (dN.2 hv),ae (fc hx)],rfl⟩) ?_;rintro _ _ ⟨hm1,rfl,rfl⟩
 have hsc:=bf hm1;refine Z4t ?_;refine OW.gy Mx rfl rfl rfl rfl rfl rfl _ _ (fun w hw=>fK _ _ w) (by rintro _ _ ⟨⟨hx,rfl⟩,rfl⟩;refine Kp (k:=?_);refine⟨[],_,rfl,?_,rfl⟩;exact⟨4,by unfold dH;rw[aa (dN.2 hv),aa hsc,ae (by have:¬((b.q.os.length:Int)<64):=fc hx;omega)],rfl⟩) ?_;rintro _ _ ⟨hm2,rfl,rfl⟩
 refine Zx (k:=ZY (k:=?_));iterate 9 refine Z4v ?_
 refine Z1d (k:=?_);refine OW.gy Mx rfl rfl rfl rfl rfl rfl _ _ (fun w hw=>fK _ _ w) (by rintro _ _ ⟨⟨hx,rfl⟩,rfl⟩;refine Kp (k:=?_);refine⟨[],_,rfl,?_,rfl⟩;exact⟨9,by unfold dH;rw[aa (dN.2 hv),aa hsc,aa (by have:(b.q.os.length:Int)<64:=bf hm2;omega),ae (fc hx)],rfl⟩) ?_;rintro _ _ ⟨hm3,rfl,rfl⟩
 have hl4:(b.q.os.length:Int)<64:=bf hm2;have hl9:(b.q.q.length:Int)<m.q.n3:=bf hm3;refine Zx (k:=ZY (k:=?_));iterate 11 refine Z4v ?_
 refine ZU (k:=?_);refine OW.gy Mx rfl rfl rfl rfl rfl rfl _ _ (fun w hw=>uz b.q.n m.q.n5 m.q.n4 now w K2) (by rintro _ _ ⟨⟨ex,hx,rfl⟩,rfl⟩;refine Kp (k:=?_);refine⟨[],_,rfl,?_,rfl⟩;exact⟨ex,by unfold dH;rw[aa (dN.2 hv),aa hsc,aa K1,aa hl9];simp only[hx],rfl⟩) ?_;rintro _ _ ⟨nT,hnT,rfl,rfl⟩
 refine Zx (k:=ZY (k:=?_));iterate 7 refine Z4v ?_
 refine E.AW.two 4 11 K0 rfl rfl ?_ ?_
 focus
  refine Zo (k:=Zj (k:=Z4v ?_));refine E.AW.put 74 (J (b.q.os.length:Int)) rfl rfl ?_;refine Z4v ?_;refine E.AW.two 10 11 K0 rfl rfl ?_ ?_
  focus
   refine OW.gy Mx rfl rfl rfl rfl rfl rfl _ _ (fun w hw=>oJ _ pick drop now w K1 K1) (by rintro _ _ ⟨⟨ex,hx,rfl⟩,rfl⟩;refine Kp (k:=?_);refine⟨[],_,rfl,?_,rfl⟩;exact⟨ex,by unfold dH;rw[aa (dN.2 hv),aa hsc,aa K1,aa hl9];simp only[hnT,hx],rfl⟩) ?_;rintro _ _ ⟨oC,hoC,rfl,rfl⟩
   refine Z4w ?_;iterate 3 refine Z4v ?_
   intros
  rotate_right
  focus
   refine Zo (k:=Z4w ?_);intros;refine Z4H ?_;refine OW.gy Mx rfl rfl rfl rfl rfl rfl _ _ (fun w hw=>oJ _ pick drop now w K1 K1) (by rintro _ _ ⟨⟨ex,hx,rfl⟩,rfl⟩;refine Kp (k:=?_);refine⟨[],_,rfl,?_,rfl⟩;exact⟨ex,by unfold dH;rw[aa (dN.2 hv),aa hsc,aa K1,aa hl9];simp only[hnT,hx],rfl⟩) ?_;rintro _ _ ⟨oC,hoC,rfl,rfl⟩
   refine Z4w ?_;iterate 2 refine Z4v ?_
 rotate_right
 focus
  refine Zo (k:=Z4w ?_);iterate 2 refine Z4v ?_
  intros;refine E.AW.put 74 (J (b.q.os.length:Int)) rfl rfl ?_;refine Za (k:=Z4H ?_);refine OW.gy Mx rfl rfl rfl rfl rfl rfl _ _ (fun w hw=>oJ _ pick drop now w K1 K1) (by rintro _ _ ⟨⟨ex,hx,rfl⟩,rfl⟩;refine Kp (k:=?_);refine⟨[],_,rfl,?_,rfl⟩;exact⟨ex,by unfold dH;rw[aa (dN.2 hv),aa hsc,aa K1,aa hl9];simp only[hnT,hx],rfl⟩) ?_;rintro _ _ ⟨oC,hoC,rfl,rfl⟩
  refine Z4w ?_;iterate 2 refine Z4v ?_
 all_goals
  refine Z4u ?_;refine CW.gx (T:=[22,26]) mixed [0,0] rfl ?_;iterate 6 refine Z4v ?_
  refine E.AW.ru [[],[]] 6 rfl K0 K0 K0 rfl rfl rfl (PV.load (i:=1) Nx rfl rfl rfl rfl) ?_;refine E.AW.ru [[],[]] 7 rfl K0 K0 K0 rfl rfl rfl (PV.jD (i:=0) Ix rfl rfl rfl rfl) ?_;iterate 4 refine Z4v ?_
  refine E.AW.ru [[],[]] 14 rfl K0 K0 K0 rfl rfl rfl (PV.load (i:=1) Nx rfl rfl rfl rfl) ?_;refine Z4v ?_;refine E.AW.ru [[18,17],[]] 16 rfl K0 K0 K0 rfl rfl rfl (PV.load (i:=0) Nx rfl rfl rfl rfl) ?_;refine E.AW.two 8 17 K0 rfl rfl ?_ ?_
  focus
   refine OW.buildSlice (Et:=324) (sz:=6) (cs:=fl Od.O.cs [oC]) (ps:=[(0,.tmp 87)]) rfl rfl rfl rfl rfl rfl K4 (fun w=>u7 w) (fun A5=>?_);refine Z4w ?_;refine E.AW.two 9 17 K0 rfl rfl ?_ ?_
   focus
    refine OW.dJ (j:=0) (i:=2) Od.O.fx Ux Jx rfl rfl rfl rfl rfl rfl rfl rfl rfl rfl K3 K3 (fun A6 c6=>?_);refine Z4w ?_;refine E.AW.one 17 K0 rfl ?_;refine OW.buildSlice (Et:=3) (sz:=1) (ps:=[(0,.tmp 96)]) rfl rfl rfl rfl rfl K7 K4 (fun w=>df _ w) (fun A7=>?_);refine Zj (k:=Z2a (k:=?_));refine OW.ga (j:=0) (i:=3) Ux Jx rfl rfl rfl rfl rfl rfl rfl rfl rfl rfl K3 (fun A8 c8=>?_);refine Z4w ?_;iterate 3 refine Z4v ?_
    refine E.AW.jK 22 K0 rfl K0 ?_;refine Zo (k:=Z4w ?_);iterate 3 refine Z4v ?_
    refine E.AW.jK 26 K0 rfl K0 ?_;refine Zo (k:=Zj (k:=Z4v ?_))
   rotate_right
   focus
    refine OW.buildSlice (Et:=3) (sz:=1) (ps:=[(0,.tmp 96)]) rfl rfl rfl rfl rfl K7 K4 (fun w=>df _ w) (fun A9=>?_);refine Zj (k:=Z1d (k:=?_));refine OW.dJ (j:=1) (i:=3) Od.O.fx Ux Jx rfl rfl rfl rfl rfl rfl rfl rfl rfl rfl K3 K3 (fun A10 c10=>?_);refine Zj (k:=Z2a (k:=?_));refine OW.ga (j:=1) (i:=3) Ux Jx rfl rfl rfl rfl rfl rfl rfl rfl rfl rfl K3 (fun A11 c11=>?_);refine Z4w ?_;iterate 3 refine Z4v ?_
    refine E.AW.jK 22 K0 rfl K0 ?_;refine Zo (k:=Z4w ?_);iterate 3 refine Z4v ?_
    refine E.AW.jK 26 K0 rfl K0 ?_;refine Zo (k:=Zj (k:=Z4v ?_))
  rotate_right
  focus
   refine OW.buildSlice (Et:=3) (sz:=1) (ps:=[(0,.tmp 96)]) rfl rfl rfl rfl rfl K7 K4 (fun w=>df _ w) (fun A12=>?_);refine Zj (k:=Z4D ?_);refine OW.buildSlice (Et:=324) (sz:=6) (cs:=fl Od.O.cs [oC]) (ps:=[(0,.tmp 87)]) rfl rfl rfl rfl rfl rfl K4 (fun w=>u7 w) (fun A13=>?_);refine Zj (k:=Z1d (k:=?_));refine OW.dJ (j:=0) (i:=3) Od.O.fx Ux Jx rfl rfl rfl rfl rfl rfl rfl rfl rfl rfl K3 K3 (fun A14 c14=>?_);refine Zj (k:=Z2a (k:=?_));refine OW.ga (j:=1) (i:=3) Ux Jx rfl rfl rfl rfl rfl rfl rfl rfl rfl rfl K3 (fun A15 c15=>?_);refine Z4w ?_;iterate 3 refine Z4v ?_
   refine E.AW.jK 22 K0 rfl K0 ?_;refine Zo (k:=Z4w ?_);iterate 3 refine Z4v ?_
   refine E.AW.jK 26 K0 rfl K0 ?_;refine Zo (k:=Zj (k:=Z4v ?_))
  all_goals
   refine Z4u ?_;first|(refine CW.aX [2,1,0,1] 2 rfl rfl ?_;refine CW.bO 2 (HP.aw B1 196 _) rfl rfl ?_)|(refine CW.aX [2,1,0,2] 2 rfl rfl ?_;refine CW.bO 2 (HP.aw B1 196 _) rfl rfl ?_)
   refine CW.bO 1 (HP.bk ⟨⟨b.q.os++[oC],b.q.q++[oC.id],nT⟩,_,_,_,_⟩) rfl rfl ?_;refine Zr (k:=Z11 (k:=?_));exact⟨_,by unfold dH;rw[aa (dN.2 hv),aa hsc,aa K1,aa hl9];simp only[hnT,hoC],rfl,rfl⟩
def Ez(PT PK PI:Nat)(m:Tm)(b:Bk)(S:Nat->Prop)(w0:World)(hS:(HP.aw PI 3 [J 0]).bA S w0)(hb:∀k,S k->k<w0.heap.size)(hT:Rd w0 (Fm w0 S) (some ⟨PT,0,.none⟩) m.cells)(hK:Rd w0 (Fm w0 S) (some ⟨PK,0,.none⟩) b.cells)(hm:m.rd w0 (Fm w0 S))(hbk:b.rd w0 (Fm w0 S))(hv:Ok m.q b.q):
  Calls prog 263 #[Y PT 0,Y PK 0,Y PI 0] w0 (db w0 (Fm w0 S) (fun v Hn=>∃b2:Bk,∃i,assign m.q b.q=.ok (b2.q,i)/\v=b2.v/\Hn=[HP.bk b2,HP.aw PI 3 [J i]]) fun c Hp=>(∃e,assign m.q b.q=.error e/\c=pn e)/\∃i,Hp=[HP.aw PI 3 [J i]]):=by
 have hql:=hv.ql;refine ZX (HA.au hS hb) ?_;refine Zg @Hc ?_;refine Z4t ?_;intro _ b2 BD hq2;refine OW.gy Mx rfl rfl rfl rfl rfl rfl _ _ (fun w hw=>fK _ _ w) (by rintro _ _ ⟨⟨hx,rfl⟩,rfl⟩;refine Kp (k:=?_);refine⟨[3],_,rfl,?_,⟨_,rfl⟩⟩;exact⟨6,by unfold assign;rw[aa (dN.2 hv),ae (by have:¬(0<(b.q.q.length:Int)):=(by rw[<-hq2];exact fc hx);omega)],rfl⟩) ?_;rintro _ _ ⟨hm1,rfl,rfl⟩
 have hq1:0<(b.q.q.length:Int):=by rw[<-hq2];exact bf hm1
 have hq0:0<b.q.q.length:=K1;have hq9:b2.q.q.length=b.q.q.length:=by rw[hq2]
 refine Z4t ?_;refine OW.pure rfl rfl rfl (PV.aY (fun w hw=>(hw.MD (i:=1) rfl).q) Ux Jx rfl rfl rfl (E.tn K1) (by first|(simp;done)|(simp;omega)|(rw[E.Fx.ct Od.O.fx];done)|(rw[E.Fx.ct Od.O.fx];omega)|(rw[E.Fx.iW Od.O.fx];done)|(rw[E.Fx.iW Od.O.fx];omega)) K1) ?_
 refine OW.pure rfl rfl rfl (PV.qf (fun w hw=>(hw.MD (i:=1) rfl).q) Nx rfl rfl K1) ?_;refine OW.put 22 (J (b.q.q.getD 0 0)) rfl (by rw[hq2]<;>rfl) ?_
 refine Zx (k:=Z4z ?_);iterate 2 refine Z4x ?_
 refine OW.kz (ec [1,1,0,0] 2 rfl rfl) ?_;refine OW.eR (aE:= #[]) Mx rfl rfl rfl rfl rfl rfl _ _ 0 rfl (fun w S hw hs hb hc=>iv BD b2 m _ 2 0 S w hs (fun k hk=>(hb k hk).1) K41) (by rintro _ _ ⟨⟨ex,hx,rfl⟩,rfl⟩;refine Kp (k:=?_);refine⟨[0],_,rfl,?_,⟨_,rfl⟩⟩;exact⟨ex,by unfold assign;rw[aa (dN.2 hv),aa hq0];rw[hq2] at hx;simp only[hx],rfl⟩) ?_;rintro _ _ ⟨b3,hb3,rfl,rfl⟩
 refine Z4t ?_;refine KR.we [1,1] rfl (rv.cell Ix rfl (dU 0 rfl) rfl) rfl ?_;exact⟨b3,b.q.q.getD 0 0,by unfold assign;rw[aa (dN.2 hv),aa hq0];rw[hq2] at hb3;simp only[hb3],rfl,rfl⟩
def RJ{fb:Nat}{aE:Array Value}(m:Except Int Od.B)(w0:World)(hn:E.Nm prog fb)
  (hq:∀w,HA w0 (Old w0) [] w->Calls prog fb aE w (db w (Old w) (fun v Hn=>∃b2:Bk,m=.ok b2.q/\v=b2.v/\Hn=[HP.bk b2]) fun c Hp=>(∃e,m=.error e/\c=pn e)/\Hp=[])):
  CO 262 #[.func (.func fb) #[] aE] w0 fun v Hn=>∃b2:Bk,v=.tuple #[b2.v,J (res Od.B.z m).2]/\b2.q=(res Od.B.z m).1/\Hn=[HP.ro b2.mem]:=by
 have h:=Vc fb aE HP.none (fun _=>False) (fun b Hn=>m=.ok b.q/\Hn=[HP.bk b]) (fun e Hn=>m=.error e/\Hn=[]) w0 hn (vB w0) (fun _ h=>h.elim) (fun w S' hw hs hb=>(hq w (nM w0▸hw.base)).mono fun e w' he=>he.elim (fun⟨v,Hn,e1,⟨b2,e2,e3,e4⟩,e5⟩=>.inl ⟨v,Hn,e1,⟨b2,e3,e2,e4⟩,e5.LJ fun k hk=>hk.1⟩) (fun⟨c,Hp,e1,⟨⟨x,e2,e3⟩,e4⟩,e5⟩=>.inr ⟨c,Hp,e1,⟨x,e3,e2,e4⟩,e5.LJ fun k hk=>hk.1⟩));unfold CF at h;rw[nM] at h;refine h.mono fun e w' ⟨v,Hn,e1,e2,e3⟩=>?_;rcases e2 with⟨b,rfl,hb,rfl⟩|⟨x,rfl,hx,rfl⟩
 ·exact⟨_,[HP.ro b.mem],e1,⟨b,by rw[hb];rfl,by rw[hb];rfl,rfl⟩,e3.gT [0] 1 rfl rfl (by simp)⟩
 exact⟨_,[HP.ro (Bk.mk Od.B.z .none 0 .none 0).mem],e1,⟨⟨Od.B.z,.none,0,.none,0⟩,by rw[hx];rfl,by rw[hx];rfl,rfl⟩,e3.wg Bk.U6⟩
def ad1{fb:Nat}{aE:Array Value}(m:Except Int (Od.B×Int))(PI:Nat)(S:Nat->Prop)(w0:World)(hn:E.Nm prog fb)(hS:(HP.aw PI 3 [J 0]).bA S w0)(hb:∀k,S k->k<w0.heap.size)
  (hq:∀w S',HA w0 (Fm w0 S) [HP.aw PI 3 [J 0]] w->(HP.aw PI 3 [J 0]).bA S' w->(∀k,S' k->k<w.heap.size/\¬Fm w0 S k)->Calls prog fb aE w (db w (Fm w S') (fun v Hn=>∃b2:Bk,∃i,m=.ok (b2.q,i)/\v=b2.v/\Hn=[HP.bk b2,HP.aw PI 3 [J i]]) fun c Hp=>(∃e,m=.error e/\c=pn e)/\∃i,Hp=[HP.aw PI 3 [J i]])):
  CF 262 #[.func (.func fb) #[] aE] w0 S fun v Hn=>∃b2:Bk,∃i,v=.tuple #[b2.v,J (res (Od.B.z,0) m).2]/\b2.q=(res (Od.B.z,0) m).1.1/\(∀x,m=.ok x->i=x.2)/\Hn=[HP.ro b2.mem,HP.aw PI 3 [J i]]:=by
 have h:=Vc fb aE (HP.aw PI 3 [J 0]) S (fun b Hn=>∃i,m=.ok (b.q,i)/\Hn=[HP.bk b,HP.aw PI 3 [J i]]) (fun e Hn=>m=.error e/\∃i,Hn=[HP.aw PI 3 [J i]]) w0 hn hS hb (fun w S' hw hs hb=>(hq w S' hw hs hb).mono fun e w' he=>he.elim (fun⟨v,Hn,e1,⟨b2,i,e2,e3,e4⟩,e5⟩=>.inl ⟨v,Hn,e1,⟨b2,e3,i,e2,e4⟩,e5⟩) (fun⟨c,Hp,e1,⟨⟨x,e2,e3⟩,e4⟩,e5⟩=>.inr ⟨c,Hp,e1,⟨x,e3,e2,e4⟩,e5⟩));refine h.mono fun e w' ⟨v,Hn,e1,e2,e3⟩=>?_;rcases e2 with⟨b,rfl,i,hb,rfl⟩|⟨x,rfl,hx,i,rfl⟩
 ·exact⟨_,[HP.ro b.mem,HP.aw PI 3 [J i]],e1,⟨b,i,by rw[hb];rfl,by rw[hb];rfl,fun x hx=>by rw[hb] at hx;cases hx;rfl,rfl⟩,e3.gT [0,0] 1 rfl rfl (by simp)⟩
 exact⟨_,[HP.ro (Bk.mk Od.B.z .none 0 .none 0).mem,HP.aw PI 3 [J i]],e1,⟨⟨Od.B.z,.none,0,.none,0⟩,i,by rw[hx];rfl,by rw[hx];rfl,(fun y hy=>by rw[hx] at hy;cases hy),rfl⟩,e3.wg Bk.U6⟩
def adG{fb:Nat}{aE:Array Value}(m:Except Int Od.O)(w0:World)(hn:E.Nm prog fb)
  (hq:∀w,HA w0 (Old w0) [] w->Calls prog fb aE w (db w (Old w) (fun v Hn=>∃o:Od.O,m=.ok o/\v=o.v/\Hn=[]) fun c Hp=>(∃e,m=.error e/\c=pn e)/\Hp=[])):
  CV 213 #[.func (.func fb) #[] aE] w0 (.tuple #[(res Od.O.z m).1.v,J (res Od.O.z m).2]):=by
 have h:=acM fb aE HP.none (fun _=>False) (fun b Hn=>m=.ok b/\Hn=[]) (fun e Hn=>m=.error e/\Hn=[]) w0 hn (vB w0) (fun _ h=>h.elim) (fun w S' hw hs hb=>(hq w (nM w0▸hw.base)).mono fun e w' he=>he.elim (fun⟨v,Hn,e1,⟨b2,e2,e3,e4⟩,e5⟩=>.inl ⟨v,Hn,e1,⟨b2,e3,e2,e4⟩,e5.LJ fun k hk=>hk.1⟩) (fun⟨c,Hp,e1,⟨⟨x,e2,e3⟩,e4⟩,e5⟩=>.inr ⟨c,Hp,e1,⟨x,e3,e2,e4⟩,e5.LJ fun k hk=>hk.1⟩));unfold CF at h;rw[nM] at h;refine h.mono fun e w' ⟨v,Hn,e1,e2,e3⟩=>?_;rcases e2 with⟨b,rfl,hb,rfl⟩|⟨x,rfl,hx,rfl⟩
 ·exact⟨_,[],e1,⟨by rw[hb];rfl,rfl⟩,e3⟩
 exact⟨_,[],e1,⟨by rw[hx];rfl,rfl⟩,e3⟩
def adV{fb:Nat}{aE:Array Value}(w0:World)(hn:E.Nm prog fb)
  (hq:∀w,HA w0 (Old w0) [] w->Calls prog fb aE w (bK w (Old w) (fun v Hn=>∃a:am,v=.pointer a/\Hn=[]))):
  CO 287 #[.func (.func fb) #[] aE] w0 fun v Hn=>∃a:am,v=.tuple #[.pointer a,J 0]/\Hn=[]:=by
 have h:=ab5 fb aE HP.none (fun _=>False) (fun b Hn=>Hn=[]) (fun e Hn=>False) w0 hn (vB w0) (fun _ h=>h.elim) (fun w S' hw hs hb=>(hq w (nM w0▸hw.base)).mono fun e w' ⟨v,Hn,e1,⟨a,e3,e4⟩,e5⟩=>.inl ⟨v,Hn,e1,⟨a,e3,e4⟩,e5.LJ fun k hk=>hk.1⟩);unfold CF at h;rw[nM] at h;refine h.mono fun e w' ⟨v,Hn,e1,e2,e3⟩=>?_;rcases e2 with⟨b,rfl,rfl⟩|⟨x,rfl,hx⟩
 ·exact⟨_,[],e1,⟨_,rfl,rfl⟩,e3⟩
 exact hx.elim
def rD(m:Tm)(b:Bk)(id:Int)(w0:World)(hm:m.rd w0 (Old w0))(hb:b.rd w0 (Old w0))(hv:Ok m.q b.q):
  CO 242 #[m.v,b.v,J id] w0 fun v Hn=>∃b2:Bk,v=.tuple #[b2.v,J (res Od.B.z (Od.move b.q id 5 0)).2]/\b2.q=(res Od.B.z (Od.move b.q id 5 0)).1/\Hn=[HP.ro b2.mem]:=by
 refine Zq ?_;refine Z4t ?_;intro B1 B2 B3 _;refine OW.call Mx rfl rfl rfl rfl rfl rfl _ (fun w hw=>RJ (Od.move b.q id 5 0) w Mx (fun w2 hw2=>FQ B1 B2 m b B3 id w2 (hw2.rd (hw.dq (i:=3) rfl)) (hw2.rd (hw.dq (i:=2) rfl)) (hw2.oP (hw.oP hm)) (hw2.HX (hw.HX hb)) hv (hw2.rd (hw.dq (i:=1) rfl)))) ?_;rintro _ _ ⟨b2,rfl,hb2,rfl⟩;refine Zr (k:=Z4Q ?_);exact⟨b2,rfl,hb2,rfl⟩
def Oq(m:Tm)(b:Bk)(id:Int)(w0:World)(hm:m.rd w0 (Old w0))(hb:b.rd w0 (Old w0))(hv:Ok m.q b.q):
  CO 234 #[m.v,b.v,J id] w0 fun v Hn=>∃b2:Bk,v=.tuple #[b2.v,J (res Od.B.z (Od.move b.q id 3 0)).2]/\b2.q=(res Od.B.z (Od.move b.q id 3 0)).1/\Hn=[HP.ro b2.mem]:=by
 refine Zq ?_;refine Z4t ?_;intro B1 B2 B3 _;refine OW.call Mx rfl rfl rfl rfl rfl rfl _ (fun w hw=>RJ (Od.move b.q id 3 0) w Mx (fun w2 hw2=>KK B1 B2 m b B3 id w2 (hw2.rd (hw.dq (i:=3) rfl)) (hw2.rd (hw.dq (i:=2) rfl)) (hw2.oP (hw.oP hm)) (hw2.HX (hw.HX hb)) hv (hw2.rd (hw.dq (i:=1) rfl)))) ?_;rintro _ _ ⟨b2,rfl,hb2,rfl⟩;refine Zr (k:=Z4Q ?_);exact⟨b2,rfl,hb2,rfl⟩
def RL(m:Tm)(b:Bk)(id now:Int)(w0:World)(hm:m.rd w0 (Old w0))(hb:b.rd w0 (Old w0))(hv:Ok m.q b.q):
  CO 235 #[m.v,b.v,J id,V now] w0 fun v Hn=>∃b2:Bk,v=.tuple #[b2.v,J (res Od.B.z (Od.move b.q id 4 now)).2]/\b2.q=(res Od.B.z (Od.move b.q id 4 now)).1/\Hn=[HP.ro b2.mem]:=by
 refine Zq ?_;refine Z4t ?_;intro B1 B2 B3 B4 _;refine OW.call Mx rfl rfl rfl rfl rfl rfl _ (fun w hw=>RJ (Od.move b.q id 4 now) w Mx (fun w2 hw2=>Nt B1 B2 m b B3 B4 id now w2 (hw2.rd (hw.dq (i:=4) rfl)) (hw2.rd (hw.dq (i:=3) rfl)) (hw2.oP (hw.oP hm)) (hw2.HX (hw.HX hb)) hv (hw2.rd (hw.dq (i:=2) rfl)) (hw2.rd (hw.dq (i:=1) rfl)))) ?_;rintro _ _ ⟨b2,rfl,hb2,rfl⟩;refine Zr (k:=Z4Q ?_);exact⟨b2,rfl,hb2,rfl⟩
def Wd(m:Tm)(b:Bk)(id:Int)(w0:World)(hm:m.rd w0 (Old w0))(hb:b.rd w0 (Old w0))(hv:Ok m.q b.q):
  CV 181 #[m.v,b.v,J id] w0 (.tuple #[(res Od.O.z (kq m.q b.q id)).1.v,J (res Od.O.z (kq m.q b.q id)).2]):=by
 refine Zq ?_;refine Z4t ?_;intro B1 B2 B3 _;refine OW.call Mx rfl rfl rfl rfl rfl rfl _ (fun w hw=>adG (kq m.q b.q id) w Mx (fun w2 hw2=>RG B1 B2 m b B3 id w2 (hw2.rd (hw.dq (i:=3) rfl)) (hw2.rd (hw.dq (i:=2) rfl)) (hw2.oP (hw.oP hm)) (hw2.HX (hw.HX hb)) hv (hw2.rd (hw.dq (i:=1) rfl)))) ?_;rintro _ _ ⟨rfl,rfl⟩;refine Zk ?_;exact⟨rfl,rfl⟩
def Ku(m:Tm)(b:Bk)(w0:World)(hm:m.rd w0 (Old w0))(hb:b.rd w0 (Old w0))(hv:Ok m.q b.q):
  CV 257 #[m.v,b.v] w0 (J 0):=by
 refine Zq ?_;refine Z4t ?_;intro B1 B2;refine OW.call Mx rfl rfl rfl rfl rfl rfl _ (fun w hw=>adV w Mx (fun w2 hw2=>Jb B1 B2 m b w2 (hw2.rd (hw.dq (i:=1) rfl)) (hw2.rd (hw.dq (i:=0) rfl)) (hw2.oP (hw.oP hm)) (hw2.HX (hw.HX hb)) hv)) ?_;rintro _ _ ⟨aD,rfl,rfl⟩;refine Zk ?_;exact⟨rfl,rfl⟩
def ji(m:Tm)(b:Bk)(pick drop now:Int)(w0:World)(hm:m.rd w0 (Old w0))(hb:b.rd w0 (Old w0))(hv:Ok m.q b.q)(hnow:0<=now/\now<18446744073709551616):
  CO 241 #[m.v,b.v,J pick,J drop,V now] w0 fun v Hn=>∃b2:Bk,v=.tuple #[b2.v,J b2.q.os.length,J (res Od.B.z (dH m.q b.q pick drop now)).2]/\b2.q=(res Od.B.z (dH m.q b.q pick drop now)).1/\Hn=[HP.ro b2.mem]:=by
 refine Zq ?_;refine Z4t ?_;intro B1 B2 B3 B4 B5 _;refine OW.call Mx rfl rfl rfl rfl rfl rfl _ (fun w hw=>RJ (dH m.q b.q pick drop now) w Mx (fun w2 hw2=>FK B1 B2 m b B3 B4 B5 pick drop now w2 (hw2.rd (hw.dq (i:=5) rfl)) (hw2.rd (hw.dq (i:=4) rfl)) (hw2.oP (hw.oP hm)) (hw2.HX (hw.HX hb)) hv (hw2.rd (hw.dq (i:=3) rfl)) (hw2.rd (hw.dq (i:=2) rfl)) (hw2.rd (hw.dq (i:=1) rfl)) hnow)) ?_;rintro _ _ ⟨b2,rfl,hb2,rfl⟩;refine Z4u ?_;intros;refine Z1c (k:=Zr (k:=Z2b (k:=?_)));exact⟨b2,rfl,hb2,rfl⟩
def nO(m:Tm)(b:Bk)(w0:World)(hm:m.rd w0 (Old w0))(hbk:b.rd w0 (Old w0))(hv:Ok m.q b.q):
  CO 231 #[m.v,b.v] w0 fun v Hn=>∃b2:Bk,∃i:Int,v=.tuple #[b2.v,J i,J (res (Od.B.z,0) (assign m.q b.q)).2]/\b2.q=(res (Od.B.z,0) (assign m.q b.q)).1.1/\(∀x,assign m.q b.q=.ok x->i=x.2)/\Hn=[HP.ro b2.mem]:=by
 refine Zq ?_;refine Z4t ?_;intro B1 B2 _ B4;refine OW.aU Mx rfl rfl rfl rfl rfl rfl _ 0 rfl (fun w S hw hs hb hc=>ad1 (assign m.q b.q) B4 S w Mx hs (fun k hk=>(hb k hk).1) (fun w2 S2 hw2 hs2 hb2=>Ez B1 B2 B4 m b S2 w2 hs2 (fun k hk=>(hb2 k hk).1) (hw2.fD ((ez hc (i:=2) rfl).at 0 rfl) hb2) (hw2.fD ((ez hc (i:=1) rfl).at 0 rfl) hb2) (hw2.vD (hw.vD hm hb) hb2) (Bk.sy.2 (hw2.vJ (hw.vJ (Bk.sy.1 hbk) hb) hb2)) hv)) ?_;rintro _ _ ⟨b2,i2,rfl,hb2,hi2,rfl⟩;refine Z4u ?_;intros;refine Z1b (k:=Zr (k:=Z2b (k:=?_)));exact⟨b2,i2,rfl,hb2,hi2,rfl⟩
def lD(A:am)(l:List Hd)(k:Nat)(w0:World)(hA:ce w0 A (fl Hd.cs l))(hk:k<l.length):
  CV 189 #[bB A (k*7)] w0 (.bool (decide (0<(l.getD k Hd.z).sl))):=by
 refine Zq ?_;refine Zk ?_;exact⟨rfl,rfl⟩
def Pz(A:am)(l:List Hd)(k:Nat)(w0:World)(hA:ce w0 A (fl Hd.cs l))(hk:k<l.length):
  CV 290 #[bB A (k*7)] w0 (.bool (decide ((l.getD k Hd.z).st=2)||decide ((l.getD k Hd.z).st=5)||decide ((l.getD k Hd.z).st=8))):=by
 refine Zq ?_;refine Zs ?_ ?_;all_goals first|(refine Zt ?_ ?_<;>try exact⟨⟩)|((iterate 8 (refine Z4x ?_;intros)))|skip
 all_goals
  refine Zk ?_;intros;generalize l.getD k Hd.z=h at*;exact⟨aq Value.bool (by rw[de];simp;omega),rfl⟩
def kj(B:Nat)(s:Sh)(id:Int)(w0:World)(hs:s.rd w0 (Old w0) B)(hl:s.b.q.os.length<=64):
  CV 259 #[Y B 0,J id] w0 (.tuple #[(ord s.b.q id).v,.bool (bt s.b.q id)]):=by
 have hs2:=hs;obtain⟨hkc,hh,ho,hq,hg,hm⟩:=hs2;have hhl:=da s.rs;refine Zq ?_;refine Zs ?_ ?_
 all_goals
  refine Zd ?_ ?_
  ·try exact⟨⟩
   all_goals
    refine Zk ?_;intros;have hi:bt s.b.q id=false:=by(rw[<-kT,bP];omega)
    exact⟨by unfold ord;rw[hi];rfl,rfl⟩
  try exact⟨⟩
  all_goals
   refine Zk ?_;intros;have hi:bt s.b.q id=true:=bP.2 K1;exact⟨by unfold ord;rw[hi];rfl,rfl⟩
def sU(B:Nat)(s:Sh)(e:Ev)(k:Nat)(w0:World)(hs:s.rd w0 (Old w0) B)(he:e.m=s.m.q)(hv:Ok s.m.q s.b.q)(hk:k<s.rs.length)(hn:s.rs.length=s.m.q.h.length):
  CV 225 #[Y B 0,bB s.A (k*7)] w0 (.tuple #[J (Cr.goal e s.b.q k (Cr.at_ s.rs k)).1,.bool (Cr.goal e s.b.q k (Cr.at_ s.rs k)).2]):=by
 have hs2:=hs;obtain⟨hkc,hh,ho,hq,hg,hm⟩:=hs2;have hhl:=da s.rs;have hm0:=hm;obtain⟨hm1,hm2,hm3⟩:=hm0;have hln:=cz hv.n;refine Zq ?_;refine Z4t ?_;refine OW.call Mx rfl rfl rfl rfl rfl rfl _ (fun w hw=>kj B s _ w (hw.Mh hs) hv.l) ?_;rintro _ _ ⟨rfl,rfl⟩;refine Zc ?_ ?_
 ·refine Zc ?_ ?_
  ·refine Z4u ?_;intros;have hio:=Cr.kj hv K2;refine Z0 (k:=?_);refine Zk ?_;exact⟨by unfold Cr.goal;rw[aa K1,aa K2,he],rfl⟩
  refine Zk ?_;intros;exact⟨by unfold Cr.goal;first|rw[aa K1,ae K8]|rw[ae K1,aa K1,ae K8]|rw[ae K1,ae K1,ae K1],rfl⟩
 refine Zc ?_ ?_
 ·refine Zc ?_ ?_
  ·refine Z4u ?_;intros;have hio:=Cr.kj hv K2;refine Z0 (k:=?_);refine Zk ?_;exact⟨by unfold Cr.goal;rw[aa K1,aa K2,he],rfl⟩
  refine Zk ?_;intros;exact⟨by unfold Cr.goal;first|rw[aa K1,ae K8]|rw[ae K1,aa K1,ae K8]|rw[ae K1,ae K1,ae K1],rfl⟩
 refine Zc ?_ ?_
 ·refine Zc ?_ ?_
  ·refine Z4u ?_;intros;have hio:=Cr.kj hv K2;refine Z0 (k:=?_);refine Zk ?_;exact⟨by unfold Cr.goal;rw[ae K1,aa K1,aa K2,he],rfl⟩
  refine Zk ?_;intros;exact⟨by unfold Cr.goal;first|rw[aa K1,ae K8]|rw[ae K1,aa K1,ae K8]|rw[ae K1,ae K1,ae K1],rfl⟩
 refine Zc ?_ ?_
 ·refine Zc ?_ ?_
  ·refine Z4u ?_;intros;have hio:=Cr.kj hv K2;refine Z0 (k:=?_);refine Zk ?_;exact⟨by unfold Cr.goal;rw[ae K1,aa K1,aa K2,he],rfl⟩
  refine Zk ?_;intros;exact⟨by unfold Cr.goal;first|rw[aa K1,ae K8]|rw[ae K1,aa K1,ae K8]|rw[ae K1,ae K1,ae K1],rfl⟩
 refine Zc ?_ ?_
 ·refine Z4u ?_;intros;refine Z0 (k:=?_);refine Zk ?_;exact⟨by unfold Cr.goal;rw[ae K1,ae K1,aa K1,he],rfl⟩
 refine Zc ?_ ?_
 ·refine Z4u ?_;intros;refine Z0 (k:=?_);refine Zk ?_;exact⟨by unfold Cr.goal;rw[ae K1,ae K1,aa K1,he],rfl⟩
 refine Zk ?_;intros;exact⟨by unfold Cr.goal;first|rw[aa K1,ae K8]|rw[ae K1,aa K1,ae K8]|rw[ae K1,ae K1,ae K1],rfl⟩
def Ww(w0:World):
  CO 14 #[] w0 fun v Hn=>∃g2:aP,v=g2.v/\Hn=[HP.cfg g2]/\g2.q=Cf.ex:=by
 refine Zq ?_;refine Z4t ?_;intros;refine OW.bsl 1 (aA RK) rfl rfl (fun w=>nS w) (fun AS=>?_);refine OW.chunk 0 (HP.row 5 1 AS (List.length RK) 6 (aA RK)) rfl rfl ?_;refine OW.put 6 (.slice AS (List.length RK) 6) rfl rfl ?_;refine OW.pure rfl rfl rfl (PV.build (ps:=[(0,.tmp 5),(1,.tmp 6)]) rfl rfl (fun w=>(Kj).h w)) ?_;refine Z4u ?_;intro BX;refine ZV (k:=Z4t ?_);refine CW.av [0,1] 2 rfl rfl (fun mm mods Hm=>∃k:Nat,∃D:am,∃q:Nat,mm=4-k/\mods=[(2,J k)]/\Hm=[HP.row 5 1 D (II.take (5*k)).length q (aA (II.take (5*k))),HP.aw BX 28 [J 5,J 4,.slice D (II.take (5*k)).length q,.slice AS (List.length RK) 6,.slice none 0 0,V 0]]/\k<=4) (4) ?_ ?_
 ·exact⟨[(2,_)],Kc,0,none,0,rfl,rfl,rfl,K1⟩
 rintro _ _ _ ⟨k,D,q,rfl,rfl,rfl,hk⟩;refine Zc ?_ ?_
 ·refine Zx (k:=Z4y ?_);intros;refine CW.put 3 (U ((v8 k).toNat:Int)) rfl (by refine aq (Value.int .u8) ?_;exact S7 K1) ?_
  have hlk:(II.take (5*k)).length<=20:=by simp[II];omega
  refine Z4t ?_;refine OW.bsl 1 (aA ([v8 k,v8 k,255,v8 k,v8 k])) rfl rfl (fun w=>pU w) (fun A4=>?_);refine OW.chunk 0 (HP.row 5 1 A4 (List.length ([v8 k,v8 k,255,v8 k,v8 k])) 5 (aA ([v8 k,v8 k,255,v8 k,v8 k]))) rfl rfl ?_;refine OW.put 23 (.slice A4 (List.length ([v8 k,v8 k,255,v8 k,v8 k])) 5) rfl rfl ?_;refine OW.iP (i:=1) Ux Jx rfl rfl rfl rfl rfl rfl rfl rfl rfl (iH (i:=0) rfl) K17 (fun AN cN=>?_);refine Z4t ?_;refine⟨_,[(2,_)],[1,0,1,1],_,?_,Kc,rfl,k+1,AN,cN,rfl,rfl,by rw[<-NC (show k<4 by omega)],K1⟩
  omega
 refine Z4u ?_;intro hc;have hk4:k=4:=K1;refine CW.bM 65 8 ?_;refine CW.Qz ?_;refine Z4t ?_;refine CW.sels [0,2,0,0,0,0] rfl ?_;refine CW.av [0,1] 3 rfl rfl (fun mm mods Hm=>∃k2:Nat,∃D2:am,∃q2:Nat,∃tt:List Tm,mm=2-k2/\mods=[(4,J k2)]/\Hm=[HP.tms tt,HP.aw BX 28 [J 5,J 4,.slice D (II.take (5*k)).length q,.slice AS (List.length RK) 6,.slice D2 tt.length q2,V 0],HP.row 65 8 D2 tt.length q2 (tms tt)]/\(k2<=2/\tt.length=k2/\tt.map (·.q)=Cf.ex.ts.take k2)) (2) ?_ ?_
 ·exact⟨[(4,_)],Kc,0,none,0,[],rfl,rfl,rfl,K1,rfl,rfl⟩
 rintro _ _ _ ⟨k2,D2,q2,tt,rfl,rfl,rfl,hk2,htl,htq⟩;refine Zc ?_ ?_
 ·refine Z4t ?_;intros;refine OW.bsl 1 _ rfl rfl (fun w=>df _ w) (fun AI1=>?_);refine Z4t ?_;refine OW.bsl 1 _ rfl rfl (fun w=>df _ w) (fun AI2=>?_);refine Z4t ?_;refine OW.bsl 1 _ rfl rfl (fun w=>df _ w) (fun AI3=>?_);refine Z4t ?_;refine OW.bsl 8 (tms [(⟨Cf.ext k2,AI1,AI2,AI3,1,1,1⟩:Tm)]) rfl rfl (fun w=>wU w) (fun AL=>?_);refine OW.PG (i:=5) (j:=0) Ux Jx rfl rfl rfl rfl rfl rfl rfl rfl rfl rfl K4 K1 (fun AT cT=>?_);refine Z4u ?_;refine CW.aX [4,3,2,0,0,0,0,0,0] 3 rfl rfl ?_;refine CW.chunk 0 (HP.tm (⟨Cf.ext k2,AI1,AI2,AI3,1,1,1⟩:Tm)) rfl rfl ?_;refine CW.FB 0 2 rfl rfl ?_;refine Z4t ?_;refine⟨_,[(4,_)],[0,0,0,0,0,0],_,?_,Kc,rfl,k2+1,AT,cT,tt++[(⟨Cf.ext k2,AI1,AI2,AI3,1,1,1⟩:Tm)],rfl,rfl,rfl,K1,by simp;omega,Nz htq K1 rfl⟩
  omega
 refine Z4u ?_;intros;have hk2:k2=2:=K1;refine CW.aX [3,3,2,0,0,0] 4 rfl rfl ?_;refine Zr (k:=Z11 (k:=?_));subst hk4 hk2;refine⟨⟨5,4,(II.take (5*4)),RK,tt,0,D,q,AS,6,D2,q2⟩,rfl,rfl,?_⟩;simp only[aP.q];rw[htq];rfl
end Go.Proofs.YtcgecopggfjojaaGreatDoor
