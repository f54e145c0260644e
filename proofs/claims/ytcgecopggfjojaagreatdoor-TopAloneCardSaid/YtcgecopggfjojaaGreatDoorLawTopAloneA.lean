/- TopAlone: from the walk to the row. -/
import Derived.Test.YtcgecopggfjojaaGreatDoorRows
import Derived.LaidMore
import Derived.OpenShut
import Derived.Stop.Joined
import Derived.SevenTiedAt
import Derived.Test.YtcgecopggfjojaaGreatDoorK18
set_option maxRecDepth 100000
set_option linter.all false
set_option maxHeartbeats 0
namespace Go.Proofs.YtcgecopggfjojaaGreatDoor
open Go Go.RowKit Go.ChangeShapes Go.WideShapes Go.ChangeAt
theorem ownK:ownKnob Tryz.prog.godebug=none:=K0
variable{H:Type}{enc:TypeId×Value->H}{w:World}{fuel n:Nat}{cs l:List Value}{x:DataW H×List MemPlace}{o:Option (DataW H×List MemPlace)}
abbrev TDq(enc:TypeId×Value->H)(w:World)(n t:Nat)(cs:List Value)(x:DataW H×List MemPlace):Prop:=DataW.trod enc Tryz.prog w 0 (fun _=>true) true n t cs=some x
abbrev WTq(d:DataW H)(t:Nat):Prop:=(d.weights Tryz.prog t).all (·<=reachBytes)=true
theorem tqq(t:Nat)(h:DataW.trod enc Tryz.prog w 0 (fun _=>true) true n t l=o)(cs:List Value)(hl:l=cs:=by(kernel_rfl))(ho:o=some x:=by rfl):TDq enc w n t cs x:=by subst hl ho;exact h
theorem rc24(h:TDq enc w fuel 24 cs x)(hw:WTq x.1 24):∃(x0 x1:Int) (A2:Option Addr) (c2:Nat) (x2:List UInt8),cs=[.int .i64 x0, .int .i64 x1, .slice A2 x2.length c2]/\(-9223372036854775808<=x0/\x0<=9223372036854775807)/\(-9223372036854775808<=x1/\x1<=9223372036854775807)/\E.Rd w (E.Old w) A2 (E.aA x2)/\x2.length<=140737488351232:=by
 obtain⟨xs,n,_,rfl,hl,hlen,hf⟩:=DataW.trod_struct Tryz.underlying24 h
 match cs,hl.trans (show Tryz.prog.cellsOf 24=3 from K0) with
 |[k0,k1,k2],_=>
 match xs,hlen with
 |[y0,y1,y2],_=>
 simp only[DataW.weights,Tryz.underlying24,List.map_cons,List.map_nil] at hw
 obtain⟨x0,⟨⟩,p⟩:=E.l6 Tryz.underlying3 (tqq 3 (hf 0 _ rfl) [k0])
 obtain⟨x1,⟨⟩,q⟩:=E.l6 Tryz.underlying3 (tqq 3 (hf 1 _ rfl) [k1])
 obtain⟨A2,c2,x2,⟨⟩,r⟩:=E.EF Tryz.underlying22 Tryz.underlying5 K0 K0 (tqq 22 (hf 2 _ rfl) [k2]) (E.dO hw (j:=2) rfl rfl)
 exact⟨x0,x1,A2,c2,x2,rfl,p,q,r⟩
theorem tmat65{fuel:Nat}{cs:List Value}{x:DataW H×List MemPlace}(h:TDq enc w fuel 65 cs x)(hw:WTq x.1 65):E.abd w cs:=by
 obtain⟨xs,n,_,rfl,hl,hlen,hf⟩:=DataW.trod_struct Tryz.underlying65 h
 match cs,hl.trans (show Tryz.prog.cellsOf 65=8 from K0) with
 |[k0,k1,k2,k3,k4,k5,k6,k7],_=>
 match xs,hlen with
 |[y0,y1,y2,y3,y4,y5,y6,y7],_=>
 simp only[DataW.weights,Tryz.underlying65,List.map_cons,List.map_nil] at hw
 obtain⟨A0,c0,x0,⟨⟩,r0,l0,s0⟩:=E.zV Tryz.underlying63 Tryz.underlying3 K0 K0 (tqq 63 (hf 0 _ rfl) [k0]) (E.dO hw (j:=0) rfl rfl)
 obtain⟨A1,c1,x1,⟨⟩,r1,l1,s1⟩:=E.zV Tryz.underlying63 Tryz.underlying3 K0 K0 (tqq 63 (hf 1 _ rfl) [k1]) (E.dO hw (j:=1) rfl rfl)
 obtain⟨A2,c2,x2,⟨⟩,r2,l2,s2⟩:=E.zV Tryz.underlying63 Tryz.underlying3 K0 K0 (tqq 63 (hf 2 _ rfl) [k2]) (E.dO hw (j:=2) rfl rfl)
 obtain⟨x3,⟨⟩,a3⟩:=E.l6 Tryz.underlying3 (tqq 3 (hf 3 _ rfl) [k3])
 obtain⟨x4,⟨⟩,a4⟩:=E.l6 Tryz.underlying3 (tqq 3 (hf 4 _ rfl) [k4])
 obtain⟨x5,⟨⟩,a5⟩:=E.l6 Tryz.underlying3 (tqq 3 (hf 5 _ rfl) [k5])
 obtain⟨x6,⟨⟩,a6⟩:=E.l6 Tryz.underlying3 (tqq 3 (hf 6 _ rfl) [k6])
 obtain⟨x7,⟨⟩,a7⟩:=E.l6 Tryz.underlying3 (tqq 3 (hf 7 _ rfl) [k7])
 exact⟨⟨⟨x0,x1,x2,x3,x4,x5,x6,x7⟩,A0,A1,A2,c0,c1,c2⟩,rfl,⟨r0,r1,r2⟩,⟨l0,l1,l2,s0,s1,s2,a3,a4,a5,a6,a7⟩⟩
theorem rc28(h:TDq enc w fuel 28 cs x)(hw:WTq x.1 28):∃g:E.aP,Value.agg cs.toArray=g.v/\g.rd w (E.Old w)/\g.q.fit:=by
 obtain⟨xs,n,_,rfl,hl,hlen,hf⟩:=DataW.trod_struct Tryz.underlying28 h
 match cs,hl.trans (show Tryz.prog.cellsOf 28=6 from K0) with
 |[k0,k1,k2,k3,k4,k5],_=>
 match xs,hlen with
 |[y0,y1,y2,y3],_=>
 simp only[DataW.weights,Tryz.underlying28,List.map_cons,List.map_nil] at hw
 obtain⟨x0,x1,A2,c2,x2,⟨⟩,a0,a1,r2,l2⟩:=rc24 (tqq 24 (hf 0 _ rfl) [k0,k1,k2]) (E.dO hw (j:=0) rfl rfl)
 obtain⟨A3,c3,x3,⟨⟩,r3,l3⟩:=E.EF Tryz.underlying22 Tryz.underlying5 K0 K0 (tqq 22 (hf 1 _ rfl) [k3]) (E.dO hw (j:=1) rfl rfl)
 obtain⟨A4,c4,x4,⟨⟩,r4,m4,f4,l4⟩:=E.VV Tryz.underlying25 K0 K0 tmat65 (tqq 25 (hf 2 _ rfl) [k4]) (E.dO hw (j:=2) rfl rfl)
 obtain⟨x5,⟨⟩,a5⟩:=E.M4 Tryz.underlying26 (tqq 26 (hf 3 _ rfl) [k5])
 exact⟨⟨x0,x1,x2,x3,x4,x5,A2,c2,A3,c3,A4,c4⟩,rfl,⟨r2,r3,r4,m4⟩,⟨a0,a1,l2,l3,by simpa[E.aP.q] using l4,fun t ht=>by
  obtain⟨m,hm,rfl⟩:=List.mem_map.1 ht
  exact f4 m hm,a5⟩⟩
theorem ops28{r:Reach}{b0:Nat}{v:Value}{d:DataW H}{ps:List MemPlace}(hval:Value.okWide Tryz.prog w r b0 28 v)(h:DataW.Trod enc Tryz.prog w 0 (fun _=>true) true 28 v d ps)(hw:WTq d 28):∃g:E.aP,v=g.v/\g.rd w (E.Old w)/\g.q.fit:=by
 obtain⟨⟨cs⟩,rfl,_⟩:=okWide_struct Tryz.underlying28 hval
 obtain⟨fuel,hf⟩:=h
 exact rc28 hf hw
theorem swat48{fuel:Nat}{cs:List Value}{x:DataW H×List MemPlace}(h:TDq enc w fuel 48 cs x)(hw:WTq x.1 48):E.Wn w cs:=by
 obtain⟨xs,n,_,rfl,hl,hlen,hf⟩:=DataW.trod_struct Tryz.underlying48 h
 match cs,hl.trans (show Tryz.prog.cellsOf 48=6 from K0) with
 |[k0,k1,k2,k3,k4,k5],_=>
 match xs,hlen with
 |[y0,y1,y2,y3,y4,y5],_=>
 simp only[DataW.weights,Tryz.underlying48,List.map_cons,List.map_nil] at hw
 obtain⟨x0,⟨⟩⟩:=E.aaT Tryz.underlying5 (tqq 5 (hf 0 _ rfl) [k0])
 obtain⟨x1,⟨⟩,_⟩:=E.l6 Tryz.underlying3 (tqq 3 (hf 1 _ rfl) [k1])
 obtain⟨x2,⟨⟩,_⟩:=E.l6 Tryz.underlying3 (tqq 3 (hf 2 _ rfl) [k2])
 obtain⟨x3,⟨⟩⟩:=E.aaT Tryz.underlying5 (tqq 5 (hf 3 _ rfl) [k3])
 obtain⟨x4,⟨⟩,_⟩:=E.M4 Tryz.underlying26 (tqq 26 (hf 4 _ rfl) [k4])
 obtain⟨A5,c5,x5,⟨⟩,r5,l5⟩:=E.YG Tryz.underlying22 Tryz.underlying5 K0 K0 (tqq 22 (hf 5 _ rfl) [k5]) (E.dO hw (j:=5) rfl rfl)
 have b (n:UInt8):0<=(n.toNat:Int)/\(n.toNat:Int)<256:=by have:=n.toNat_lt;omega
 exact⟨⟨⟨(x0.toNat:Int),x1,x2,(x3.toNat:Int),x4,x5⟩,A5,c5⟩,rfl,⟨b x0,b x3,l5⟩,r5⟩
abbrev lmq(w:World):Prop:=laidMetH Tryz.prog Rows.topAloneRow.laid w
theorem door_met(os:Os)(args:Array Value):lmq ((World.doorLaid Tryz.prog 23 os).forCall (fun _ _=>0) ⟨#[],args,[]⟩).memory:=
 laidMetH_of_parts3 (fuel:=8) (laidMet_of_run' 8 K0 K0) K0 K0
theorem TopAlone_lifted(os:Os)(started:os.Started)(H:Type)(enc:TypeId×Value->H):ReturnsInHanded {} Tryz.checked os 3 .any (fun w args=>(Rows.topAloneSpec.pre enc Tryz.prog Tryz.f3 [] false w args/\lmq w)/\sizedMet enc Tryz.prog Tryz.f3 (OpenSpec.ofChange Rows.topAloneSpec) false w args) (Rows.topAloneSpec.post enc Tryz.prog Tryz.f3 false true false false):=by
 refine returnsInHanded_of_change_and (C:=Tryz.checked) (X:=fun w _=>lmq w) (fun _ _ _ hh h=>h.of_heap hh) ownK started K0 Tryz.func3
  (ChangeSpec.witness_shaped (enc:=enc) (C:=Tryz.checked) (os:=os) (X:=fun w _=>lmq w) false (World.doorLaid Tryz.prog 23 os) #[.agg #[.int .i64 0, .int .i64 0, .slice none 0 0, .slice none 0 0, .slice none 0 0, .int .u64 0], .slice none 0 0, .slice none 0 0, .int .i64 0] 8 rfl (World.shaped_of_RefB K0 K0) K0 K0 K0 (door_met os _)) ?_
 intro W base args ds gs before hval0 hW _ hsz0 hL _
 have hsz:(DataW.weightsEach Tryz.prog (Tryz.f3.params.toList++Rows.topAloneSpec.plain.varTypes Tryz.prog) (ds++gs)).all (·<=reachBytes)=true:=hsz0
 clear hsz0
 have hval:∀(j:Nat) t v,Tryz.f3.params[j]? =some t->args[j]? =some v->Value.okWide Tryz.prog W .any base t v:=hval0
 have hW':=hW
 obtain⟨p,q,hA0,hV,rfl,hfz,hnd⟩:=hW
 have hA:DataW.TrodAll enc Tryz.prog W 0 (fun _=>true) true Tryz.f3.params.toList args.toList ds p:=hA0
 rw[Tryz.params3] at hA hval hsz
 obtain⟨v0,vs0,d0,ds0,p0,q0,hargs,rfl,rfl,h0,r0⟩:=trodAll_cons hA
 obtain⟨v1,vs1,d1,ds1,p1,q1,rfl,rfl,rfl,h1,r1⟩:=trodAll_cons r0
 obtain⟨v2,vs2,d2,ds2,p2,q2,rfl,rfl,rfl,h2,r2⟩:=trodAll_cons r1
 obtain⟨v3,vs3,d3,ds3,p3,q3,rfl,rfl,rfl,h3,r3⟩:=trodAll_cons r2
 obtain⟨rfl,rfl,rfl⟩:=trodAll_nil r3
 obtain rfl:args= #[v0,v1,v2,v3]:=by cases args;simp_all
 obtain⟨x0,rfl,z0_0,z0_1⟩:=ops28 (hval 0 28 v0 rfl rfl) h0 (E.dO hsz (j:=0) rfl rfl)
 obtain⟨A1,c1,x1,rfl,z1_0,z1_1⟩:=E.W9 Tryz.underlying22 Tryz.underlying5 K0 K0 (hval 1 22 v1 rfl rfl) h1 (E.dO hsz (j:=1) rfl rfl)
 obtain⟨A2,c2,x2,rfl,z2_0,z2_1⟩:=E.Yf Tryz.underlying29 K0 swat48 (hval 2 29 v2 rfl rfl) h2 (E.dO hsz (j:=2) rfl rfl)
 obtain⟨x3,rfl,z3_0,z3_1⟩:=E.Y8 Tryz.underlying3 (hval 3 3 v3 rfl rfl) h3 (E.dO hsz (j:=3) rfl rfl)
 obtain⟨hK,pm,hP⟩:=E.RQ hL
 clear hA0 hval0
 refine(Db x0 A1 c1 x1 A2 c2 x2 x3 pm W z0_0 z0_1 z1_0 z2_0 z2_1 hK hP).mono fun e W' ⟨v,Hn,he,⟨hv,_⟩,hA1⟩=> ?_
 subst hv he
 exact⟨_,rfl,E.Uv laidOut K0 rfl rfl Tryz.underlying4 (fun gs hg=>by subst hg;rfl) hW' hA1⟩
end Go.Proofs.YtcgecopggfjojaaGreatDoor
