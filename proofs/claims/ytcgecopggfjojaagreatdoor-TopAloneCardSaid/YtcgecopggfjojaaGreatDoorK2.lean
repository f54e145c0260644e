/- Part 2: the logic, the plain laws and the walks behind TopAlone (lemmas only; each says its own conditions). -/
import Derived.Laws.StructEq
import Derived.Maps.OwnSet
import Derived.WideKeyEntry
import Derived.Maps.Range
import Derived.DeepKeys4
import Derived.Shelf.SlSortCmp.WholeK
import Derived.Shelf.SlSortCmp.QuietGrown
import Derived.LoopN
import Derived.RegionTactic
import Derived.BigRegion
import Derived.Deep.RegionHeld
import Derived.Lib.Walk
import Derived.Lib.Small
import Derived.Laws.CopyRow
import Derived.Laws.Cover3
import Derived.Test.YtcgecopggfjojaaGreatDoorK1
set_option maxRecDepth 100000
set_option linter.all false
set_option maxHeartbeats 0
namespace Go.Proofs.YtcgecopggfjojaaGreatDoor
open Go Go.RowKit
namespace Cr
open Od (O N B Ok)
structure Go(e:Ev)(k:Int)(w:W)(n:Nat)(r:R):Prop where
 g:(goal e w.b n r).2=true
 f:r.pl=(goal e w.b n r).1\/∀j,j<w.rs.length->(at_ w.rs j).pl≠(goal e w.b n r).1
 a:e.arr r.pl (goal e w.b n r).1 k=0
structure V(e:Ev)(k:Int)(w:W):Prop where
 len:w.rs.length=e.m.h.length
 mv: -1<=w.mv/\w.mv<w.rs.length
 bk:Ok e.m w.b
 rt:∀n,n<w.rs.length->Rg e k w.b w.mv n (at_ w.rs n)
 pl:∀i j,i<w.rs.length->j<w.rs.length->i≠j->(at_ w.rs i).pl≠(at_ w.rs j).pl
 od:∀i j,i<w.rs.length->j<w.rs.length->i≠j->(at_ w.rs i).od≠0->(at_ w.rs i).od≠(at_ w.rs j).od
 has:∀id,dK w.b id 2\/dK w.b id 3->∃n,n<w.rs.length/\(at_ w.rs n).od=id
 go:0<=w.mv->Go e k w w.mv.toNat (at_ w.rs w.mv.toNat)
variable {b:B}{e:Ev}{i n:Nat}{id k:Int}{r:R}{rs:List R}{w:W}
def CJ{p:Int}:free rs p=true↔∀j,j<rs.length->(at_ rs j).pl≠p:=by
 grind [free,at_,List.getElem_of_mem]
def Dj:goes e k w=true↔Go e k w w.mv.toNat (at_ w.rs w.mv.toNat):=by
 unfold goes;simp only[ay,dI,ax,CJ];exact⟨fun⟨I,M,Q⟩=>⟨I,M,Q⟩,fun h=>⟨h.g,h.f,h.a⟩⟩
def J8:apart rs i=true↔∀j,j<i->(at_ rs j).pl≠(at_ rs i).pl/\((at_ rs i).od=0\/(at_ rs j).od≠(at_ rs i).od):=by
 grind [apart]
theorem at_mem(h:n<rs.length):at_ rs n∈rs:=by
 grind [at_]
def Pk{os:List O}(h:n<os.length):os.getD n O.z∈os:=by
 grind
theorem fC{m:Cf.T}(Z:Ok m w.b):(w.b.os.all fun o=> !(decide (o.st=2)||decide (o.st=3))||w.rs.any fun r=>decide (r.od=o.id))=true↔∀id,dK w.b id 2\/dK w.b id 3->∃n,n<w.rs.length/\(at_ w.rs n).od=id:=by
 rw[aJ];constructor
 ·intro h id I;have h1:1<=id/\id<=w.b.os.length:=by rcases I with h|h<;>exact h.1
  have hi:(id-1).toNat<w.b.os.length:=K1;have h2:=h _ (Pk hi)
  have h3:(w.b.os.getD (id-1).toNat O.z).st=2\/(w.b.os.getD (id-1).toNat O.z).st=3:=by
   rcases I with h|h
   ·exact .inl h.2
   exact .inr h.2
  have h4:(decide ((w.b.os.getD (id-1).toNat O.z).st=2)||decide ((w.b.os.getD (id-1).toNat O.z).st=3))=true:=by simpa using h3
  rw[h4,je,nf,ik] at h2;obtain⟨r,h5,h6⟩:=h2;obtain⟨n,M,rfl⟩:=eC h5;refine⟨n,M,?_⟩;have h7:=Od.ids Z _ hi;unfold at_;rw[aW,aC M,dW];have:=bf h6;omega
 intro h o ho;obtain⟨i,hi,rfl⟩:=eC ho;have Q:w.b.os.getD i O.z=w.b.os[i]:=by grind
 have h7:=Od.ids Z i hi;rw[Q] at h7;rw[dI,dG];by_cases hs:w.b.os[i].st=2\/w.b.os[i].st=3
 ·refine .inr ?_;have e2:((i:Int)+1-1).toNat=i:=K1
  obtain⟨n,M,h8⟩:=h ((i:Int)+1) (by
   rcases hs with hs|hs
   ·exact .inl ⟨K1,by rw[e2,Q];exact hs⟩
   exact .inr ⟨K1,by rw[e2,Q];exact hs⟩)
  grind [at_mem]
 grind
theorem dv:valid e k w=true↔V e k w:=by
 unfold valid;simp only[ay,dI,ax,aJ,cu,J8];constructor
 ·rintro⟨⟨h1,h2,h3,h4⟩,h5,h6,h7⟩;have M:=Od.dN.1 h4;refine⟨h1,⟨h2,h3⟩,M,fun n hn=>(qY M.n).1 (h5 n hn).1,fun i j hi Z Q=>?_,fun i j hi Z Q I=>?_,(fC M).1 ?_,fun I=>Dj.1 (h7.resolve_left K1)⟩
  ·grind
  ·grind
  grind
 intro h;refine⟨⟨h.len,h.mv.1,h.mv.2,Od.dN.2 h.bk⟩,fun i hi=>⟨(qY h.bk.n).2 (h.rt i hi),fun j Z=>⟨h.pl j i K1 hi K1,?_⟩⟩,?_,?_⟩
 ·by_cases I:(at_ w.rs j).od=0
  ·grind
  exact .inr (h.od j i K1 hi K1 I)
 ·intro o ho;have:=aJ.1 ((fC h.bk).2 h.has) o ho;simpa using this
 by_cases I:w.mv<0
 ·exact .inl I
 exact .inr (Dj.2 (h.go K1))
structure VR(b b':B)(id0 s:Int):Prop where
 len:b'.os.length=b.os.length
 st:∀id x,id≠id0->(dK b' id x↔dK b id x)
 new:dK b' id0 s
 pk:∀id,pk b' id=pk b id
 dp:∀id,dp b' id=dp b id
theorem qi{m:Cf.T}{b':B}{st now:Int}(h:Ok m b)(hm:Od.move b id st now=.ok b'):Ok m b'/\VR b b' id st/\dK b id (Od.cJ st):=by
 obtain⟨h1,h2,h3,h4,h5,h6⟩:=Od.iv h hm;have hi:(id-1).toNat<b.os.length:=K1;have hl:b'.os.length=b.os.length:=by rw[h5,aM]
 have Q:∀i,i≠(id-1).toNat->b'.os.getD i O.z=b.os.getD i O.z:=fun i Z=>by rw[h5,Od.fY hi,ae fun e=>Z e.symm]
 have I:b'.os.getD (id-1).toNat O.z=Od.Uh (b.os.getD (id-1).toNat O.z) st now:=by simp_all
 refine⟨h1,⟨hl,fun M x Z=>?_,⟨by rw[hl];exact h2,by rw[I];rfl⟩,fun M=>?_,fun M=>?_⟩,⟨h2,h3⟩⟩
 ·unfold dK;rw[hl];refine and_congr_right fun h7=>?_;rw[Q _ K1]
 ·unfold Cr.pk;by_cases he:(M-1).toNat=(id-1).toNat
  ·rw[he,I];rfl
  rw[Q _ he]
 unfold Cr.dp;by_cases he:(M-1).toNat=(id-1).toNat
 ·rw[he,I];rfl
 rw[Q _ he]
theorem VR.fit{b':B}{s:Int}(u:VR b b' id s)(I:r.od≠id)(h:Fit e b n r):Fit e b' n r:=by
 unfold Fit at*;rw[u.st _ _ I,u.st _ _ I,u.pk,u.dp];exact h
theorem VR.goal{e:Ev}{b b':B}{id s:Int}(u:VR b b' id s)(n:Nat)(r:R):goal e b' n r=goal e b n r:=by
 have I:bt b' r.od=bt b r.od:=by unfold bt;rw[u.len]
 unfold Cr.goal;cases hc:bt b r.od with
 |false=>simp only[I,hc,ke,if_false]
 |true=>
  have M:=bP.1 hc;have Q:=u.pk r.od;have Z:=u.dp r.od;unfold Cr.pk at Q;unfold Cr.dp at Z;rw[I,hc,fw M,fw (by rw[u.len];exact M),Q,Z]
theorem gl{j:Nat}(hi:i<rs.length):at_ (rs.set i r) j=if i=j then r else at_ rs j:=Od.fY hi
theorem fz{f:R->R}(h:n<rs.length):at_ (rs.map f) n=f (at_ rs n):=by
 grind [at_]
theorem V.set{e:Ev}{k:Int}{w:W}(v:V e k w){n:Nat}{r':R}{b':B}(Z:n<w.rs.length)(hm:(n:Int)≠w.mv)(hpl:r'.pl=(at_ w.rs n).pl)(hb:Ok e.m b')(hr:Rg e k b' w.mv n r')
  (hf:∀j,j<w.rs.length->j≠n->Fit e b' j (at_ w.rs j)) (ho:r'.od≠0->∀j,j<w.rs.length->j≠n->(at_ w.rs j).od≠r'.od)
  (hh:∀id,dK b' id 2\/dK b' id 3->id=r'.od\/(id≠(at_ w.rs n).od/\(dK w.b id 2\/dK w.b id 3)))
  (hg:∀j,j<w.rs.length->j≠n->goal e b' j (at_ w.rs j)=goal e w.b j (at_ w.rs j)):V e k {w with rs:=w.rs.set n r',b:=b'} where
 len:=by simpa using v.len
 mv:=by simpa using v.mv
 bk:=hb
 rt:=fun j hj=>by
  have I:j<w.rs.length:=by simpa using hj
  show Rg e k b' w.mv j (at_ (w.rs.set n r') j)
  rw[gl Z]
  split
  ·grind
  ·rename_i h
   have:=v.rt j I
   exact⟨this.al,hf j I (Ne.symm h),this.sl,this.hd,this.lg⟩
 pl:=fun i j hi hj M=>by
  have Q:i<w.rs.length:=by simpa using hi
  have I:j<w.rs.length:=by simpa using hj
  show(at_ (w.rs.set n r') i).pl≠(at_ (w.rs.set n r') j).pl
  have e1:∀q,(at_ (w.rs.set n r') q).pl=(at_ w.rs q).pl:=fun q=>by
   grind [gl]
  rw[e1,e1];exact v.pl i j Q I M
 od:=fun i j hi hj M=>by
  have Q:i<w.rs.length:=by simpa using hi
  have I:j<w.rs.length:=by simpa using hj
  show(at_ (w.rs.set n r') i).od≠0->(at_ (w.rs.set n r') i).od≠(at_ (w.rs.set n r') j).od
  rw[gl Z,gl Z]
  by_cases h1:n=i
  ·grind
  ·rw[ae h1]
   by_cases h2:n=j
   ·grind
   ·rw[ae h2];exact v.od i j Q I M
 has:=fun id hid=>by
  show∃q,q<(w.rs.set n r').length/\(at_ (w.rs.set n r') q).od=id
  rcases hh id hid with h|⟨h1,h2⟩
  ·exact⟨n,by simpa using Z,by rw[gl Z,aa rfl,h]⟩
  ·obtain⟨q,hq,hqo⟩:=v.has id h2
   refine⟨q,by simpa using hq,?_⟩
   grind [gl]
 go:=fun h0=>by
  have h0':0<=w.mv:=h0
  have hml:w.mv.toNat<w.rs.length:=by have:=v.mv;omega
  have hne:w.mv.toNat≠n:=K1
  obtain⟨g1,g2,g3⟩:=v.go h0'
  have e0:at_ (w.rs.set n r') w.mv.toNat=at_ w.rs w.mv.toNat:=by rw[gl Z,ae (Ne.symm hne)]
  have e1:=hg _ hml hne
  show Go e k _ w.mv.toNat (at_ (w.rs.set n r') w.mv.toNat)
  rw[e0]
  refine⟨by grind,?_,by grind⟩
  grind [gl]
def zI(h:Fit e b n r):r.od=0\/dK b r.od 2\/dK b r.od 3:=by
 rcases h with⟨_,h,_⟩|⟨_,h,_⟩|⟨_,h,_⟩|⟨_,h,_⟩|⟨_,h,_⟩|⟨_,h,_⟩|⟨_,h,_⟩|⟨_,h,_⟩|⟨_,h,_⟩
 ·exact .inl h
 ·exact .inr (.inl h)
 ·exact .inr (.inl h)
 ·exact .inr (.inl h)
 ·exact .inr (.inr h)
 ·exact .inr (.inr h)
 ·exact .inr (.inr h)
 ·exact .inl h
 exact .inl h
theorem gZ{s t:Int}(h:dK b id s)(I:dK b id t):s=t:=h.2.symm.trans I.2
def ir(hK:0<=e.K)(v:V e k w):V e k (jB e w):=by
 have hl:(w.rs.map (bE e)).length=w.rs.length:=by simp
 have hs:∀r,(bE e r).pl=r.pl/\(bE e r).st=r.st/\(bE e r).od=r.od/\(bE e r).lf=r.lf:=fun r=>by grind [bE]
 have hfit:∀n r,Fit e w.b n r->Fit e w.b n (bE e r):=fun n r h=>by
  grind [Fit]
 have Q:∀n r,goal e w.b n (bE e r)=goal e w.b n r:=fun n r=>by
  grind [goal]
 refine⟨by show(w.rs.map _).length=_;rw[hl];exact v.len,by show-1<=w.mv/\w.mv<((w.rs.map _).length:Int);rw[hl];exact v.mv,v.bk,fun n hn=>?_,fun i j hi hj Z=>?_,fun i j hi hj Z=>?_,fun id hid=>?_,fun h0=>?_⟩
 ·have hn':n<w.rs.length:=by rw[<-hl];exact hn
  show Rg e k w.b w.mv n (at_ (w.rs.map (bE e)) n);rw[fz hn'];have h:=v.rt n hn';obtain⟨h1,h2,h3,h4⟩:=hs (at_ w.rs n);refine⟨by rw[h1];exact h.al,hfit _ _ h.fit,?_,?_,by rw[h2];exact h.lg⟩
  ·unfold bE;split
   ·exact⟨hK,ov _⟩
   exact h.sl
  grind [bE,Rg.hd]
 ·have I:i<w.rs.length:=by rw[<-hl];exact hi
  have M:j<w.rs.length:=by rw[<-hl];exact hj
  show(at_ (w.rs.map (bE e)) i).pl≠(at_ (w.rs.map (bE e)) j).pl;rw[fz I,fz M,(hs _).1,(hs _).1];exact v.pl i j I M Z
 ·have I:i<w.rs.length:=by rw[<-hl];exact hi
  have M:j<w.rs.length:=by rw[<-hl];exact hj
  show(at_ (w.rs.map (bE e)) i).od≠0->(at_ (w.rs.map (bE e)) i).od≠(at_ (w.rs.map (bE e)) j).od;rw[fz I,fz M,(hs _).2.2.1,(hs _).2.2.1];exact v.od i j I M Z
 ·obtain⟨n,hn,hno⟩:=v.has id hid;refine⟨n,by show n<(w.rs.map _).length;rw[hl];exact hn,?_⟩
  show(at_ (w.rs.map (bE e)) n).od=id;rw[fz hn,(hs _).2.2.1];exact hno
 have h0':0<=w.mv:=h0;have hml:w.mv.toNat<w.rs.length:=by have:=v.mv;omega
 obtain⟨g1,g2,g3⟩:=v.go h0';show Go e k _ w.mv.toNat (at_ (w.rs.map (bE e)) w.mv.toNat);rw[fz hml];refine⟨by show(goal e w.b _ _).2=true;rw[Q];exact g1,?_,by show e.arr _ (goal e w.b _ _).1 k=0;grind⟩
 show _=(goal e w.b _ _).1\/∀j,j<(w.rs.map (bE e)).length->(at_ (w.rs.map (bE e)) j).pl≠(goal e w.b _ _).1;grind [fz]
def nO{m:Cf.T}{b:B}{x:B×Int}(h:Od.assign m b=.ok x):Ok m b/\Ok m x.1/\VR b x.1 x.2 2/\dK b x.2 1:=by
 unfold Od.assign at h;split at h
 ·rename_i I;rw[Od.dN] at I;split at h
  ·split at h
   ·rename_i b' M;cases h;obtain⟨Q,Z,h4⟩:=qi I M;exact⟨I,Q,Z,h4⟩
   cases h
  cases h
 cases h
def Bu(v:V e k w)(hn:n<w.rs.length):V e k {w with rs:=w.rs.set n (call1 e.m w.b (at_ w.rs n)).2,b:=(call1 e.m w.b (at_ w.rs n)).1}:=by
 have same:({w with rs:=w.rs.set n (at_ w.rs n),b:=w.b}:W)=w:=by
  have:w.rs.set n (at_ w.rs n)=w.rs:=by
   grind [at_,List.set_getElem_self]
  rw[this]
 unfold call1;split
 ·rename_i hc;split
  ·rename_i x hx;obtain⟨h1,h2,h3,h4⟩:=nO hx;have hr:=v.rt n hn;have hf:=hr.fit;have hmv:(n:Int)≠w.mv:=fun M=>by have:=hr.lg.2 M;omega
   have I:∀j,j<w.rs.length->(at_ w.rs j).od≠x.2:=fun j Z M=>by
    rcases zI (v.rt j Z).fit with h|h|h
    ·have:=h4.1;omega
    ·rw[M] at h;have:=gZ h h4;omega
    rw[M] at h;have:=gZ h h4;omega
   have h0:(at_ w.rs n).od=0/\(at_ w.rs n).pl=e.m.h.getD n 0/\(at_ w.rs n).lf=0:=by
    rcases hf with⟨_,a,b,c⟩|⟨s,_⟩|⟨s,_⟩|⟨s,_⟩|⟨s,_⟩|⟨s,_⟩|⟨s,_⟩|⟨s,_⟩|⟨s,_⟩
    ·exact⟨a,b,c⟩
    all_goals(have:=hc.1;omega)
   refine v.set hn hmv rfl h2 ⟨hr.al,.inr (.inl ⟨rfl,h3.new,h0.2.1,h0.2.2⟩),hr.sl,hr.hd,?_⟩ (fun j Z hne=>h3.fit (I j Z) (v.rt j Z).fit) (fun _ j Z hne=>I j Z) (fun id Q=>?_) (fun j _ _=>h3.goal _ _)
   ·grind
   show id=x.2\/_;by_cases M:id=x.2
   ·exact .inl M
   rw[h3.st _ _ M,h3.st _ _ M] at Q;refine .inr ⟨fun h=>?_,Q⟩;have:1<=id:=by rcases Q with h|h<;>exact h.1.1
   omega
  grind
 grind
def yX{pre I:List R}{r':R}:(pre++r::I).set pre.length r'=pre++r'::I:=by simp
def Fg{pre I:List R}:at_ (pre++r::I) pre.length=r:=by simp[at_]
def Jk{mv:Int}:∀{I pre:List R} {b:B},V e k ⟨pre++I,b,mv⟩->V e k ⟨pre++(callsF e.m b I).2,(callsF e.m b I).1,mv⟩:=by
 intro I;induction I with
 |nil=>intro pre b v;exact v
 |cons r I Q=>
  intro pre b v;have h:=Bu v (n:=pre.length) (by simp)
  simp only[Fg,yX] at h;have M:=Q (pre:=pre++[(call1 e.m b r).2]) (b:=(call1 e.m b r).1) (by grind)
  rw[aQ] at M;exact M
def ml(v:V e k w):V e k (calls e w):=Jk (pre:=[]) (b:=w.b) (mv:=w.mv) v
def Ga:∀n,(best e k w n).1= -1\/∃i:Nat,(best e k w n).1=i/\i<n/\lP e k w i=true:=by
 intro n;induction n with
 |zero=>exact .inl rfl
 |succ n I=>
  grind [best]
def I2(I:Fit e b n r)(M:r.st=7\/r.st=1\/r.st=4):
  goal e b n {r with st:=r.st+1}=goal e b n r/\(goal e b n r).2=true/\Fit e b n {r with st:=r.st+1}/\(r.st+1=2\/r.st+1=5\/r.st+1=8):=by
 unfold Fit at I;unfold goal Fit;rcases M with h|h|h
 ·grind
 ·rw[h] at I⊢;rcases I with⟨s,q⟩|⟨s,Q,Z,q3⟩|⟨s,q⟩|⟨s,q⟩|⟨s,q⟩|⟨s,q⟩|⟨s,q⟩|⟨s,q⟩|⟨s,q⟩
  any_goals (first|(simp at s;done)|skip)
  have ho:=bP.2 Q.1;grind
 rw[h] at I⊢;rcases I with⟨s,q⟩|⟨s,q⟩|⟨s,q⟩|⟨s,q⟩|⟨s,Q,Z,q3⟩|⟨s,q⟩|⟨s,q⟩|⟨s,q⟩|⟨s,q⟩
 any_goals (first|(simp at s;done)|skip)
 have ho:=bP.2 Q.1;simp_all
def NJ(v:V e k w)(hm:w.mv= -1)(hi:i<w.rs.length)(hst:(at_ w.rs i).st=7\/(at_ w.rs i).st=1\/(at_ w.rs i).st=4)(hfr:∀j,j<w.rs.length->(at_ w.rs j).pl≠(goal e w.b i (at_ w.rs i)).1)(harr:e.arr (at_ w.rs i).pl (goal e w.b i (at_ w.rs i)).1 k=0):
  V e k {w with mv:=(i:Int),rs:=w.rs.set i {at_ w.rs i with st:=(at_ w.rs i).st+1}}:=by
 have I:=v.rt i hi;obtain⟨hg1,hg2,hg3,hg4⟩:=I2 I.fit hst;have Q:∀j,at_ (w.rs.set i {at_ w.rs i with st:=(at_ w.rs i).st+1}) j=if i=j then{at_ w.rs i with st:=(at_ w.rs i).st+1} else at_ w.rs j:=fun j=>gl hi
 have Z:∀j,(at_ (w.rs.set i {at_ w.rs i with st:=(at_ w.rs i).st+1}) j).pl=(at_ w.rs j).pl:=fun j=>by
  grind
 have hod:∀j,(at_ (w.rs.set i {at_ w.rs i with st:=(at_ w.rs i).st+1}) j).od=(at_ w.rs j).od:=fun j=>by
  grind
 have hl:(w.rs.set i {at_ w.rs i with st:=(at_ w.rs i).st+1}).length=w.rs.length:=aM
 generalize hrs:w.rs.set i {at_ w.rs i with st:=(at_ w.rs i).st+1}=rs' at*
 refine⟨hl.trans v.len,⟨by grind,by grind⟩,v.bk,fun j hj=>?_,fun a b ha hb M=>?_,fun a b ha hb M=>?_,fun id hid=>?_,fun _=>?_⟩
 ·have hj':j<w.rs.length:=by rw[<-hl];exact hj
  show Rg e k w.b (i:Int) j (at_ rs' j);rw[Q];split
  ·rename_i h;subst h;exact⟨I.al,hg3,I.sl,I.hd,fun _=>rfl,fun _=>hg4⟩
  rename_i h;have h2:=v.rt j hj';refine⟨h2.al,h2.fit,h2.sl,h2.hd,?_⟩;grind [Rg.lg]
 ·show(at_ rs' a).pl≠(at_ rs' b).pl;rw[Z,Z];exact v.pl a b (by rw[<-hl];exact ha) (by rw[<-hl];exact hb) M
 ·show(at_ rs' a).od≠0->(at_ rs' a).od≠(at_ rs' b).od;rw[hod,hod];exact v.od a b (by rw[<-hl];exact ha) (by rw[<-hl];exact hb) M
 ·obtain⟨n,hn,hno⟩:=v.has id hid;grind
 show Go e k _ ((i:Int).toNat) (at_ rs' ((i:Int).toNat));rw[j3,Q,aa rfl];refine⟨by grind,.inr fun j hj=>?_,by grind⟩
 grind
def rj(v:V e k w):V e k (leaves e k w):=by
 unfold leaves;split
 ·exact v
 rename_i Q;split
 ·rename_i hc;rcases Ga (e:=e) (k:=k) (w:=w) w.rs.length with M|⟨i,M,hi,I⟩
  ·have:=hc.1;omega
  rw[M,j3];unfold lP at I;simp only[ay,dI,ax,CJ,or_assoc] at I;exact NJ v (by have:=v.mv;omega) hi I.1 I.2.1 I.2.2
 exact v
end Cr
namespace Cr
open Od (O N B Ok)
variable {b:B}{e:Ev}{id k st:Int}{m:Cf.T}{n:Nat}{w:W}
theorem E8{now:Int}(h:Ok m b)(hi:dK b id (Od.cJ st))(hs:2<=st/\st<=5)(I:now<=Od.last/\(¬st=4\/0<now)):∃b',Od.move b id st now=.ok b':=by
 have M:=hi.1;have Q:=(Od.ei.1 (h.o (id-1).toNat K1)).1;unfold Od.move Od.fp;rw[aa (Od.within_iff.2 M),aa Q,aa ⟨K1,hs.2,I.1,I.2⟩,aa ⟨K1,hi.2⟩];exact⟨_,rfl⟩
def jR{now:Int}(h:Ok m b)(hi:dK b id (Od.cJ st))(hs:2<=st/\st<=5)(I:now<=Od.last/\(¬st=4\/0<now)):
  ∃b',Od.l7 m b id st now=.ok b'/\Ok m b'/\VR b b' id st:=by
 grind [E8,qi,Od.l7,Od.dN]
def ja{l:bv}{i:Nat}(h:i<l.length):l.getD i 0∈l:=by
 grind
theorem wV(h:Ok m b)(hi:dK b id st):pk b id<m.p.length/\dp b id<m.d.length:=by
 have M:=hi.1;obtain⟨I,_,Q,Z⟩:=Od.ei.1 (h.o (id-1).toNat K1);rw[Od.im] at I;unfold pk dp;omega
def R2(I:Ok e.m b)(M:n<e.m.h.length){r:R}(h:Fit e b n r)(hl:¬(r.st=2\/r.st=5\/r.st=8)):r.pl∈Cf.bC e.m:=by
 unfold Cf.bC;rw[aN,aN];rcases h with⟨s,_,a,_⟩|⟨s,i,a,_⟩|⟨s,_⟩|⟨s,i,a,_⟩|⟨s,i,a,_⟩|⟨s,_⟩|⟨s,i,a,_⟩|⟨s,_,a,_⟩|⟨s,_⟩
 ·grind
 ·grind
 ·omega
 ·rw[a];exact .inl (.inr (ja (wV I i).1))
 ·rw[a];exact .inl (.inr (ja (wV I i).1))
 ·omega
 ·rw[a];exact .inr (ja (wV I i).2)
 ·exact .inr a
 omega
def vH(hk:0<=k/\k<Od.last)(v:V e k w)(hn:n<w.rs.length):V e k {w with rs:=w.rs.set n (cq e.m k w.b (at_ w.rs n)).2.1,b:=(cq e.m k w.b (at_ w.rs n)).1}:=by
 have same:({w with rs:=w.rs.set n (at_ w.rs n),b:=w.b}:W)=w:=by
  have:w.rs.set n (at_ w.rs n)=w.rs:=by
   grind [at_,List.set_getElem_self]
  rw[this]
 obtain⟨r,hr⟩:∃r,at_ w.rs n=r:=⟨_,rfl⟩;have I:=v.rt n hn;have Q:=fun j hj M h0=>v.od n j hn hj (Ne.symm M) h0;rw[hr] at I same Q⊢;unfold cq;split
 ·grind
 rename_i hw;have hst:r.st=3\/r.st=6:=Decidable.byContradiction fun h=>hw (.inr h);have hmv:(n:Int)≠w.mv:=fun he=>by have:=I.lg.2 he;omega
 have hlg:∀{s:Int},¬(s=2\/s=5\/s=8)->((s=2\/s=5\/s=8)↔(n:Int)=w.mv):=fun h=>⟨fun h1=>absurd h1 h,fun h1=>absurd h1 hmv⟩;have hfit:=I.fit
 have hfit3:r.st=3->dK w.b r.od 2/\r.pl=e.m.p.getD (pk w.b r.od) 0/\1<=r.lf/\r.lf<=e.m.n1:=fun s=>by
  rcases hfit with⟨t,q⟩|⟨t,q⟩|⟨t,q⟩|⟨t,q⟩|⟨t,q⟩|⟨t,q⟩|⟨t,q⟩|⟨t,q⟩|⟨t,q⟩
  any_goals (first|(rw[s] at t;simp at t;done)|skip)
  exact q
 have hfit6:r.st=6->dK w.b r.od 3/\r.pl=e.m.d.getD (dp w.b r.od) 0/\1<=r.lf/\r.lf<=e.m.n2:=fun s=>by
  rcases hfit with⟨t,q⟩|⟨t,q⟩|⟨t,q⟩|⟨t,q⟩|⟨t,q⟩|⟨t,q⟩|⟨t,q⟩|⟨t,q⟩|⟨t,q⟩
  any_goals (first|(rw[s] at t;simp at t;done)|skip)
  exact q
 have hpos:1<=r.lf:=by
  omega
 split
 ·rename_i hl;refine v.set (r':={r with lf:=r.lf-1}) hn hmv (by rw[hr]) v.bk ⟨I.al,?_,I.sl,I.hd,hlg (by grind)⟩ (fun j hj _=>(v.rt j hj).fit) (fun h0 j hj M=>Ne.symm (Q j hj M h0)) (fun id Z=>?_) (fun _ _ _=>rfl)
  ·rcases hst with s|s
   ·obtain⟨q1,q2,q3⟩:=hfit3 s;exact .inr (.inr (.inr (.inl ⟨s,q1,q2,show 1<=r.lf-1 by omega,show r.lf-1<=e.m.n1 by omega⟩)))
   obtain⟨q1,q2,q3⟩:=hfit6 s;exact .inr (.inr (.inr (.inr (.inr (.inr (.inl ⟨s,q1,q2,show 1<=r.lf-1 by omega,show r.lf-1<=e.m.n2 by omega⟩))))))
  grind
 rename_i hl;split
 ·rename_i s;obtain⟨q1,q2,q3⟩:=hfit3 s;obtain⟨b',hb,hok,hu⟩:=jR v.bk (st:=3) (now:=0) q1 K1 ⟨by decide,.inl (by decide)⟩
  rw[hb]
  refine v.set (b':=b') (r':={r with lf:=r.lf-1,st:=4}) hn hmv (by rw[hr]) hok ⟨I.al,.inr (.inr (.inr (.inr (.inl ⟨rfl,hu.new,?_,show r.lf-1=0 by omega⟩)))),I.sl,I.hd,hlg (by grind)⟩
   (fun j hj M=>hu.fit (Ne.symm (Q j hj M (by have:=q1.1;omega))) (v.rt j hj).fit) (fun h0 j hj M=>Ne.symm (Q j hj M h0)) (fun id Z=>?_) (fun j _ _=>hu.goal _ _)
  ·grind [VR.pk]
  rw[hr];show id=r.od\/_;by_cases he:id=r.od
  ·exact .inl he
  rw[hu.st _ _ he,hu.st _ _ he] at Z;exact .inr ⟨he,Z⟩
 rename_i s3;have s:r.st=6:=K1;obtain⟨q1,q2,q3⟩:=hfit6 s;obtain⟨b',hb,hok,hu⟩:=jR v.bk (st:=4) (now:=k+1) q1 K1 ⟨K1,.inr K1⟩;rw[hb]
 refine v.set (b':=b') (r':={r with lf:=r.lf-1,st:=7,od:=0}) hn hmv (by rw[hr]) hok ⟨I.al,.inr (.inr (.inr (.inr (.inr (.inr (.inr (.inl ⟨rfl,rfl,?_,show r.lf-1=0 by omega⟩))))))),I.sl,I.hd,hlg (by grind)⟩
  (fun j hj M=>hu.fit (Ne.symm (Q j hj M (by have:=q1.1;omega))) (v.rt j hj).fit) (fun h0 j hj M=>absurd rfl h0) (fun id Z=>?_) (fun j _ _=>hu.goal _ _)
 ·grind [wV,V.bk]
 rw[hr]
 have he:id≠r.od:=fun he=>by
  rw[he] at Z;rcases Z with h|h
  ·exact absurd (gZ h hu.new) (by decide)
  exact absurd (gZ h hu.new) (by decide)
 rw[hu.st _ _ he,hu.st _ _ he] at Z;exact .inr ⟨he,Z⟩
def JW{mv:Int}(hk:0<=k/\k<Od.last):∀{I pre:List R} {b:B},V e k ⟨pre++I,b,mv⟩->V e k ⟨pre++(bl e.m k b I).2.1,(bl e.m k b I).1,mv⟩:=by
 intro I;induction I with
 |nil=>intro pre b v;exact v
 |cons r I Q=>
  intro pre b v;have h:=vH hk v (n:=pre.length) (by simp)
  simp only[Fg,yX] at h;have M:=Q (pre:=pre++[(cq e.m k b r).2.1]) (b:=(cq e.m k b r).1) (by grind)
  rw[aQ] at M;exact M
def kO(hk:0<=k/\k<Od.last)(v:V e k w):V e k (cx e k w).1:=JW (pre:=[]) (b:=w.b) (mv:=w.mv) hk v
theorem jV(v:V e k w){j:Nat}(I:j<w.rs.length)(M:(j:Int)≠w.mv):(at_ w.rs j).pl∈Cf.bC e.m:=
 R2 v.bk (by rw[<-v.len];exact I) (v.rt j I).fit fun h=>M ((v.rt j I).lg.1 h)
def V.pass(he:e.ok)(hk:0<=k/\k<Od.last)(v:V e k w){mv':Int}{r':R}(hmv:w.mv=n)(hmv':mv'=w.mv\/mv'= -1)(hod:r'.od=(at_ w.rs n).od)(hr:Rg e (k+1) w.b mv' n r')(hpl:∀j,j<w.rs.length->j≠n->(at_ w.rs j).pl≠r'.pl)(hgo:mv'=w.mv->Go e (k+1) {w with mv:=mv',rs:=w.rs.set n r'} n r'):V e (k+1) {w with mv:=mv',rs:=w.rs.set n r'}:=by
 have hn:n<w.rs.length:=by have:=v.mv;omega
 have M:∀j,at_ (w.rs.set n r') j=if n=j then r' else at_ w.rs j:=fun j=>gl hn
 have hl:(w.rs.set n r').length=w.rs.length:=aM
 have I:∀j,(at_ (w.rs.set n r') j).od=(at_ w.rs j).od:=fun j=>by
  grind
 generalize hrs:w.rs.set n r'=rs' at*;refine⟨hl.trans v.len,?_,v.bk,fun j hj=>?_,fun a b ha hb Q=>?_,fun a b ha hb Q=>?_,fun id hid=>?_,fun h0=>?_⟩
 ·grind
 ·have hj':j<w.rs.length:=by rw[<-hl];exact hj
  show Rg e (k+1) w.b mv' j (at_ rs' j);rw[M];split
  ·grind
  rename_i h;have hne:(j:Int)≠w.mv:=K1;have Z:=v.rt j hj';refine⟨(he.spot _ (jV v hj' hne)).2 _ K1 K1,Z.fit,Z.sl,Z.hd,?_⟩;exact⟨fun h3=>absurd (Z.lg.1 h3) hne,fun h3=>by omega⟩
 ·have ha':a<w.rs.length:=by rw[<-hl];exact ha
  have hb':b<w.rs.length:=by rw[<-hl];exact hb
  show(at_ rs' a).pl≠(at_ rs' b).pl;rw[M,M];by_cases h1:n=a
  ·grind
  rw[ae h1];by_cases Z:n=b
  ·grind
  rw[ae Z];exact v.pl a b ha' hb' Q
 ·show(at_ rs' a).od≠0->(at_ rs' a).od≠(at_ rs' b).od;rw[I,I];exact v.od a b (by rw[<-hl];exact ha) (by rw[<-hl];exact hb) Q
 ·obtain⟨q,hq,hqo⟩:=v.has id hid;grind
 grind
def Qp(Q:Ok e.m b)(hn:n<e.m.h.length){r:R}(M:Fit e b n r)(hl:r.st=2\/r.st=5\/r.st=8):(goal e b n r).1∈Cf.bC e.m/\
  ∀q s,q=(goal e b n r).1->Fit e b n (dY e {r with pl:=q,sl:=s})/\¬((dY e {r with pl:=q,sl:=s}).st=2\/(dY e {r with pl:=q,sl:=s}).st=5\/(dY e {r with pl:=q,sl:=s}).st=8):=by
 obtain⟨Z,hn2⟩:=nK Q.n;unfold Fit at M;unfold goal dY Fit Cf.bC;rw[aN,aN];rcases hl with h|h|h
 ·rw[h] at M⊢;rcases M with⟨t,q⟩|⟨t,q⟩|⟨t,I,q2⟩|⟨t,q⟩|⟨t,q⟩|⟨t,q⟩|⟨t,q⟩|⟨t,q⟩|⟨t,q⟩
  any_goals (first|(simp at t;done)|skip)
  rw[aa (show(2:Int)=1\/(2:Int)=2 by decide),aa (bP.2 I.1),fw I.1]
  refine⟨.inl (.inr (ja (wV Q I).1)),fun q s hq=>?_⟩;rw[aa (show(2:Int)=2 by decide)]
  exact⟨.inr (.inr (.inr (.inl ⟨rfl,I,hq,Z.1,ov _⟩))),show¬((3:Int)=2\/(3:Int)=5\/(3:Int)=8) by decide⟩
 ·rw[h] at M⊢;rcases M with⟨t,q⟩|⟨t,q⟩|⟨t,q⟩|⟨t,q⟩|⟨t,q⟩|⟨t,I,q2⟩|⟨t,q⟩|⟨t,q⟩|⟨t,q⟩
  any_goals (first|(simp at t;done)|skip)
  rw[ae (show¬((5:Int)=1\/(5:Int)=2) by decide),aa (show(5:Int)=4\/(5:Int)=5 by decide),aa (bP.2 I.1),fw I.1]
  refine⟨.inr (ja (wV Q I).2),fun q s hq=>?_⟩;rw[ae (show¬(5:Int)=2 by decide),aa (show(5:Int)=5 by decide)]
  exact⟨.inr (.inr (.inr (.inr (.inr (.inr (.inl ⟨rfl,I,hq,hn2.1,ov _⟩)))))),show¬((6:Int)=2\/(6:Int)=5\/(6:Int)=8) by decide⟩
 grind
def aah{r:R}{q:Int}(I:Fit e b n r)(hl:r.st=2\/r.st=5\/r.st=8):Fit e b n {r with pl:=q}:=by
 grind [Fit]
theorem xP(e:Ev)(b:B)(n:Nat)(r:R)(q:Int):goal e b n {r with pl:=q}=goal e b n r:=rfl
def tR(he:e.ok)(hk:0<=k/\k<Od.last)(v:V e k w):V e (k+1) (steps e k w):=by
 by_cases hmv:w.mv<0
 ·have e0:steps e k w=w:=aa (.inl hmv);rw[e0];refine⟨v.len,v.mv,v.bk,fun j Z=>?_,v.pl,v.od,v.has,fun h=>by omega⟩
  have Q:=v.rt j Z;exact⟨(he.spot _ (jV v Z K1)).2 _ K1 K1,Q.fit,Q.sl,Q.hd,Q.lg⟩
 obtain⟨n,hn⟩:∃n:Nat,w.mv=n:=⟨w.mv.toNat,K1⟩;have hnl:n<w.rs.length:=by have:=v.mv;omega
 have hnt:w.mv.toNat=n:=K1;have M:=v.go K1;rw[hnt] at M;have I:=v.rt n hnl;have hleg:=I.lg.2 hn.symm;by_cases hh:held (at_ w.rs n)=true
 ·have e0:steps e k w=w:=aa (.inr (by rw[hnt];exact hh))
  rw[e0];have hsl:=ju.1 hh;have hai:=(I.hd hsl).2;refine⟨v.len,v.mv,v.bk,fun j Z=>?_,v.pl,v.od,v.has,fun _=>?_⟩
  ·have Q:=v.rt j Z;by_cases hj2:j=n
   ·subst hj2;exact⟨he.own _ _ _ Q.al hai K1 K1,Q.fit,Q.sl,Q.hd,Q.lg⟩
   exact⟨(he.spot _ (jV v Z K1)).2 _ K1 K1,Q.fit,Q.sl,Q.hd,Q.lg⟩
  rw[hnt];exact⟨M.g,M.f,he.stay _ _ _ hk.1 hk.2 I.al hai M.a⟩
 have hs0:¬0<(at_ w.rs n).sl:=fun h=>hh (ju.2 h);unfold steps;rw[ae (by grind),hnt]
 obtain⟨hgs,harr⟩:=Qp v.bk (by rw[<-v.len];exact hnl) I.fit hleg
 obtain⟨r,hr⟩:∃r,at_ w.rs n=r:=⟨_,rfl⟩;obtain⟨g,hg⟩:∃g,(goal e w.b n r).1=g:=⟨_,rfl⟩;rw[hr] at M I hleg hs0 hgs harr⊢;have hga:=M.a;have hgf:=M.f;rw[hg] at hga hgf hgs harr⊢
 have fin:∀q,q=g->(∀j,j<w.rs.length->j≠n->(at_ w.rs j).pl≠q)->V e (k+1) {w with mv:= -1,rs:=w.rs.set n (dY e {r with pl:=q})}:=fun q hq hd=>by
  obtain⟨f1,f2⟩:=harr q r.sl hq
  have a1:∀x:R,(dY e x).pl=x.pl/\(dY e x).od=x.od/\(dY e x).sl=x.sl/\(dY e x).du=x.du:=fun x=>by
   grind [dY]
  obtain⟨b1,b2,b3,b4⟩:=a1 {r with pl:=q}
  refine v.pass he hk hn (.inr rfl) (by rw[b2,hr]) ⟨by rw[b1];show e.al q (k+1)=true;rw[hq];exact(he.spot _ hgs).2 _ K1 K1,f1,by rw[b3];exact I.sl,fun h=>by grind,⟨fun h=>absurd h f2,fun h=>by omega⟩⟩ (fun j Z hne=>by grind) (fun h=>by omega)
 by_cases hpg:r.pl=g
 ·have hm:dQ e k w.b n r=r:=by
   unfold dQ;rw[hg,hpg,ae (he.stop g k)]
  rw[hm,aa hpg];have:=fin r.pl hpg (fun j Z hne=>by rw[<-hr];exact v.pl j n Z hnl hne)
  exact this
 obtain⟨q,h1,Q,h3,h4⟩:=he.step r.pl g k hk.1 hk.2 hga hpg
 have hm:dQ e k w.b n r={r with pl:=q}:=by
  unfold dQ;rw[hg,h1];rfl
 have hfr:=hgf.resolve_left hpg;rw[hm];by_cases hqg:q=g
 ·grind
 rw[ae hqg]
 have hd:∀j,j<w.rs.length->j≠n->(at_ w.rs j).pl≠q:=fun j Z hne=>by
  rcases h4 with h|h|h
  ·rw[h,<-hr];exact v.pl j n Z hnl hne
  ·exact absurd h hqg
  grind [jV]
 have:=v.pass he hk (mv':=w.mv) (r':={r with pl:=q}) hn (.inl rfl) (by rw[hr]) ⟨Q,aah I.fit hleg,I.sl,fun h=>absurd h hs0,I.lg⟩ hd (fun _=>⟨by show(goal e w.b n r).2=true;exact M.g,.inr fun j Z=>?_,?_⟩)
 ·exact this
 ·grind [xP,gl]
 grind [xP]
end Cr
namespace Cr
open Od (O N B Ok)
variable {e:Ev}{k:Int}{w:W}
def qN(v:V e k w):V e k (FD w):=by
 have hl:(w.rs.map cA).length=w.rs.length:=by simp
 have hs:∀r,(cA r).pl=r.pl/\(cA r).st=r.st/\(cA r).od=r.od/\(cA r).lf=r.lf/\(cA r).du=r.du:=fun r=>by grind [cA]
 have hfit:∀n r,Fit e w.b n r->Fit e w.b n (cA r):=fun n r h=>by
  grind [Fit]
 have Q:∀n r,goal e w.b n (cA r)=goal e w.b n r:=fun n r=>by
  grind [goal]
 refine⟨by show(w.rs.map _).length=_;rw[hl];exact v.len,by show-1<=w.mv/\w.mv<((w.rs.map _).length:Int);rw[hl];exact v.mv,v.bk,fun n hn=>?_,fun i j hi hj Z=>?_,fun i j hi hj Z=>?_,fun id hid=>?_,fun h0=>?_⟩
 ·have hn':n<w.rs.length:=by rw[<-hl];exact hn
  show Rg e k w.b w.mv n (at_ (w.rs.map cA) n);rw[fz hn'];have h:=v.rt n hn';obtain⟨h1,h2,h3,h4,h5⟩:=hs (at_ w.rs n)
  have hsl:0<=(cA (at_ w.rs n)).sl/\(cA (at_ w.rs n)).sl<=(at_ w.rs n).sl:=by
   unfold cA;split
   ·grind [ju]
   exact⟨h.sl.1,ov _⟩
  refine⟨by rw[h1];exact h.al,hfit _ _ h.fit,⟨hsl.1,Int.le_trans hsl.2 h.sl.2⟩,fun hp=>?_,by rw[h2];exact h.lg⟩
  rw[h5,h1];exact h.hd K1
 ·have I:i<w.rs.length:=by rw[<-hl];exact hi
  have M:j<w.rs.length:=by rw[<-hl];exact hj
  show(at_ (w.rs.map cA) i).pl≠(at_ (w.rs.map cA) j).pl;rw[fz I,fz M,(hs _).1,(hs _).1];exact v.pl i j I M Z
 ·have I:i<w.rs.length:=by rw[<-hl];exact hi
  have M:j<w.rs.length:=by rw[<-hl];exact hj
  show(at_ (w.rs.map cA) i).od≠0->(at_ (w.rs.map cA) i).od≠(at_ (w.rs.map cA) j).od;rw[fz I,fz M,(hs _).2.2.1,(hs _).2.2.1];exact v.od i j I M Z
 ·obtain⟨n,hn,hno⟩:=v.has id hid;refine⟨n,by show n<(w.rs.map _).length;rw[hl];exact hn,?_⟩
  show(at_ (w.rs.map cA) n).od=id;rw[fz hn,(hs _).2.2.1];exact hno
 have h0':0<=w.mv:=h0;have hml:w.mv.toNat<w.rs.length:=by have:=v.mv;omega
 obtain⟨g1,g2,g3⟩:=v.go h0';show Go e k _ w.mv.toNat (at_ (w.rs.map cA) w.mv.toNat);rw[fz hml];refine⟨by show(goal e w.b _ _).2=true;rw[Q];exact g1,?_,by show e.arr _ (goal e w.b _ _).1 k=0;grind⟩
 show _=(goal e w.b _ _).1\/∀j,j<(w.rs.map cA).length->(at_ (w.rs.map cA) j).pl≠(goal e w.b _ _).1;grind [fz]
theorem kF(I:e.ok)(v:V e k w):V e k (eD e k w):=rj (ml (ir (by have:=I.K1;omega) v))
def iv(I:e.ok)(hk:0<=k/\k<Od.last)(v:V e k w):V e (k+1) (iI e k w):=qN (tR I hk v)
def V.book(v:V e k w){b':B}(hb:Ok e.m b')(Q:∀id s,dK w.b id s->(s=2\/s=3)->dK b' id s)(hpk:∀id,(dK w.b id 2\/dK w.b id 3)->pk b' id=pk w.b id/\dp b' id=dp w.b id)(Z:∀id,dK b' id 2\/dK b' id 3->dK w.b id 2\/dK w.b id 3):V e k {w with b:=b'}:=by
 have hfit:∀n r,Fit e w.b n r->Fit e b' n r:=fun n r h=>by
  grind [Fit]
 have I:∀n r,Fit e w.b n r->(goal e w.b n r).2=true->goal e b' n r=goal e w.b n r:=fun n r hf hg=>by
  rcases zI hf with M|M
  ·grind [bP,goal]
  have h1:1<=r.od/\r.od<=w.b.os.length:=by rcases M with h|h<;>exact h.1
  have h2:1<=r.od/\r.od<=b'.os.length:=by
   rcases M with h|h
   ·exact(Q _ _ h (.inl rfl)).1
   exact(Q _ _ h (.inr rfl)).1
  obtain⟨h3,h4⟩:=hpk _ M;unfold Cr.pk at h3;unfold Cr.dp at h4;unfold goal;rw[bP.2 h1,bP.2 h2,fw h1,fw h2,h3,h4]
 refine⟨v.len,v.mv,hb,fun n hn=>?_,v.pl,v.od,fun id hid=>v.has id (Z id hid),fun M=>?_⟩
 ·have h:=v.rt n hn;exact⟨h.al,hfit _ _ h.fit,h.sl,h.hd,h.lg⟩
 have h0':0<=w.mv:=M;have hml:w.mv.toNat<w.rs.length:=by have:=v.mv;omega
 obtain⟨g1,g2,g3⟩:=v.go h0';have e1:=I _ _ (v.rt _ hml).fit g1;exact⟨by grind,by grind,by grind⟩
theorem ji{e:Ev}{k:Int}{w:W}(v:V e k w){b':B}{pick drop:Int}(h0:0<=k)(h:Od.dH e.m w.b pick drop k=.ok b'):V e k {w with b:=b'}:=by
 obtain⟨_,h2,o,n,h3,h4⟩:=Od.ji h0 h;have hl:b'.os.length=w.b.os.length+1:=by rw[h4];simp
 have I:∀i,i<w.b.os.length->b'.os.getD i O.z=w.b.os.getD i O.z:=fun i hi=>by
  grind
 have hnew:b'.os.getD w.b.os.length O.z=o:=by rw[h4];simp
 refine v.book h2 (fun id s hi _=>⟨by have:=hi.1;omega,by rw[I _ (by have:=hi.1;omega)];exact hi.2⟩) (fun id hi=>?_) (fun id M=>?_)
 ·have Q:1<=id/\id<=w.b.os.length:=by rcases hi with h|h<;>exact h.1
  unfold pk dp;rw[I _ K1];exact⟨rfl,rfl⟩
 have Q:1<=id/\id<=b'.os.length:=by rcases M with h|h<;>exact h.1
 by_cases h5:id<=w.b.os.length
 ·have Z:=I (id-1).toNat K1;rcases M with h|h
  ·exact .inl ⟨⟨Q.1,h5⟩,by rw[<-Z];exact h.2⟩
  exact .inr ⟨⟨Q.1,h5⟩,by rw[<-Z];exact h.2⟩
 have Z:(id-1).toNat=w.b.os.length:=K1;rcases M with h|h
 ·have:=h.2;grind
 have:=h.2;grind
def rD{e:Ev}{k:Int}{w:W}(v:V e k w){b':B}{id:Int}(h:Od.l7 e.m w.b id 5 0=.ok b'):V e k {w with b:=b'}:=by
 unfold Od.l7 at h;rw[aa (Od.dN.2 v.bk)] at h;obtain⟨h2,M,hq⟩:=qi v.bk h;have hq1:dK w.b id 1:=hq;refine v.book h2 (fun Q s hi hs=>(M.st _ _ fun Z=>?_).2 hi) (fun Q _=>⟨M.pk _,M.dp _⟩) (fun Q I=>?_)
 ·grind [gZ]
 have Z:Q≠id:=fun Z=>by
  rw[Z] at I;rcases I with h|h
  ·exact absurd (gZ h M.new) (by decide)
  exact absurd (gZ h M.new) (by decide)
 rw[M.st _ _ Z,M.st _ _ Z] at I;exact I
def due(w:W)(n:Nat):W:=if held (at_ w.rs n) then w else{w with rs:=w.rs.set n {at_ w.rs n with du:=true}}
def YH(v:V e k w){n:Nat}(hn:n<w.rs.length):V e k (due w n):=by
 unfold due;split
 ·exact v
 rename_i hh;have hs0:¬0<(at_ w.rs n).sl:=fun h=>hh (ju.2 h);have Z:∀j,at_ (w.rs.set n {at_ w.rs n with du:=true}) j=if n=j then{at_ w.rs n with du:=true} else at_ w.rs j:=fun j=>gl hn
 have hl:(w.rs.set n {at_ w.rs n with du:=true}).length=w.rs.length:=aM
 have I:∀j,(at_ (w.rs.set n {at_ w.rs n with du:=true}) j).pl=(at_ w.rs j).pl/\(at_ (w.rs.set n {at_ w.rs n with du:=true}) j).od=(at_ w.rs j).od/\(∀b,goal e b j (at_ (w.rs.set n {at_ w.rs n with du:=true}) j)=goal e b j (at_ w.rs j)):=fun j=>by
  rw[Z];split
  ·rename_i h;subst h;exact⟨rfl,rfl,fun _=>rfl⟩
  grind
 have hrt:∀j,j<w.rs.length->Rg e k w.b w.mv j (at_ (w.rs.set n {at_ w.rs n with du:=true}) j):=fun j M=>by
  rw[Z];split
  ·rename_i h;subst h;have h:=v.rt n hn;exact⟨h.al,h.fit,h.sl,fun h=>absurd h hs0,h.lg⟩
  exact v.rt j M
 generalize hrs:w.rs.set n {at_ w.rs n with du:=true}=rs' at*
 refine⟨hl.trans v.len,by show-1<=w.mv/\w.mv<(rs'.length:Int);rw[hl];exact v.mv,v.bk,fun j M=>hrt j (by rw[<-hl];exact M),fun i j hi M Q=>?_,fun i j hi M Q=>?_,fun id hid=>?_,fun h0=>?_⟩
 ·show(at_ rs' i).pl≠(at_ rs' j).pl;rw[(I i).1,(I j).1];exact v.pl i j (by rw[<-hl];exact hi) (by rw[<-hl];exact M) Q
 ·show(at_ rs' i).od≠0->(at_ rs' i).od≠(at_ rs' j).od;rw[(I i).2.1,(I j).2.1];exact v.od i j (by rw[<-hl];exact hi) (by rw[<-hl];exact M) Q
 ·obtain⟨q,hq,hqo⟩:=v.has id hid;grind
 obtain⟨g1,g2,g3⟩:=v.go h0;obtain⟨p1,p2,p3⟩:=I w.mv.toNat;show Go e k _ w.mv.toNat (at_ rs' w.mv.toNat);refine⟨by grind,?_,by grind⟩
 grind
def new(m:Cf.T):W:=⟨m.h.map fun p=>⟨p,0,0,0,0,false⟩,B.z,-1⟩
def WL(I:e.ok)(hk:0<=k/\k<=Od.last)(hq:(1<=e.m.n5/\e.m.n5<=64)/\(1<=e.m.n4/\e.m.n4<=16)/\1<=e.m.n3):V e k (new e.m):=by
 have hl:(new e.m).rs.length=e.m.h.length:=by simp[new]
 have M:∀j,j<e.m.h.length->at_ (new e.m).rs j=⟨e.m.h.getD j 0,0,0,0,0,false⟩:=fun j hj=>by
  grind [at_,new]
 have Q:Ok e.m B.z:=by
  refine⟨I.num,by decide,by show((0:Nat):Int)<=e.m.n3;omega,?_,fun i hi=>absurd hi (Nat.not_lt_zero _),rfl⟩
  rw[Od.rS];exact⟨hq.1,hq.2.1,by decide,by decide,by show(0:Int)<=e.m.n4;omega⟩
 refine⟨hl,⟨show(-1:Int)<= -1 by decide,by show(-1:Int)<_;omega⟩,Q,fun n hn=>?_,fun i j hi hj Z=>?_,fun i j hi hj Z=>?_,fun id hid=>?_,fun h=>?_⟩
 ·rw[hl] at hn;rw[M n hn];have hsp:e.m.h.getD n 0∈Cf.bC e.m:=by grind [Cf.bC]
  refine⟨(I.spot _ hsp).2 _ hk.1 K1,.inl ⟨rfl,rfl,rfl,rfl⟩,⟨show(0:Int)<=0 by decide,by have:=I.K1;grind⟩,fun h=>absurd h (show¬(0:Int)<0 by decide),?_⟩
  show((0:Int)=2\/(0:Int)=5\/(0:Int)=8)↔(n:Int)= -1;omega
 ·grind [Ev.ok.nd,Cf.bC,List.getElem_inj]
 ·grind
 ·rcases hid with h|h
  ·have h1:1<=id/\id<=((0:Nat):Int):=h.1;omega
  have h1:1<=id/\id<=((0:Nat):Int):=h.1;omega
 exact absurd h (show¬(0:Int)<= -1 by decide)
end Cr
namespace Cr
open Od (O N B Ok)
def R.cs(r:R):bi:=[.int .i64 r.pl,.int .u8 r.st,.int .i64 r.od,.int .i64 r.lf,.int .i64 r.sl,.bool r.du]
def R.fx:E.Fx R.cs 6:=⟨fun _=>rfl,fun x u I=>by simp[R.cs] at I;rcases I with rfl|rfl|rfl|rfl|rfl|rfl<;>rfl,K1⟩
structure Hd where
 pl:Int
 st:Int
 od:Int
 lf:Int
 sl:Int
 du:Bool
 n:Int
def Hd.z:Hd:=⟨0,0,0,0,0,false,0⟩
def hd(n:Int)(r:R):Hd:=⟨r.pl,r.st,r.od,r.lf,r.sl,r.du,n⟩
def Hd.cs(h:Hd):bi:=[.int .i64 h.pl,.int .u8 h.st,.int .i64 h.od,.int .i64 h.lf,.int .i64 h.sl,.bool h.du,.int .i64 h.n]
def Hd.fx:E.Fx Hd.cs 7:=⟨fun _=>rfl,fun x u I=>by simp[Hd.cs] at I;rcases I with rfl|rfl|rfl|rfl|rfl|rfl|rfl<;>rfl,K1⟩
def hdsF:Nat->List R->List Hd
 |_,[]=>[]
 |n,r::rs=>hd n r::hdsF (n+1) rs
def fZ(rs:List R):List Hd:=hdsF 0 rs
def OD:∀(rs:List R) (n:Nat),(hdsF n rs).length=rs.length:=by
 intro rs;induction rs with
 |nil=>intro n;rfl
 |cons r rs I=>intro n;simp only[hdsF,bI,I]
@[simp] theorem da (rs:List R):(fZ rs).length=rs.length:=OD rs 0
def TT:∀{rs:List R} {n k:Nat},k<rs.length->(hdsF n rs).getD k Hd.z=hd ((n+k:Nat):Int) (at_ rs k):=by
 intro rs;induction rs with
 |nil=>intro n k h;simp at h
 |cons r rs I=>
  intro n k h;cases k with
  |zero=>rfl
  |succ k=>
   have:=I (n:=n+1) (k:=k) (by simpa using h)
   simp only[hdsF,lh,this];rw[show n+1+k=n+(k+1) by omega]
   rfl
variable {k:Nat}{rs:List R}
def ow(h:k<rs.length):(fZ rs).getD k Hd.z=hd (k:Int) (at_ rs k):=by have:=TT (n:=0) h;rwa[jt] at this
def Mu:∀{rs:List R} {n k:Nat} {r:R},(hdsF n rs).set k (hd ((n+k:Nat):Int) r)=hdsF n (rs.set k r):=by
 intro rs;induction rs with
 |nil=>intro n k r;rfl
 |cons x rs I=>
  intro n k r;cases k with
  |zero=>rfl
  |succ k=>
   grind [hdsF]
def Gg{r:R}:(fZ rs).set k (hd (k:Int) r)=fZ (rs.set k r):=by have:=Mu (n:=0) (rs:=rs) (k:=k) (r:=r);rwa[jt] at this
def Ja:∀{rs:List R} {n:Nat} {r:R},hdsF n (rs++[r])=hdsF n rs++[hd ((n+rs.length:Nat):Int) r]:=by
 intro rs;induction rs with
 |nil=>intro n r;rfl
 |cons x rs I=>
  grind [hdsF]
def Ol{r:R}:fZ (rs++[r])=fZ rs++[hd (rs.length:Int) r]:=by have:=Ja (n:=0) (rs:=rs) (r:=r);rwa[jt] at this
theorem gu(h:k<rs.length):rs.take (k+1)=rs.take k++[at_ rs k]:=by
 grind [List.take_add_one,at_]
def take_len(h:k<=rs.length):(rs.take k).length=k:=by grind
def upto(f:R->R)(rs:List R)(k:Nat):List R:=(rs.take k).map f++rs.drop k
def xr(f:R->R)(rs:List R):upto f rs 0=rs:=by simp[upto]
def AJ(f:R->R)(h:rs.length<=k):upto f rs k=rs.map f:=by simp[upto,bU h,List.drop_eq_nil_of_le h]
def o5(f:R->R)(rs:List R)(k:Nat):(upto f rs k).length=rs.length:=by simp[upto];omega
def Ij(f:R->R)(h:k<rs.length):at_ (upto f rs k) k=at_ rs k:=by
 grind [at_,upto]
def KH(f:R->R)(h:k<rs.length):upto f rs (k+1)=(upto f rs k).set k (f (at_ rs k)):=by
 have hl:((rs.take k).map f).length=k:=by grind
 unfold upto;rw[gu h,dZ,oo _ _ K1,hl,oD];grind [at_,List.getElem_cons_drop]
def callsN(m:Cf.T)(b:B)(rs:List R):Nat->B×List R
 |0=>(b,rs)
 |k+1=>((call1 m (callsN m b rs k).1 (at_ (callsN m b rs k).2 k)).1,(callsN m b rs k).2.set k (call1 m (callsN m b rs k).1 (at_ (callsN m b rs k).2 k)).2)
theorem ll(m:Cf.T)(b:B)(rs:List R):∀k,(callsN m b rs k).2.length=rs.length:=by
 intro k;induction k with
 |zero=>rfl
 |succ k I=>simp only[callsN,aM,I]
theorem F0(m:Cf.T):∀(a c:List R) (b:B),callsF m b (a++c)=((callsF m (callsF m b a).1 c).1,(callsF m b a).2++(callsF m (callsF m b a).1 c).2):=by
 intro a;induction a with
 |nil=>intro c b;rfl
 |cons r a I=>grind [callsF]
def u9(m:Cf.T):∀(rs:List R) (b:B),(callsF m b rs).2.length=rs.length:=by
 intro rs;induction rs with
 |nil=>intro b;rfl
 |cons r rs I=>intro b;simp only[callsF,bI,I]
theorem G2(h:k<rs.length):rs.drop k=at_ rs k::rs.drop (k+1):=by
 rw[at_,aW,aC h,dW,List.getElem_cons_drop]
def wI(m:Cf.T)(b:B)(rs:List R):∀k,k<=rs.length->callsN m b rs k=((callsF m b (rs.take k)).1,(callsF m b (rs.take k)).2++rs.drop k):=by
 intro k;induction k with
 |zero=>intro _;simp[callsN,callsF]
 |succ k I=>
  intro hk;have h:=I K1;have hl:(callsF m b (rs.take k)).2.length=k:=by rw[u9,take_len K1]
  have ha:at_ (callsN m b rs k).2 k=at_ rs k:=by
   rw[h];show((callsF m b (rs.take k)).2++rs.drop k).getD k R.z=rs.getD k R.z;grind
  grind [callsN,F0,callsF,G2]
def uy(m:Cf.T)(b:B)(rs:List R):callsN m b rs rs.length=callsF m b rs:=by
 rw[wI m b rs _ (bb _),bJ,List.drop_length,bp]
def Kg{e:Ev}{k mv:Int}{b:B}(v:V e k ⟨rs,b,mv⟩):∀i,i<=rs.length->V e k ⟨(callsN e.m b rs i).2,(callsN e.m b rs i).1,mv⟩:=by
 intro i;induction i with
 |zero=>intro _;exact v
 |succ i I=>intro hi;exact Bu (I K1) (n:=i) (by grind [ll])
def aj(m:Cf.T)(k:Int)(b:B)(rs:List R):Nat->B×List R×bv
 |0=>(b,rs,[])
 |i+1=>((cq m k (aj m k b rs i).1 (at_ (aj m k b rs i).2.1 i)).1,(aj m k b rs i).2.1.set i (cq m k (aj m k b rs i).1 (at_ (aj m k b rs i).2.1 i)).2.1,(aj m k b rs i).2.2++(cq m k (aj m k b rs i).1 (at_ (aj m k b rs i).2.1 i)).2.2)
theorem lj(m:Cf.T)(k:Int)(b:B)(rs:List R):∀i,(aj m k b rs i).2.1.length=rs.length:=by
 intro i;induction i with
 |zero=>rfl
 |succ i I=>simp only[aj,aM,I]
theorem Ed(m:Cf.T)(k:Int):∀(a c:List R) (b:B),bl m k b (a++c)=((bl m k (bl m k b a).1 c).1,(bl m k b a).2.1++(bl m k (bl m k b a).1 c).2.1,(bl m k b a).2.2++(bl m k (bl m k b a).1 c).2.2):=by
 intro a;induction a with
 |nil=>intro c b;rfl
 |cons r a I=>grind [bl]
def vT(m:Cf.T)(k:Int):∀(rs:List R) (b:B),(bl m k b rs).2.1.length=rs.length:=by
 intro rs;induction rs with
 |nil=>intro b;rfl
 |cons r rs I=>intro b;simp only[bl,bI,I]
def wL(m:Cf.T)(k:Int)(b:B)(rs:List R):∀i,i<=rs.length->aj m k b rs i=((bl m k b (rs.take i)).1,(bl m k b (rs.take i)).2.1++rs.drop i,(bl m k b (rs.take i)).2.2):=by
 intro i;induction i with
 |zero=>intro _;simp[aj,bl]
 |succ i I=>
  intro hi;have h:=I K1;have hl:(bl m k b (rs.take i)).2.1.length=i:=by rw[vT,take_len K1]
  have ha:at_ (aj m k b rs i).2.1 i=at_ rs i:=by
   rw[h];show((bl m k b (rs.take i)).2.1++rs.drop i).getD i R.z=rs.getD i R.z;grind
  grind [aj,gu,Ed,bl,G2]
def uN(m:Cf.T)(k:Int)(b:B)(rs:List R):aj m k b rs rs.length=bl m k b rs:=by
 rw[wL m k b rs _ (bb _),bJ,List.drop_length,bp]
def IA{e:Ev}{k mv:Int}(hk:0<=k/\k<Od.last){b:B}(v:V e k ⟨rs,b,mv⟩):∀i,i<=rs.length->V e k ⟨(aj e.m k b rs i).2.1,(aj e.m k b rs i).1,mv⟩:=by
 intro i;induction i with
 |zero=>intro _;exact v
 |succ i I=>intro hi;exact vH hk (I K1) (n:=i) (by grind [lj])
end Cr
namespace E
structure Cw where
 rs:List Cr.R
 A:am
 c:Nat
 b:Bk
 mv:Int
def Cw.q(w:Cw):Cr.W:=⟨w.rs,w.b.q,w.mv⟩
def Cw.cells(w:Cw):bi:=[.slice w.A w.rs.length w.c,.slice w.b.A1 w.b.q.os.length w.b.c1,.slice w.b.A2 w.b.q.q.length w.b.c2,.int .u64 w.b.q.n.qP,.int .i64 w.b.q.n.many,.int .i64 w.mv]
def Cw.v(w:Cw):Value:=.agg w.cells.toArray
def Cw.mem(w:Cw):Mem:=[(w.A,fl Cr.R.cs w.rs),(w.b.A1,fl Od.O.cs w.b.q.os),(w.b.A2,ints w.b.q.q)]
def Cw.z:Cw:=⟨[],none,0,⟨Od.B.z,none,0,none,0⟩,0⟩
def Cw.fx:Fx Cw.cells 6:=⟨fun _=>rfl,fun x u I=>by simp[Cw.cells] at I;rcases I with rfl|rfl|rfl|rfl|rfl|rfl<;>rfl,K1⟩
structure Sh where
 g:aP
 t:Int
 m:Tm
 tk:Int
 rs:List Cr.R
 A:am
 c:Nat
 b:Bk
 mv:Int
 dn:bv
 A2:am
 c2:Nat
def Sh.q(s:Sh):Cr.W:=⟨s.rs,s.b.q,s.mv⟩
def Sh.cells(s:Sh):bi:=[.int .i64 s.g.a,.int .i64 s.g.b,.slice s.g.A s.g.l.length s.g.c,.slice s.g.A1 s.g.s.length s.g.c1,.slice s.g.A2 s.g.ts.length s.g.c2,.int .u64 s.g.st,.int .i64 s.t,
 .slice s.m.A1 s.m.q.h.length s.m.c1,.slice s.m.A2 s.m.q.p.length s.m.c2,.slice s.m.A3 s.m.q.d.length s.m.c3,.int .i64 s.m.q.n1,.int .i64 s.m.q.n2,.int .i64 s.m.q.n3,.int .i64 s.m.q.n4,.int .i64 s.m.q.n5,
 .int .u64 s.tk,.slice s.A s.rs.length s.c,.slice s.b.A1 s.b.q.os.length s.b.c1,.slice s.b.A2 s.b.q.q.length s.b.c2,.int .u64 s.b.q.n.qP,.int .i64 s.b.q.n.many,.int .i64 s.mv,.slice s.A2 s.dn.length s.c2]
structure Sh.rd(w:World)(G:Nat->Prop)(B:Nat)(s:Sh):Prop where
 k:Rd w G (some ⟨B,0,.none⟩) s.cells
 h:Rd w G s.A (fl Cr.Hd.cs (Cr.fZ s.rs))
 o:Rd w G s.b.A1 (fl Od.O.cs s.b.q.os)
 q:Rd w G s.b.A2 (ints s.b.q.q)
 g:s.g.rd w G
 m:s.m.rd w G
def HP.sh(B:Nat)(s:Sh):HP:=HP.dj [HP.aw B 342 s.cells,HP.row 345 7 s.A s.rs.length s.c (fl Cr.Hd.cs (Cr.fZ s.rs)),HP.ro [(s.b.A1,fl Od.O.cs s.b.q.os),(s.b.A2,ints s.b.q.q)],HP.row 3 1 s.A2 s.dn.length s.c2 (ints s.dn)]
section
variable{w0:World}{F:Nat->Prop}{H:List HP}
def HA.Mh{w:World}(h:HA w0 F H w){B:Nat}{s:Sh}(I:s.rd w0 F B):s.rd w (Old w) B:=⟨h.rd I.k,h.rd I.h,h.rd I.o,h.rd I.q,h.lN I.g,h.oP I.m⟩
end
end E
namespace Rt
open Cf
def owner(g:C)(p:Int):Int:=if(Fl.owner g.a g.b g.l p).2=0 then(Fl.owner g.a g.b g.l p).1 else-1
def asked(g:C)(t tick:Int):Int:=if check g=0 then(if ag g.ts t=true/\tick<=4611686018427389952 then 0 else 2) else check g
def gm(g:C)(t p tick:Int):Bool:=
 if owner g p=t then true else if owner g p= -2 then(decide ((Fl.dB g.s tick).2=0)&&decide ((Fl.dB g.s tick).1=t)) else false
def lM(g:C)(t a b:Int):Bool:=decide (owner g b=t)&&(decide (owner g a=t)||decide (owner g a= -2))
def gC(g:C)(t a b tick:Int):Int:=if asked g t tick=0 then(if lM g t a b then 0 else 2) else asked g t tick
def on(g:C)(p:Int):Bool:=decide (0<=p)&&decide (p<g.l.length)
def allowed(g:C)(t p tick:Int):Bool×Int:=if asked g t tick=0 then(if on g p then(gm g t p tick,0) else(false,2)) else(false,asked g t tick)
variable {g:C}{p t tick:Int}
def La(h:¬check g=0):asked g t tick=check g:=by simp[asked,h]
theorem jk(h:check g=0)(hp:ag g.ts t=true)(ht:tick<=4611686018427389952):asked g t tick=0:=by simp[asked,h,hp,ht]
def KC(h:check g=0)(hp:ag g.ts t=false\/¬tick<=4611686018427389952):asked g t tick=2:=by
 grind [asked]
def WG(h:¬asked g t tick=0):allowed g t p tick=(false,asked g t tick):=ae h
def X7(h:asked g t tick=0)(hp:¬(0<=p/\p<(g.l.length:Int))):allowed g t p tick=(false,2):=
 (aa h).trans (ae (by simpa[on] using hp))
theorem Ct(h:asked g t tick=0)(hp:0<=p/\p<(g.l.length:Int)):allowed g t p tick=(gm g t p tick,0):=
 (aa h).trans (aa (by simpa[on] using hp))
def Wc(I:¬owner g p=t)(M:owner g p= -2)(Q:(Fl.dB g.s tick).2=0):gm g t p tick=decide ((Fl.dB g.s tick).1=t):=by
 grind [gm]
def ac9(I:¬owner g p=t)(M:owner g p= -2)(Q:¬(Fl.dB g.s tick).2=0):gm g t p tick=false:=by
 grind [gm]
def aex(h:p<0):on g p=false:=by grind [on]
def pe(ts:List T)(t:Int):Int:=if t<0\/(ts.length:Int)<=t then 2 else 0
theorem Qj{ts:List T}(h:¬pe ts t=0):ag ts t=false:=by
 grind [pe,ag]
def aek(h:check g=0):dt g t=(ag g.ts t,pe g.ts t):=by
 grind [dt,pe,Qj]
end Rt
section
variable{P:Program}{n:E.Fr}{w0:World}{F:Nat->Prop}{K:E.Kt}{l:E.Env}{H:List E.HP}
namespace Cf
abbrev Bs:=ap
def n1:Bs->Option (Nat×Bs)
 |[]=>none
 |y::r=>some (y.toNat,r)
def tk(n:Nat)(s:Bs):Option (Bs×Bs):=if n<=s.length then some (s.take n,s.drop n) else none
def is(l:Bs):bv:=l.map fun y=>(y.toNat:Int)
def ls(s:Bs):Option (bv×Bs):=(n1 s).bind fun x=>(tk x.1 x.2).map fun y=>(is y.1,y.2)
def nsP:Nat->Bs->Option (bv×Bs)
 |0,s=>some ([],s)
 |n+1,s=>(nsP n s).bind fun x=>(n1 x.2).map fun y=>(x.1++[(y.1:Int)],y.2)
def Lt(s:Bs):Option (T×Bs):=(ls s).bind fun h=>
 if h.1.length=0 then some (⟨h.1,[],[],0,0,0,0,0⟩,h.2) else
 (ls h.2).bind fun p=>(ls p.2).bind fun d=>(nsP 5 d.2).map fun x=>(⟨h.1,p.1,d.1,x.1.getD 0 0,x.1.getD 1 0,x.1.getD 2 0,x.1.getD 3 0,x.1.getD 4 0⟩,x.2)
def kJ:Nat->Bs->Option (List T×Bs)
 |0,s=>some ([],s)
 |n+1,s=>(kJ n s).bind fun x=>(Lt x.2).map fun y=>(x.1++[y.1],y.2)
def aO(l:Bs):Int:=l.foldl (fun a c=>a*256+(c.toNat:Int)) 0
def Ll(s:Bs):Option (C×Bs):=(n1 s).bind fun a=>(n1 a.2).bind fun b=>(tk (a.1*b.1) b.2).bind fun l=>(n1 l.2).bind fun k=>(tk k.1 k.2).bind fun q=>(n1 q.2).bind fun n=>(kJ n.1 n.2).bind fun ts=>(tk 8 ts.2).map fun st=>
 (⟨a.1,b.1,l.1,q.1,ts.1,aO st.1⟩,st.2)
def dec(b:Bs):C×Int:=if 256<b.length then(zero,4) else match Ll b with
 |none=>(zero,10)
 |some x=>if 0<x.2.length then(zero,11) else if check x.1=0 then(x.1,0) else(zero,check x.1)
def Res{α:Type}(p:Bs->Option (α×Bs))(s:Option Bs)(x:α)(s':Option Bs):Prop:=match s.bind p with
 |none=>s'=none
 |some y=>s'=some y.2/\x=y.1
def zJ:∀(l:Bs),0<=aO l/\aO l<256^l.length:=by
 intro l
 have key:∀(l:Bs) (a:Int),0<=a->0<=l.foldl (fun a c=>a*256+(c.toNat:Int)) a/\l.foldl (fun a c=>a*256+(c.toNat:Int)) a<(a+1)*256^l.length:=by
  intro l;induction l with
  |nil=>intro a ha;simp;omega
  |cons y r I=>
   intro a ha;have M:=y.toNat_lt;have:=I (a*256+(y.toNat:Int)) K1;refine⟨this.1,Int.lt_of_lt_of_le this.2 ?_⟩;rw[bI,Int.pow_succ,Int.mul_comm (256^r.length) 256,<-Int.mul_assoc];exact ny K1 (Int.pow_nonneg K1)
 grind [aO]
variable {a k m p q:Nat}{b:Bs}{e:Int}{h:bv}{s s' s1 s2 s3 s4:Option Bs}{ts:List T}{α:Type}
def Fv{l:Bs}(h:k<l.length):aO (l.take (k+1))=aO (l.take k)*256+((l.getD k 0).toNat:Int):=by
 grind [aO,List.take_add_one]
def str(b:Bs)(p:Nat)(e:Int):Option Bs:=if e=0 then some (b.drop p) else none
def lO(m:Nat)(s:Bs):Option (Int×Bs):=(tk m s).map fun y=>(aO y.1,y.2)
theorem tC(h:¬e=0):str b p e=none:=ae h
variable {f:Bs->Option (α×Bs)}{x:α}
def Gh{e2:Int}(h:¬e=0)(I:¬e2=0):Res f (str b p e) x (str b q e2):=by
 unfold Res;rw[tC h,tC I];rfl
theorem GM(h:p+m<=b.length):tk m (b.drop p)=some ((b.drop p).take m,b.drop (p+m)):=by
 grind [tk,List.drop_drop]
theorem C7(h:b.length<p+m)(hp:p<=b.length):tk m (b.drop p)=none:=by
 grind [tk]
def WX(h:p+m<=b.length):Res (tk m) (str b p 0) ((b.drop p).take m) (str b (p+m) 0):=by
 grind [Res,str,GM]
def T0{x:Bs}(h:b.length<p+m)(hp:p<=b.length):Res (tk m) (str b p 0) x (str b q 10):=by
 grind [Res,str,C7]
def UG(h:p+m<=b.length):Res (lO m) (str b p 0) (aO ((b.drop p).take m)) (str b (p+m) 0):=by
 grind [Res,str,lO,GM]
def MG{x:Int}(h:b.length<p+m)(hp:p<=b.length):Res (lO m) (str b p 0) x (str b q 10):=by
 grind [Res,str,lO,C7]
theorem xA(y:UInt8):aO [y]=(y.toNat:Int):=by simp[aO]
theorem YU(s:Bs):n1 s=(lO 1 s).map fun y=>(y.1.toNat,y.2):=by
 cases s with
 |nil=>rfl
 |cons y r=>simp[n1,lO,tk,xA]
def aae{x:Int}(h:Res (lO 1) s x s'):Res n1 s x.toNat s':=by
 unfold Res at*;cases s with
 |none=>exact h
 |some s=>
  grind [YU]
def na{β:Type}{g:α->β}(h:Res f s x s'):Res (fun s=>(f s).map fun y=>(g y.1,y.2)) s (g x) s':=by
 unfold Res at*;cases s with
 |none=>exact h
 |some s=>
  grind
def ef{β:Type}{g:α->Bs->Option (β×Bs)}{y:β}(h:Res f s x s')(I:Res (g x) s' y s2):Res (fun s=>(f s).bind fun z=>g z.1 z.2) s y s2:=by
 unfold Res at*;cases s with
 |none=>grind
 |some s=>
  grind
def Fh{b:Nat}(h:a<=b):(256:Int)^a<=256^b:=by
 have I:(256:Nat)^a<=256^b:=Nat.pow_le_pow_right K1 h;grind
def Aq{l:Bs}(h:l.length<=7):0<=aO l/\aO l<72057594037927936:=by
 have I:=zJ l;have:(256:Int)^l.length<=256^7:=Fh h;grind
def wS{l:Bs}(h:l.length<=8):0<=aO l/\aO l<18446744073709551616:=by
 have I:=zJ l;have:(256:Int)^l.length<=256^8:=Fh h;grind
def ET{l:Bs}(h:l.length<=1):aO l<256:=by
 have I:=zJ l;have:(256:Int)^l.length<=256^1:=Fh h;grind
def ia{g:Bs->Option (α×Bs)}(e:∀s,f s=g s)(h:Res f s x s'):Res g s x s':=by
 rw[show g=f from funext fun s=>(e s).symm];exact h
variable {x:Nat}
def WH{l:Bs}(h:Res n1 s x s1)(I:Res (tk x) s1 l s2):Res ls s (is l) s2:=
 ia (fun _=>rfl) (ef (g:=fun(k:Nat) (s:Bs)=>(tk k s).map fun(y:Bs×Bs)=>(is y.1,y.2)) h (na (g:=is) I))
def UQ(r:Res ls s h s1)(e:h.length=0):Res Lt s ⟨h,[],[],0,0,0,0,0⟩ s1:=by
 unfold Res at*;cases s with
 |none=>exact r
 |some s=>
  grind [Lt]
def Sq(s:Option Bs):Res (nsP 0) s [] s:=by
 unfold Res;cases s with
 |none=>rfl
 |some s=>exact⟨rfl,rfl⟩
def V0{xs:bv}(r:Res (nsP k) s xs s1)(I:Res n1 s1 x s2):Res (nsP (k+1)) s (xs++[(x:Int)]) s2:=
 ia (fun _=>rfl) (ef (g:=fun(xs:bv) (s:Bs)=>(n1 s).map fun(y:Nat×Bs)=>(xs++[(y.1:Int)],y.2)) r (na (g:=fun(x:Nat)=>xs++[(x:Int)]) I))
def S5{p d I:bv}(r:Res ls s h s1)(e:¬h.length=0)(M:Res ls s1 p s2)(Q:Res ls s2 d s3)(Z:Res (nsP 5) s3 I s4):
  Res Lt s ⟨h,p,d,I.getD 0 0,I.getD 1 0,I.getD 2 0,I.getD 3 0,I.getD 4 0⟩ s4:=by
 have r5:=na (g:=fun(I:bv)=>(⟨h,p,d,I.getD 0 0,I.getD 1 0,I.getD 2 0,I.getD 3 0,I.getD 4 0⟩:T)) Z;have r6:=ef (g:=fun(d:bv) (s:Bs)=>(nsP 5 s).map fun(x:bv×Bs)=>((⟨h,p,d,x.1.getD 0 0,x.1.getD 1 0,x.1.getD 2 0,x.1.getD 3 0,x.1.getD 4 0⟩:T),x.2)) Q r5;have r7:=ef (g:=fun(p:bv) (s:Bs)=>(ls s).bind fun(d:bv×Bs)=>(nsP 5 d.2).map fun(x:bv×Bs)=>((⟨h,p,d.1,x.1.getD 0 0,x.1.getD 1 0,x.1.getD 2 0,x.1.getD 3 0,x.1.getD 4 0⟩:T),x.2)) M r6
 have r8:=ef (g:=fun(h:bv) (s:Bs)=>if h.length=0 then some ((⟨h,[],[],0,0,0,0,0⟩:T),s) else(ls s).bind fun(p:bv×Bs)=>(ls p.2).bind fun(d:bv×Bs)=>(nsP 5 d.2).map fun(x:bv×Bs)=>((⟨h,p.1,d.1,x.1.getD 0 0,x.1.getD 1 0,x.1.getD 2 0,x.1.getD 3 0,x.1.getD 4 0⟩:T),x.2)) r
  (ia (fun s=>by simp only[ae e]) r7)
 exact ia (fun _=>rfl) r8
def Ty{n:Nat}{t:T}(r:Res (kJ n) s ts s1)(I:Res Lt s1 t s2):Res (kJ (n+1)) s (ts++[t]) s2:=
 ia (fun _=>rfl) (ef (g:=fun(ts:List T) s=>(Lt s).map fun y=>(ts++[y.1],y.2)) r (na (g:=fun t=>ts++[t]) I))
def Ap{n:Nat}{us:List T}(r:Res (kJ n) s ts none):Res (kJ (n+1)) s us none:=by
 have h:=ia (g:=kJ (n+1)) (fun _=>rfl) (ef (g:=fun(ts:List T) s=>(Lt s).map fun y=>(ts++[y.1],y.2)) r (na (x:=T.z) (g:=fun t=>ts++[t]) (s':=none) rfl));grind [Res]
def Gt{l:Bs}(h:k<l.length):is (l.take (k+1))=is (l.take k)++[((l.getD k 0).toNat:Int)]:=by
 grind [is,List.take_add_one]
def ad3{l:Bs}:∀n∈is l,0<=n/\n<256:=fun n I=>by
 grind [is,UInt8.toNat_lt]
def QT(s:Option Bs):Res (kJ 0) s [] s:=by
 unfold Res;cases s with
 |none=>rfl
 |some s=>exact⟨rfl,rfl⟩
def J7(l:bv):Prop:=l.length<=255/\∀n∈l,0<=n/\n<256
def CM:J7 []:=⟨by simp,fun n h=>by cases h⟩
def rR{l:bv}(h:J7 l):Cv l:=fun n I=>by have:=h.2 n I;omega
def JQ{l:bv}(h:∀n∈l,0<=n/\n<256)(I:x<256):∀n∈l++[(x:Int)],0<=n/\n<256:=fun n M=>by
 grind
def Bi{p d:bv}{a b c f:Int}(M:J7 h)(Q:J7 p)(Z:J7 d)(I:∀n∈[a,b,c,e,f],0<=n/\n<256):T.fit ⟨h,p,d,a,b,c,e,f⟩:=by
 have k1:=M.1;have k2:=Q.1;have k3:=Z.1;have ha:=I a (by simp)
 have hb:=I b (by simp)
 have hc:=I c (by simp)
 have he:=I e (by simp)
 have hf:=I f (by simp)
 exact⟨by simp only;omega,by simp only;omega,by simp only;omega,rR M,rR Q,rR Z,by simp only[i64];omega,by simp only[i64];omega,by simp only[i64];omega,by simp only[i64];omega,by simp only[i64];omega⟩
def Kr(I:J7 h):T.fit ⟨h,[],[],0,0,0,0,0⟩:=Bi I CM CM (fun n M=>by simp at M;omega)
def aeb{l:bv}(h:l.length=5):∃a b c d e,l=[a,b,c,d,e]:=by
 match l,h with
 |[a,b,c,d,e],_=>exact⟨a,b,c,d,e,rfl⟩
def W3{s5 I M Q:Option Bs}{b n:Nat}{l q:Bs}{st:Int}(Z:Res n1 s a s1)(r2:Res n1 s1 b s2)(r3:Res (tk (a*b)) s2 l s3)(r4:Res n1 s3 k s4)(r5:Res (tk k) s4 q s5)(r6:Res n1 s5 n I)(r7:Res (kJ n) I ts M)(r8:Res (lO 8) M st Q):Res Ll s ⟨a,b,l,q,ts,st⟩ Q:=by
 have g8:=na (g:=fun(st:Int)=>(⟨a,b,l,q,ts,st⟩:C)) r8;have g7:=ef (g:=fun(ts:List T) (s:Bs)=>(lO 8 s).map fun(y:Int×Bs)=>((⟨a,b,l,q,ts,y.1⟩:C),y.2)) r7 g8;have g6:=ef (g:=fun(n:Nat) (s:Bs)=>(kJ n s).bind fun(z:List T×Bs)=>(lO 8 z.2).map fun(y:Int×Bs)=>((⟨a,b,l,q,z.1,y.1⟩:C),y.2)) r6 g7;have g5:=ef (g:=fun(q:Bs) (s:Bs)=>(n1 s).bind fun(n:Nat×Bs)=>(kJ n.1 n.2).bind fun(z:List T×Bs)=>(lO 8 z.2).map fun(y:Int×Bs)=>((⟨a,b,l,q,z.1,y.1⟩:C),y.2)) r5 g6;have g4:=ef (g:=fun(k:Nat) (s:Bs)=>(tk k s).bind fun(q:Bs×Bs)=>(n1 q.2).bind fun(n:Nat×Bs)=>(kJ n.1 n.2).bind fun(z:List T×Bs)=>(lO 8 z.2).map fun(y:Int×Bs)=>((⟨a,b,l,q.1,z.1,y.1⟩:C),y.2)) r4 g5;have g3:=ef (g:=fun(l:Bs) (s:Bs)=>(n1 s).bind fun(k:Nat×Bs)=>(tk k.1 k.2).bind fun(q:Bs×Bs)=>(n1 q.2).bind fun(n:Nat×Bs)=>(kJ n.1 n.2).bind fun(z:List T×Bs)=>(lO 8 z.2).map fun(y:Int×Bs)=>((⟨a,b,l,q.1,z.1,y.1⟩:C),y.2)) r3 g4;have g2:=ef (g:=fun(b:Nat) (s:Bs)=>(tk (a*b) s).bind fun(l:Bs×Bs)=>(n1 l.2).bind fun(k:Nat×Bs)=>(tk k.1 k.2).bind fun(q:Bs×Bs)=>(n1 q.2).bind fun(n:Nat×Bs)=>(kJ n.1 n.2).bind fun(z:List T×Bs)=>(lO 8 z.2).map fun(y:Int×Bs)=>((⟨a,b,l.1,q.1,z.1,y.1⟩:C),y.2)) r2 g3;have g1:=ef (g:=fun(a:Nat) (s:Bs)=>(n1 s).bind fun(b:Nat×Bs)=>(tk (a*b.1) b.2).bind fun(l:Bs×Bs)=>(n1 l.2).bind fun(k:Nat×Bs)=>(tk k.1 k.2).bind fun(q:Bs×Bs)=>(n1 q.2).bind fun(n:Nat×Bs)=>(kJ n.1 n.2).bind fun(z:List T×Bs)=>(lO 8 z.2).map fun(y:Int×Bs)=>((⟨a,b.1,l.1,q.1,z.1,y.1⟩:C),y.2)) Z g2;refine ia (fun s=>?_) g1;unfold Ll lO;simp only[Option.map_map];rfl
theorem abq(b:Bs):str b 0 0=some b:=rfl
def R7(h:256<b.length):dec b=(zero,4):=aa h
variable {x:C}
def Pt(h:b.length<=256)(I:¬e=0)(r:Res Ll (str b 0 0) x (str b p e)):dec b=(zero,10):=by
 grind [abq,tC,dec,Res]
def tO(r:Res Ll (str b 0 0) x (str b p 0)):Ll b=some (x,b.drop p):=by
 grind [Res,str]
def LH(h:b.length<=256)(r:Res Ll (str b 0 0) x (str b p 0))(hp:p<b.length):dec b=(zero,11):=by
 unfold dec;rw[ae K1,tO r];grind
def RR(h:b.length<=256)(r:Res Ll (str b 0 0) x (str b p 0))(hp:¬p<b.length)(hc:¬check x=0):dec b=(zero,check x):=by
 unfold dec;rw[ae K1,tO r];simp_all
def YC(h:b.length<=256)(r:Res Ll (str b 0 0) x (str b p 0))(hp:¬p<b.length)(hc:check x=0):dec b=(x,0):=by
 unfold dec;rw[ae K1,tO r];simp_all
def PM{b:Nat}{l q:Bs}{st:Int}(ha:a<256)(M:b<256)(hl:l.length<=100000)(Q:q.length<=100000)(ht:ts.length<=100000)(I:∀t∈ts,t.fit)(hs:0<=st/\st<18446744073709551616):C.fit ⟨a,b,l,q,ts,st⟩:=
 ⟨by simp only[i64];omega,by simp only[i64];omega,by simp only;omega,by simp only;omega,by simp only;omega,I,hs⟩
variable {ts:List E.Tm}
def MS(h:∀m∈ts,m.q.fit):∀t∈ts.map (·.q),t.fit:=fun t ht=>by
 grind
def KJ{m:E.Tm}(h:∀m∈ts,m.q.fit)(I:m.q.fit):∀q∈ts++[m],q.q.fit:=fun q M=>by
 grind
end Cf
namespace E
section
variable{o:Oper}
def fu(A:am)(c k:Nat):am:=if c=k then A else A.map (·.add (k*1))
variable {A:am}{Et c i k m:Nat}{H':List HP}{a us vs:bi}{ops:Array Oper}{rest:List Oper}{t:TypeId}{ts:Array TypeId}{w:World}{x y:Operand}{xs:List Operand}
def PV.aaU{t bytes lo hi:Nat}{q:Operand}{z:Value}(hT:P.underlying t=some (.slice Et))(hI:In P Et z 1 bytes)(ho:o.op=.slice t x (some y) (some q) none)(hx:ev l x=some (.slice A m c))(hy:ev l y=some (.int .i64 (lo:Int)))(hq:ev l q=some (.int .i64 (hi:Int)))(h1:lo<=hi)(h2:hi<=c):PV P n w0 F l H o (.slice (fu A c lo) (hi-lo) (c-lo)):=fun a w ha _=>by
 obtain⟨inf,I,hz0,Z,hz2⟩:=hI.parts
 have M:P.elem t=Et:=by simp[Program.elem,hT]
 have Q:P.underlying t=some (.slice (P.elem t)):=by rw[M];exact hT
 have hr:=run_slice_lh (P:=P) w t A m c Q .i64 .i64 (lo:Int) (hi:Int) K1 K1 K1
 rw[M] at hr
 have hsa:=run_sliceAt_slice (P:=P) w t (.slice A m c) (some (.int .i64 (lo:Int))) (some (.int .i64 (hi:Int))) none Q
 simp[execOp,ho,ha.ev hx,ha.ev hy,ha.ev hq,hsa,hr,sizeOf,typeInfo,I,Z,Result.andThen,sliced,fu]
def PV.D4{t bytes lo:Nat}{z:Value}(hT:P.underlying t=some (.slice Et))(hI:In P Et z 1 bytes)(ho:o.op=.slice t x (some y) none none)(hx:ev l x=some (.slice A m c))(hy:ev l y=some (.int .i64 (lo:Int)))(h1:lo<=m):PV P n w0 F l H o (.slice (fu A c lo) (m-lo) (c-lo)):=fun a w ha _=>by
 obtain⟨inf,I,hz0,Z,hz2⟩:=hI.parts
 have M:P.elem t=Et:=by simp[Program.elem,hT]
 have Q:P.underlying t=some (.slice (P.elem t)):=by rw[M];exact hT
 have hr:=run_slice_l (P:=P) w t A m c Q .i64 (lo:Int) K1 K1
 rw[M] at hr
 have hsa:=run_sliceAt_slice (P:=P) w t (.slice A m c) (some (.int .i64 (lo:Int))) none none Q
 simp[execOp,ho,ha.ev hx,ha.ev hy,hsa,hr,sizeOf,typeInfo,I,Z,Result.andThen,sliced,fu]
def qD{G:Nat->Prop}{b:ap}(I:Rd w G A (aA b))(h:k+m<=b.length)(hc:b.length<=c):Rd w G (fu A c k) (aA ((b.drop k).take m)):=fun M=>by
 have Z:0<m:=by
  rcases tD m with e|e
  ·subst e;simp at M
  exact e
 obtain⟨ad,rfl,hg,Q⟩:=I (by simp;omega)
 grind [fu,Addr.gq,Addr.ku,aA]
def HA.gM(h:HA w0 F H w){sz:Nat}{xs:bi}(hi:E.sel H i=some (HP.row Et sz A m c xs,H')):m<=c:=by
 rcases(h.row hi).2 with⟨I,M⟩|⟨g,cap,cur,I,_,_,Q,_⟩
 ·subst M;omega
 grind
theorem PV.shl{t M:TypeId}{x y:Operand}{k I:IntKind}{p q:Int}(ho:o.op=.binOp .shl t x y M)(Q:ev l x=some (.int k p))(Z:ev l y=some (.int I q))(hq:0<=q):PV P n w0 F l H o (.int k (k.wrap (p*2^min q.toNat k.bits))):=
 PV.bin ho Q Z fh fun w=>by
  rw[show binOp .shl t (.int k p) (.int I q)=Op.shift .shl k p I q from by simp[binOp]]
  simp[Op.shift,show¬q<0 by omega]
def PV.or8{M:TypeId}{p:Int}{q:Nat}(hp:0<=p/\p*256+256<=18446744073709551616)(hq:q<256)(ho:o.op=.binOp .or t x y M)(Q:ev l x=some (.int .u64 (p*256)))(Z:ev l y=some (.int .u64 (q:Int))):PV P n w0 F l H o (.int .u64 (p*256+(q:Int))):=
 PV.bin ho Q Z fh fun w=>by
  obtain⟨m,rfl⟩:=Int.eq_ofNat_of_zero_le hp.1
  have e1:((m:Int)*256)=((m*256:Nat):Int):=K1
  have hm:m*256<18446744073709551616:=K1
  have I:m*256|||q=m*256+q:=by
   have:=Nat.shiftLeft_add_eq_or_of_lt (b:=q) (i:=8) K1 m;rw[Nat.shiftLeft_eq] at this;exact this.symm
  rw[show binOp .or t (.int .u64 ((m:Int)*256)) (.int .u64 (q:Int))=Op.intBits .or .u64 ((m:Int)*256) (q:Int) from by simp[binOp],e1]
  simp only[Op.intBits]
  have hb:(BitVec.ofInt IntKind.u64.bits ((m*256:Nat):Int)|||BitVec.ofInt IntKind.u64.bits (q:Int)).toNat=m*256+q:=by
   rw[BitVec.toNat_or,BitVec.ofInt_natCast,BitVec.ofInt_natCast,BitVec.toNat_ofNat,BitVec.toNat_ofNat,show IntKind.u64.bits=64 from rfl,fQ K1,fQ K1,I]
  rw[hb];have:IntKind.u64.wrap ((m*256+q:Nat):Int)=((m*256+q:Nat):Int):=by rw[IntKind.wrap_u64];omega
  rw[this];simp
def Sp{I:bv}{x:Int}(hk:k<I.length):wr (a++ints I) (a.length+k) [.int .i64 x]=some (a++ints (I.set k x)):=by
 grind [Px,ints,List.map_set]
def OW.EU{B T j:Nat}{I:bv}{v:Int}(M:∀w,(sizeOf t).run P w=.ok 1 w)(ho:o.op=.store t x y)(hg:gd ops l o.guard=some true)(hd:o.dst=none)(Q:ev l x=some (.pointer (some ⟨B,j,.none⟩)))(Z:ev l y=some (.int .i64 v))(hj:j=a.length+k)(hk:k<I.length)(hi:sel H i=some (HP.aw B T (a++ints I),H'))(k':OW P n w0 F ops K rest l (HP.aw B T (a++ints (I.set k v))::H')):OW P n w0 F ops K (o::rest) l H:=by
 subst hj;exact OW.store (vs:=[.int .i64 v]) M ho hg hd Q Z rfl rfl hi (Sp hk) k'
def MJ(B k m:Nat):bi:=(List.range m).map fun i=>.pointer (some ⟨B,k+i,.none⟩)
@[simp] theorem Vm (B k m:Nat):(MJ B k m).length=m:=by simp[MJ]
def PV.PZ{B:Nat}(I:∀w,HA w0 F H w->Rd w (Old w) A (MJ B k m))(ht:Na P t)(ho:o.op=.load t x)(M:ev l x=some (bB A i))(hi:i<m):
  PV P n w0 F l H o (.pointer (some ⟨B,k+i,.none⟩)):=PV.dR I ht ho M (by simp[MJ,hi])
def set_tail{xs:bv}{x:Int}(hl:xs.length=k)(hk:k<5):(xs++List.replicate (5-k) 0).set k x=(xs++[x])++List.replicate (5-(k+1)) 0:=by
 subst hl;rw[oo _ _ (bb _),oD,show 5-xs.length=(5-(xs.length+1))+1 by omega,List.replicate_succ,oB,aQ]
 rfl
def JD{P:Program}{o:Oper}{a:Act}{f:Nat}{M:Operand}(hf:Nm P f)(I:a.eval M=.func (.func f) us.toArray #[])(ho:o.op=.call {callee:=.value M,args:=xs.toArray,argTypes:=ts})(hx:xs.map a.eval=vs):
  (execOp a.eval o).run P w=.ok (.enter f (us++vs).toArray) w:=by
 obtain⟨Q,h1,Z,h3⟩:=hf;have hb:Q.body≠none:=by intro h;rw[h] at Z;cases Z
 have hn:Q.name≠ "runtime.NumGoroutine" :=by simpa using h3
 simp[execOp,ho,resolve,Deferred.ofValue,invoke,callFunc,program,Sem.run,h1,hn,hb,I,hx]
def OW.Yy{d:Nat}{f:Nat}{fo:Operand}(M:Nm P f)(hg:gd ops l o.guard=some true)(hd:o.dst=some d)(hn:Nat.blt d n.sz=true)(ho:o.op=.call {callee:=.value fo,args:=xs.toArray,argTypes:=ts})(hfo:ev l fo=some (.func (.func f) us.toArray #[]))(hx:evs l xs=some vs)(R:Value->List HP->Prop)(i:Nat){p:HP}(hi:E.sel H i=some (p,H'))(h:∀w S,HA w0 F (p::H') w->p.bA S w->(∀k,S k->k<w.heap.size/\¬F k)->ah w (fun k=>F k\/S k) H'->Calls P f (us++vs).toArray w (bK w (fun k=>k<w.heap.size/\¬S k) R))(k:∀v Hn,R v Hn->OW P n w0 F ops K rest ((d,v)::l) (Hn++H')):OW P n w0 F ops K (o::rest) l H:=fun a w ha Q=>by
 refine wpListIn_step fun K' hK'=>?_
 rw[aa (ha.wanted hg)]
 refine gP (JD M (ha.ev hfo) ho (ha.evs hx)) ?_
 have hw1:=Q.perm (an hi)
 obtain⟨S,h1,h2,h3⟩:=hw1.chunks
 refine(h w S hw1 h1 h2 h3).mono fun e w' ⟨v,Hn,he,hR,I⟩=>?_
 refine⟨v,he,?_⟩
 rw[hd]
 refine hK' _ _ (k v Hn hR _ _ (ha.put hn v) ?_)
 have hF:∀k,F k->k<w.heap.size/\¬S k:=fun k M=>⟨br (Q.z1 k M) Q.size,fun hs=>(h2 k hs).2 M⟩
 refine⟨I.os.trans Q.os,I.tape.trans Q.tape,I.output.trans Q.output,ic Q.size I.size,Q.z1,fun k M=>(I.kept k (hF k M)).trans (Q.kept k M),?_⟩
 refine ah.app (G:=fun k=>k<w.heap.size/\¬S k) ?_ ?_
 ·exact I.chunks.congr fun k=>⟨.inr,fun Z=>Z.elim (hF k) id⟩
 ·exact fj.of (w:=w) I.size (fun k Z=>I.kept k Z) (U:=fun k=>F k\/S k) (fun k hlt hn=>⟨hlt,fun hs=>hn (.inr hs)⟩) (fun k M=>.inl M) h3
def OW.FB{I:List HP}{m:Tm}{ts:List Tm}(i j:Nat){M:List HP}(hi:sel H i=some (HP.tm m,I))(Z:sel I j=some (HP.tms ts,M))(k:OW P n w0 F ops K rest l (HP.tms (ts++[m])::M)):OW P n w0 F ops K rest l H:=fun a w ha hw=>by
 have Q:=hw.perm ((an hi).trans ((an Z).cons _))
 refine k a w ha {Q with chunks:=?_}
 have h2:=ah.mB Q.chunks
 refine ah.jx ?_ h2
 grind [List.perm_append_comm]
end
end E
namespace Cf
def RK:ap:=[1,1,0,2,2,0]
def II:ap:=[1,1,255,1,1,1,1,255,1,1,2,2,255,2,2,2,2,255,2,2]
def v8(k:Nat):UInt8:=if k<2 then 1 else 2
def ext(k:Int):T:=⟨[10*k],[5+10*k],[4+10*k],1,1,2,2,8⟩
def ex:C:=⟨5,4,II,RK,[ext 0,ext 1],0⟩
def tail:ap:=[6,1,1,0,2,2,0,2,1,0,1,5,1,4,1,1,2,2,8,1,10,1,15,1,14,1,1,2,2,8]
variable {k:Nat}
def S7(h:k<4):1+(k:Int)/2=((v8 k).toNat:Int):=by
 rcases(by omega:k=0\/k=1\/k=2\/k=3) with rfl|rfl|rfl|rfl<;>rfl
def NC(h:k<4):II.take (5*k)++[v8 k,v8 k,255,v8 k,v8 k]=II.take (5*(k+1)):=by
 rcases(by omega:k=0\/k=1\/k=2\/k=3) with rfl|rfl|rfl|rfl<;>rfl
def Nz{ts:List E.Tm}{m:E.Tm}(h:ts.map (·.q)=ex.ts.take k)(hk:k<2)(I:m.q=ext k):(ts++[m]).map (·.q)=ex.ts.take (k+1):=by
 rw[dZ,h,jj,I];rcases(by omega:k=0\/k=1) with rfl|rfl<;>rfl
def WJ:ex.fit:=⟨by simp[ex,i64],by simp[ex,i64],by simp[ex,II],by simp[ex,RK],by simp[ex],(by
 intro t ht
 have hc:∀k:Int,k=0\/k=1->(ext k).fit:=fun k hk=>⟨by simp[ext],by simp[ext],by simp[ext],(by intro n I;simp[ext] at I;omega),(by intro n I;simp[ext] at I;omega),(by intro n I;simp[ext] at I;omega),by simp[ext,i64],by simp[ext,i64],by simp[ext,i64],by simp[ext,i64],by simp[ext,i64]⟩
 grind [ex]),by simp[ex]⟩
def uI:check ex=0:=by decide+kernel
def Yr:(kZ ex).2=0:=by decide+kernel
def EA:(kZ ex).1.length=60:=by decide+kernel
def W4:dec (kZ ex).1=(ex,0):=by decide+kernel
end Cf
namespace E
section
variable{o:Oper}
def CW.cap{c':Code}(i:Nat){Et sz m c:Nat}{A:am}{xs:bi}{H':List HP}(hi:E.sel H i=some (HP.row Et sz A m c xs,H'))(k:m<=c->CW P n w0 F c' K l H):CW P n w0 F c' K l H:=fun a w ha I=>k (I.gM hi) a w ha I
def OW.conv{ops:Array Oper}{I:List Oper}{H':List HP}(h:∀w U,ah w U H->ah w U H')(k:OW P n w0 F ops K I l H'):OW P n w0 F ops K I l H:=fun a w ha M=>k a w ha {M with chunks:=h w _ M.chunks}
end
end E
namespace Cf
def mI{g:C}:bS g=true↔(1<=g.ts.length/\g.ts.length<=3)/\(∀j,j<g.ts.length->ib g j=true)/\(g.l.all (bW g.ts)=true/\g.s.all (bW g.ts)=true)/\(List.range g.ts.length).any (fun j=> !ep (g.ts.getD j T.z))=true:=by
 grind [bS]
def Lb{g:C}:check g=0↔Fl.cG g.a g.b g.l=true/\Fl.gp g.s=true/\bS g=true/\g.st<=4611686018427387904:=by
 grind [check]
theorem Im{t:Int}{v:UInt8}(ht:0<=t/\t<3):Fl.own t v=decide ((v.toNat:Int)=t+1):=by
 grind [Fl.own]
def LC{l:ap}{t:Int}{m:T}(h:aS l t m=true){p:Int}(hp:p∈bC m):kH l t p=true:=by
 grind [aS]
def po(g h:C)(t:Nat):Prop:=(g.a=h.a/\g.b=h.b/\g.s.length=h.s.length/\g.ts.length=h.ts.length/\g.st=h.st/\g.ts.getD t T.z=h.ts.getD t T.z)/\
 (∀p,p<g.l.length->(Fl.own t (g.l.getD p 0)=Fl.own t (h.l.getD p 0)/\decide (Fl.dE (g.l.getD p 0)= -2)=decide (Fl.dE (h.l.getD p 0)= -2)))/\∀i,i<g.s.length->(((g.s.getD i 0).toNat:Int)=t+1↔((h.s.getD i 0).toNat:Int)=t+1)
instance (g h:C)(t:Nat):Decidable (po g h t):=by unfold po;infer_instance
variable {ts:List T}{x:UInt8}
theorem zo(h:(x.toNat:Int)=0):bW ts x=true:=by unfold bW;grind
theorem vd(h:(x.toNat:Int)=255):bW ts x=true:=by grind [bW]
theorem Bn(h:ag ts ((x.toNat:Int)-1)=true):bW ts x=true:=by unfold bW;rw[h,Bool.or_true]
def se{m:T}(h:small m):(bC m).length<=9:=by rw[jf];obtain⟨a,b,c⟩:=h;omega
end Cf
namespace E
section
variable{o:Oper}
end
end E
namespace Cf
section
variable{g:C}{k:Nat}
def vE(h:check g=0):bS g=true:=(az h).2.2.1
def x9(h:check g=0)(hk:k<g.ts.length):ep (g.ts.getD k T.z)=true\/aS g.l k (g.ts.getD k T.z)=true:=by
 have:=(mI.1 (vE h)).2.1 k hk;unfold ib at this;rwa[dI] at this
def Ef(h:check g=0):iD g=(aH g.ts g.ts.length,0):=aa h
end
section
variable{a b:Int}{l:ap}{t:Int}{m:T}
def DE(h:aS l t m=true):small m/\3<=(bC m).length:=by
 unfold aS at h;simp only[ay] at h;have:=cz h.1.1;exact⟨⟨this.1.2,this.2.1.2,this.2.2.2⟩,by rw[jf];omega⟩
def Aj(h:aS l t m=true):(bC m).Nodup:=by
 unfold aS at h;grind
end
section
variable{A:Bool}{l:bv}{ix p:Int}{k:Nat}
end
end Cf
namespace Cf
theorem F5(t:Int)(x:UInt8):(oc t x).toNat=if(x.toNat:Int)=t+1\/(x.toNat:Int)=255 then x.toNat else 0:=by unfold oc;split<;>rfl
def FC(t:Int)(x:UInt8):(os t x).toNat=if(x.toNat:Int)=t+1 then x.toNat else 0:=by unfold os;split<;>rfl
def zA(t:Int):oc t 0=0:=by unfold oc;split<;>rfl
def UJ(t:Int):os t 0=0:=by unfold os;split<;>rfl
def getD_map{f:UInt8->UInt8}(h:f 0=0)(l:ap)(i:Nat):(l.map f).getD i 0=f (l.getD i 0):=by
 grind
def Yv{t:Int}{x:UInt8}(h:Fl.DQ x=true):Fl.DQ (oc t x)=true:=by
 unfold oc;split
 ·exact h
 rfl
theorem PJ{t:Int}(ht:0<=t/\t<3)(x:UInt8):Fl.own t (oc t x)=Fl.own t x:=by
 grind [Im,F5]
def Qd{t:Int}(ht:0<=t/\t<3)(x:UInt8):decide (Fl.dE (oc t x)= -2)=decide (Fl.dE x= -2):=by
 grind [Fl.rn,F5]
variable {l:ap}
theorem KF{t:Int}(ht:0<=t/\t<3)(p:Int):kH (l.map (oc t)) t p=kH l t p:=by
 grind [kH,PJ]
theorem wi{t:Int}{m:T}(ht:0<=t/\t<3):aS (l.map (oc t)) t m=aS l t m:=by
 grind [aS,KF]
theorem nG(ts:List T)(t:Int)(k:Nat):(bV ts t k).length=k:=by simp[bV]
theorem pW{ts:List T}{t:Int}{k j:Nat}(I:j<k):(bV ts t k).getD j T.z=if(j:Int)=t then ts.getD j T.z else T.z:=by
 grind [bV]
theorem Az:ep T.z=true:=bu rfl
theorem jY{ts:List T}{t u:Int}(h:ag ts t=true):ag (bV ts t ts.length) u=decide (u=t):=by
 grind [ag,nG,pW,Az]
section
variable{g:C}{t:Int}
def Nl(h:check g=0)(hp:ag g.ts t=true):(0<=t/\t<3)/\t<g.ts.length:=by
 have I:=dw (vE h);have M:=q8 hp;omega
def Fo(h:check g=0)(hp:ag g.ts t=true):Fl.cG (only g t).a (only g t).b (only g t).l=true:=by
 have I:=Fl.fG.1 (az h).1;refine Fl.fG.2 ⟨⟨I.1.1,by show((g.l.map (oc t)).length:Int)=_;rw[bZ];exact I.1.2⟩,fun c hc=>?_⟩
 obtain⟨x,M,rfl⟩:=cm.1 hc;exact Yv (I.2 x M)
theorem dP(h:check g=0)(hp:ag g.ts t=true):check (only g t)=0:=by
 obtain⟨h1,Z,h3,h4⟩:=az h;obtain⟨hb,hlt⟩:=Nl h hp;obtain⟨q1,q2,⟨q3,q4⟩,q5⟩:=mI.1 h3
 have I:∀v:UInt8,(v.toNat:Int)=0\/(v.toNat:Int)=255\/(v.toNat:Int)=t+1->bW (bV g.ts t g.ts.length) v=true:=fun v hv=>by
  grind [zo,vd,Bn,jY]
 refine Lb.2 ⟨Fo h hp,?_,?_,h4⟩
 ·obtain⟨s1,s2⟩:=Fl.eX.1 Z;refine Fl.eX.2 ⟨by show 1<=(g.s.map (os t)).length/\(g.s.map (os t)).length<=16;grind,fun c hc=>?_⟩
  obtain⟨x,M,rfl⟩:=cm.1 hc;have:=s2 x M;rw[FC];split<;>omega
 refine mI.2 ⟨?_,fun j hj=>?_,⟨?_,?_⟩,?_⟩
 ·show 1<=(bV g.ts t g.ts.length).length/\(bV g.ts t g.ts.length).length<=3;rw[nG];exact q1
 ·have hj2:j<g.ts.length:=by
   have Q:j<(bV g.ts t g.ts.length).length:=hj;rwa[nG] at Q
  unfold ib;show(ep ((bV g.ts t g.ts.length).getD j T.z)||aS (g.l.map (oc t)) j ((bV g.ts t g.ts.length).getD j T.z))=true;grind [pW,wi,ib,Az]
 ·refine aJ.2 fun c hc=>?_;obtain⟨x,M,rfl⟩:=cm.1 hc;refine I _ ?_;rw[F5];split<;>omega
 ·refine aJ.2 fun c hc=>?_;obtain⟨x,M,rfl⟩:=cm.1 hc;refine I _ ?_;rw[FC];split<;>omega
 refine ik.2 ⟨t.toNat,cu.2 (by show t.toNat<(bV g.ts t g.ts.length).length;rw[nG];omega),?_⟩
 show(!ep ((bV g.ts t g.ts.length).getD t.toNat T.z))=true;grind [pW,ag]
theorem pg(hp:ag g.ts t=true):ag (only g t).ts t=true:=by
 show ag (bV g.ts t g.ts.length) t=true;rw[jY hp];exact bu rfl
def aal(I:0<=t)(i:Nat):((((g.s.getD i 0).toNat:Int)-1=t)↔((((only g t).s.getD i 0).toNat:Int)-1=t))/\((((only g t).s.getD i 0).toNat:Int)-1=t\/(((only g t).s.getD i 0).toNat:Int)-1= -1):=by
 show((((g.s.getD i 0).toNat:Int)-1=t)↔((((g.s.map (os t)).getD i 0).toNat:Int)-1=t))/\((((g.s.map (os t)).getD i 0).toNat:Int)-1=t\/(((g.s.map (os t)).getD i 0).toNat:Int)-1= -1);rw[getD_map (UJ t),FC];split<;>omega
theorem mX(h:check g=0)(hp:ag g.ts t=true):(only g t).ts.getD t.toNat T.z=g.ts.getD t.toNat T.z:=by
 have I:=Nl h hp;show(bV g.ts t g.ts.length).getD t.toNat T.z=_;rw[pW K1,aa K1]
end
end Cf
namespace Rt
open Cf
def gG(a b p:Int)(d:Nat):bv:=p::(((List.range d).map fun(i:Nat)=>Fl.mv a b p (i:Int)).filter fun q=>decide (0<=q))
def iN(a b p:Int):bv:=gG a b p 4
def FM(a b p:Int):iN a b p=[]++p::(((List.range 4).map fun(i:Nat)=>Fl.mv a b p (i:Int)).filter fun q=>decide (0<=q)):=rfl
variable {a b p q t:Int}{d:Nat}{g:C}
theorem vq(h:0<=Fl.mv a b p d):gG a b p (d+1)=gG a b p d++[Fl.mv a b p d]:=by
 grind [gG,List.range_succ]
theorem HO(h:Fl.mv a b p d<0):gG a b p (d+1)=gG a b p d:=by
 grind [gG,List.range_succ]
def JZ(a b p:Int)(d:Nat):∀j,∃r,gG a b p (d+j)=gG a b p d++r:=by
 intro j;induction j with
 |zero=>exact⟨[],by simp⟩
 |succ j I=>
  grind [HO,vq]
def H0(hd:d<4)(h:0<=Fl.mv a b p d):∃r,iN a b p=gG a b p d++Fl.mv a b p d::r:=by
 obtain⟨r,I⟩:=JZ a b p (d+1) (4-(d+1));rw[show d+1+(4-(d+1))=4 by omega,vq h,aQ] at I
 exact⟨r,I⟩
theorem mG:q∈iN a b p↔q=p\/∃d:Nat,d<4/\Fl.mv a b p d=q/\0<=q:=by
 grind [iN,gG]
theorem Bc(a b p:Int)(d:Nat):(gG a b p d).length<=d+1:=by
 grind [gG]
def QZ(a b:Int):Prop:=2<=a/\a<=8/\2<=b/\b<=8
def Io(hs:QZ a b)(hp:0<=p/\p<a*b)(h:q∈iN a b p):0<=q/\q<a*b:=by
 rcases mG.1 h with rfl|⟨d,_,rfl,I⟩
 ·exact hp
 exact⟨I,Fl.abp hs I⟩
def OJ(hs:QZ a b)(hp:0<=p/\p<a*b)(h:q∈iN a b p):p∈iN a b q:=by
 have I:=Io hs hp h;rcases mG.1 h with rfl|⟨d,Q,Z,h3⟩
 ·exact h
 have M:=(Fl.DI hs hp I).2 ⟨d,Q,Z⟩;rw[Fl.JJ] at M;obtain⟨e,h5,h6⟩:=(Fl.DI hs I hp).1 M;exact mG.2 (.inr ⟨e,h5,h6,hp.1⟩)
def bQ(g:C)(t:Int):T:=g.ts.getD t.toNat T.z
def gS(g:C)(t p:Int):Bool:=decide (owner g p=t)
def dz(g:C)(p:Int):Bool:=decide (owner g p= -2)
def has(g:C)(t a b p:Int):Bool:=decide (p=a)||decide (p=b)||dz g p||(gS g t p&& !decide (p∈bC (bQ g t)))
def nD(g:C)(t a b tick p:Int):Bool:=has g t a b p&&(gS g t p||(dz g p&&decide ((Fl.dB g.s tick).1=t)))
def xS(g:C)(p:Nat):List Nat:=(iN g.a g.b p).map Int.toNat
def G(g:C)(t a b:Int):Bf.G:=⟨g.l.length,g.s.length,fun p=>has g t a b p,fun k p=>nD g t a b (k:Int) (p:Int),xS g,b.toNat⟩
structure sN(g:C)(t a b:Int):Prop where
 c:check g=0
 p:ag g.ts t=true
 ra:0<=a/\a<g.l.length
 rb:0<=b/\b<g.l.length
 ob:owner g b=t
 oa:owner g a=t\/owner g a= -2
def lV(h:check g=0):QZ g.a g.b:=Fl.dv.1 (Fl.fG.1 (az h).1).1.1
theorem qy(h:check g=0):(g.l.length:Int)=g.a*g.b:=(Fl.fG.1 (az h).1).1.2
def gj(h:check g=0):g.l.length<=64:=Fl.jo (az h).1
def iV(h:check g=0):1<=g.s.length/\g.s.length<=16:=(Fl.eX.1 (az h).2.1).1
theorem fJ(h:check g=0)(hp:¬(0<=p/\p<g.l.length)):owner g p= -1:=by
 grind [owner,Fl.owner,Fl.fC,qy]
def qn(h:check g=0)(hp:0<=p/\p<g.l.length):owner g p=Fl.dE (g.l.getD p.toNat 0):=by
 unfold owner Fl.owner;rw[aa (az h).1,aa (Fl.fC.2 ⟨lV h,by have:=qy h;omega⟩)]
 rfl
def dS{ts:List T}(h:ag ts t=true):0<=t/\t<ts.length:=by
 grind [ag]
def vQ{tick:Int}(h:gC g t a b tick=0):sN g t a b/\tick<=4611686018427389952:=by
 unfold gC at h;split at h
 ·rename_i M;split at h
  ·rename_i I;unfold asked at M;split at M
   ·rename_i hc;split at M
    ·rename_i hp;have ht:=dS hp.1;unfold lM at I;simp only[ay,dI,ax] at I;refine⟨⟨hc,hp.1,?_,?_,I.1,I.2⟩,hp.2⟩
     ·grind [fJ]
     grind [fJ]
    omega
   omega
  omega
 omega
theorem yB{tick:Int}(h:sN g t a b)(ht:tick<=4611686018427389952):gC g t a b tick=0:=by
 grind [gC,jk,sN.c,sN.p,lM,sN.ob,sN.oa]
def sN.iF(h:sN g t a b):0<=t/\t<3/\t.toNat<g.ts.length:=by
 have I:=dS h.p;have M:=dw (az h.c).2.2.1;omega
def sN.valid(h:sN g t a b):aS g.l t (bQ g t)=true:=by
 have M:=h.iF;have I:=x9 h.c M.2.2;have Q:=h.p;unfold ag at Q;simp only[ay,dG] at Q;rcases I with I|I
 ·grind
 rw[af M.1] at I;exact I
def sN.spot(h:sN g t a b)(hp:p∈bC (bQ g t)):(0<=p/\p<g.l.length)/\owner g p=t:=by
 have M:=h.valid;unfold aS at M;simp only[ay,aJ] at M;have I:=M.1.2 p hp;unfold kH at I;simp only[ay,ax] at I;refine⟨I.1,?_⟩;rw[qn h.c I.1];have Q:=h.iF;have Z:=Fl.xJ (az h.c).1 (j:=p.toNat) K1;grind [Fl.sT]
def pR{l:bv}{i:Nat}(h:i<l.length):l.getD i 0∈l:=by
 grind
def Jt{l:List Nat}{i:Nat}(h:i<l.length):l.getD i 0∈l:=by
 grind
def Oj{pre r:bv}{x:Int}(h:iN a b p=pre++x::r):pre.length<=4:=by
 grind [Bc,iN]
def NZ(g:C)(t a b:Int)(p:Nat):((G g t a b).nr p).length<=5:=by
 have:=Bc g.a g.b p 4;show(xS g p).length<=5;unfold xS;rw[bZ];exact this
def Wu(h:check g=0){p:Nat}(hp:p<g.l.length):Fl.has g.a g.b (p:Int)=true:=Fl.fC.2 ⟨lV h,by have:=qy h;omega⟩
def se(h:sN g t a b):(bC (bQ g t)).length<=9:=by
 have I:=h.valid;grind [aS,cz,jf]
def vX{p q:Nat}:q∈xS g p↔((q:Int)∈iN g.a g.b p):=by
 grind [xS,mG]
def rQ(h:sN g t a b):(G g t a b).ok where
 K0:=(iV h.c).1
 rV:=fun p q hp I=>by
  have M:=Io (lV h.c) (by have:=qy h.c;have:p<g.l.length:=hp;omega) (vX.1 I)
  have:=qy h.c
  show q<g.l.length
  omega
 sym:=fun p q hp I=>vX.2 (OJ (lV h.c) (by have:=qy h.c;have:p<g.l.length:=hp;omega) (vX.1 I))
 zh:=by have:=h.rb;show b.toNat<g.l.length;omega
 gal:=fun k hk=>by
  have Q:((b.toNat:Nat):Int)=b:=af h.rb.1
  show nD g t a b (k:Int) ((b.toNat:Nat):Int)=true
  grind [nD,has,gS,sN.ob]
 EY:=fun k p hk=>by
  have:nD g t a b (k:Int) (p:Int)=true:=hk
  unfold nD at this
  exact(ay _ _▸this).1
def R3(g:C)(p:Nat):(xS g p).map (fun(q:Nat)=>(q:Int))=iN g.a g.b p:=by
 unfold xS;rw[lu];conv=>rhs;rw[<-td (iN g.a g.b p)]
 grind [List.map_congr_left,mG]
end Rt
namespace Bf
variable {k p:Nat}{x:G}
theorem Part.run(ok:x.ok){q0:List (Nat×Nat)}{h:Nat}:∀(m:Nat) {D:DD} {q:List (Nat×Nat)} {j:Nat},Part x D q h j->at_ q h=at_ q0 h->(x.nr (at_ q0 h).1).length<=j+m->∃I M,j8 x I M (h+1)/\(∀k,k<x.K->I k x.goal=0)/\h<M.length:=by
 intro m;induction m with
 |zero=>intro D q j a e hl;exact⟨D,q,a.done (by rw[e];omega),a.g,a.hl⟩
 |succ m Q=>
  intro D q j a e hl;rcases dd j (x.nr (at_ q0 h).1).length with Z|Z
  ·cases hc:x.cell ((x.nr (at_ q h).1).getD j 0) with
   |true=>exact Q (a.Vb ok (by rw[e];exact Z) hc) ((yU a.hl).trans e) K1
   |false=>exact Q (a.skip hc) e K1
  grind
def QA(ok:x.ok):∀(m:Nat) {D:DD} {q:List (Nat×Nat)} {h:Nat},j8 x D q h->(∀k,k<x.K->D k x.goal=0)->h<=q.length->x.n*x.K<=h+m->∃D q,j8 x D q q.length/\∀k,k<x.K->D k x.goal=0:=by
 intro m;induction m with
 |zero=>
  intro D q h b g M Q;have:=gj b;grind
 |succ m Z=>
  intro D q h b g M Q;rcases dd h q.length with I|I
  ·obtain⟨D',q',b',g',hl⟩:=Part.run ok (q0:=q) (x.nr (at_ q h).1).length (b.part I g) rfl K1;grind
  grind
theorem Start.run(ok:x.ok):∀j,j<=x.K->∃D q,Start x D q j:=by
 intro j;induction j with
 |zero=>intro _;exact⟨_,_,Start.zero x (D:=fun _ _=> -1) fun _ _=>rfl⟩
 |succ j I=>intro M;obtain⟨D,q,h⟩:=I K1;exact⟨_,_,h.Vb ok K1⟩
theorem run{x:G}(ok:x.ok):∃D q,j8 x D q q.length/\∀k,k<x.K->D k x.goal=0:=by
 obtain⟨D,q,h⟩:=Start.run ok x.K (bb _);exact QA ok (x.n*x.K) h.b (fun k hk=>h.g k hk) (bF _) K1
noncomputable def arr(x:G)(k p:Nat):Int:=open Classical in if h:∃v,Ar x k p v then Classical.choose h else-1
def Ob{v:Int}(h:Ar x k p v):arr x k p=v:=by
 have I:∃v,Ar x k p v:=⟨v,h⟩;unfold arr;rw[dif_pos I];exact(Classical.choose_spec I).uniq h
def ug(ok:x.ok)(hk:k<x.K)(hp:p<x.n)(hc:x.cell p=true):Ar x k p (arr x k p):=by
 obtain⟨D,q,b,g⟩:=run ok;have:=b.ar ok g hk hp hc;rw[Ob this];exact this
noncomputable def nx(x:G)(k p:Nat)(n:Int):Nat:=((x.nr p).find? fun q=>x.al k q&&decide (arr x k q=n-1)).getD p
def abJ{j:Nat}{n:Int}(I:j<(x.nr p).length)(M:∀i,i<j->(x.al k ((x.nr p).getD i 0)&&decide (arr x k ((x.nr p).getD i 0)=n-1))=false)(Q:(x.al k ((x.nr p).getD j 0)&&decide (arr x k ((x.nr p).getD j 0)=n-1))=true):
  nx x k p n=(x.nr p).getD j 0:=by
 grind [nx,List.find?_eq_some_iff_getElem]
def RV{n:Int}(I:∀i,i<(x.nr p).length->(x.al k ((x.nr p).getD i 0)&&decide (arr x k ((x.nr p).getD i 0)=n-1))=false):nx x k p n=p:=by
 grind [nx,List.find?_eq_none,List.getElem_of_mem]
noncomputable def rt(x:G):Nat->Nat->Nat->List Nat
 |0,_,p=>[p]
 |m+1,k,p=>p::rt x m ((k+1)%x.K) (nx x ((k+1)%x.K) p ((m:Int)+1))
def Wq(x:G):∀m k p,(rt x m k p).length=m+1:=by
 intro m;induction m with
 |zero=>intro k p;rfl
 |succ m I=>intro k p;simp only[rt,bI,I]
def pa(x:G):∀m k p,∃r,rt x m k p=p::r:=by
 intro m k p;cases m with
 |zero=>exact⟨[],rfl⟩
 |succ m=>exact⟨_,rfl⟩
def w7(ok:x.ok){m:Nat}(hk:k<x.K)(hp:p<x.n)(hc:x.cell p=true)(h:arr x k p=(m:Int)+1):
  nx x ((k+1)%x.K) p ((m:Int)+1)∈x.nr p/\x.al ((k+1)%x.K) (nx x ((k+1)%x.K) p ((m:Int)+1))=true/\arr x ((k+1)%x.K) (nx x ((k+1)%x.K) p ((m:Int)+1))=m:=by
 have ha:=ug ok hk hp hc;rw[h] at ha;rcases ha with⟨M,_⟩|⟨_,_,hw,I⟩
 ·omega
 rw[show((m:Int)+1).toNat=m+1 by omega] at hw
 obtain⟨q,M,h2,h3⟩:=hw;have Q:(k+1)%x.K<x.K:=gk _ ok.K0;have hq:=ok.rV p q hp M
 have hq2:arr x ((k+1)%x.K) q=m:=by
  rcases ug ok Q hq (ok.EY _ _ h2) with⟨_,Z⟩|⟨g1,_,Z,g3⟩
  ·exact absurd h3 (Z m)
  have h4:=g3 m h3;have h5:=I ((arr x ((k+1)%x.K) q).toNat+1) ⟨q,M,h2,Z⟩;omega
 unfold nx;cases hf:(x.nr p).find? (fun q=>x.al ((k+1)%x.K) q&&decide (arr x ((k+1)%x.K) q=(m:Int)+1-1)) with
 |none=>
  grind
 |some r=>
  grind
end Bf
namespace Rt
open Cf
def ph(g:C)(tick:Int):Nat:=(tick%(g.s.length:Int)).toNat
def VA{g:C}(h:check g=0)(tick:Int):ph g tick<g.s.length:=by
 have:=iV h;have I:=lY tick (show(g.s.length:Int)≠0 by omega)
 have M:=rr tick (show(0:Int)<g.s.length by omega)
 unfold ph;omega
theorem Ea{g:C}(h:check g=0)(tick:Int):tick%(g.s.length:Int)=((ph g tick:Nat):Int):=by
 have:=iV h;have I:=lY tick (show(g.s.length:Int)≠0 by omega)
 unfold ph;omega
def yt{g:C}(h:check g=0){tick:Int}(m:Nat):ph g (tick+(m:Int))=(ph g tick+m)%g.s.length:=by
 grind [Ea,Int.emod_add_emod]
noncomputable def eP(g:C)(t a b tick:Int):Int:=Bf.arr (G g t a b) (ph g tick) a.toNat
noncomputable def ao(g:C)(t a b tick:Int):Int×Int:=
 if gC g t a b tick=0 then(if eP g t a b tick<0 then(0,130) else(eP g t a b tick,0)) else(0,gC g t a b tick)
noncomputable def xG(g:C)(t a b tick:Int):bv:=(Bf.rt (G g t a b) (eP g t a b tick).toNat (ph g tick) a.toNat).map fun(p:Nat)=>(p:Int)
noncomputable def aZ(g:C)(t a b tick:Int):bv×Int:=
 if gC g t a b tick=0 then(if eP g t a b tick<0 then([],130) else(xG g t a b tick,0)) else([],gC g t a b tick)
noncomputable def gA(g:C)(t a b tick:Int):Int×Int:=
 if(aZ g t a b tick).2=0 then(if(aZ g t a b tick).1.length<2 then(0,6) else((aZ g t a b tick).1.getD 1 0,0)) else(0,(aZ g t a b tick).2)
def UL(x:Bf.G)(I:Nat)(l:bv)(m:Nat):Prop:=∀i,i<m->0<=l.getD (i+1) 0/\(l.getD (i+1) 0).toNat∈x.nr (l.getD i 0).toNat/\x.al ((I+i+1)%x.K) (l.getD (i+1) 0).toNat=true
def isWalk(g:C)(t a b tick:Int)(l:bv):Prop:=l.length≠0/\l.getD 0 0=a/\l.getD (l.length-1) 0=b/\UL (G g t a b) (ph g tick) l (l.length-1)
noncomputable def xe(g:C)(t a b tick:Int)(l:bv):Bool×Int:=open Classical in
 if gC g t a b tick=0 then(if l.length<=1025 then(decide (isWalk g t a b tick l),0) else(false,4)) else(false,gC g t a b tick)
def qx(u v:bv):List (Int×Int):=u.flatMap fun p=>v.map fun q=>(p,q)
def fA(m:T):List (Int×Int):=qx m.h m.p++qx m.p m.d++qx m.d m.h
def pJ(g:C)(t:Int):List (Int×Int)×Int:=if asked g t 0=0 then(fA (bQ g t),0) else([],asked g t 0)
end Rt
namespace E
def Cb(i:Nat)(f:Nat->Bool)(j:Nat):Bool:=decide (j<i)&&f j
def inl(l:bv)(j:Nat):Bool:=decide ((j:Int)∈l)
variable {A A':Nat->am}{f:Nat->Bool}{α:Type}
def Xl{i:Nat}:Cb (i+1) f i=f i:=by simp[Cb]
def tx{i n:Nat}{b:Bool}(h:b=f i):iO n (up (Cb i f) i b)=iO n (Cb (i+1) f):=by
 congr 1;grind [up,Cb]
def qU{n:Nat}{g:Nat->Bool}(h:∀j,j<n->f j=g j):iO n f=iO n g:=by
 grind [iO,List.map_congr_left]
def oY(n:Nat)(f:Nat->Bool):iO n (fun _=>false)=iO n (Cb 0 f):=qU fun j _=>by simp[Cb]
def TR(n:Nat)(f:Nat->Bool):iO n (Cb n f)=iO n f:=qU fun j I=>by simp[Cb,I]
def QJ(n:Nat):iO n (fun _=>false)=iO n (inl []):=qU fun j _=>by simp[inl]
def Lx{n i:Nat}{l:bv}(hi:i<l.length)(I:0<=l.getD i 0):iO n (up (inl (l.take i)) (l.getD i 0).toNat true)=iO n (inl (l.take (i+1))):=by
 congr 1;grind [up,inl,List.take_add_one]
theorem sf{f:Nat->α}{k:Nat}{v:α}(h:f k=v):up f k v=f:=by
 grind [up]
theorem Tv(f:Nat->α)(k:Nat):up f k (f k)=f:=sf rfl
def abk(f:Nat->α)(k:Nat)(u v:α):up (up f k u) k v=up f k v:=by
 funext j;unfold up;split<;>rfl
def F7{i n:Nat}:oQ n (up (fun j=>if j<i then(-1:Int) else 0) i (-1))=oQ n (fun j=>if j<i+1 then(-1:Int) else 0):=by
 congr 1;grind [up]
def KX{n:Nat}{f g:Nat->Int}(h:∀j,j<n->f j=g j):oQ n f=oQ n g:=by
 grind [oQ,List.map_congr_left]
def D7{n:Nat}{l I c c':Nat->Nat}(h:∀j,j<n->A j=A' j/\l j=I j/\c j=c' j):ea n A l c=ea n A' I c':=by
 grind [ea,List.map_congr_left]
def DZ{Et n:Nat}{l I c c':Nat->Nat}{xs xs':Nat->bi}(h:∀j,j<n->A j=A' j/\l j=I j/\c j=c' j/\xs j=xs' j):HP.rows Et n A l c xs=HP.rows Et n A' I c' xs':=by
 grind [HP.rows,List.map_congr_left]
theorem ES(m N:Nat)(A:Nat->am)(u:Nat->Nat)(A':am)(c':Nat):ea m A (fun _=>N) u++[.slice A' N c']=ea (m+1) (up A m A') (fun _=>N) (up u m c'):=by
 rw[IC,sf rfl]
def HP.ex{α:Type}(f:α->HP):HP:=⟨fun S w=>∃x,(f x).bA S w,fun S w w' h ⟨x,I⟩=>⟨x,(f x).loc S w w' h I⟩⟩
section
variable{o:Oper}
variable {A:Nat->am}{A':am}{Et c' m:Nat}{H1:List HP}{c len:Nat->Nat}{ys:bi}
def CW.GY{c:Code}{α:Type}{f:α->HP}(i:Nat)(hi:sel H i=some (HP.ex f,H1))(k:∀x,CW P n w0 F c K l (f x::H1)):CW P n w0 F c K l H:=fun a w ha M=>by
 have I:=M.sel hi
 obtain⟨S,⟨x,Q⟩,Z,g3⟩:=I.chunks
 exact k x a w ha {I with chunks:=⟨S,Q,Z,g3⟩}
def Ih{α:Type}{f:α->HP}(i:Nat)(x:α){p:HP}(hi:sel H i=some (p,H1))(hp:p=f x):∀w U,ah w U H->ah w U (HP.ex f::H1):=fun w U h=>by
 subst hp
 obtain⟨S,I,M,Q⟩:=h.perm (an hi)
 exact⟨S,⟨x,I⟩,M,Q⟩
def CW.jE{c:Code}{sz cc:Nat}{A:am}{xs:bi}(i:Nat)(hi:sel H i=some (HP.row Et sz A m cc xs,H1))(Z:0<m)(k:∀B,A=some ⟨B,0,none⟩->CW P n w0 F c K l H):CW P n w0 F c K l H:=fun a w ha I=>by
 rcases(I.row hi).2 with⟨_,h0⟩|⟨g,cap,cur,M,_⟩
 ·omega
 ·injection M with Q _ _
  exact k g Q a w ha I
def PV.va{t e:TypeId}{x ix:Operand}{ad:Addr}{c:Nat}{k:IntKind}{i:Int}{j bytes:Nat}{z:Value}(Q:P.underlying t=some (.slice e))(Z:In P e z 1 bytes)(ho:o.op=.indexAddr t x ix)(hx:ev l x=some (.slice (some ad) m c))(I:ev l ix=some (.int k i))(hj:i=(j:Int))(M:j<m):PV P n w0 F l H o (bB (some ad) j):=fun a w ha hw=>by
 obtain⟨q,hq,_,hs,_⟩:=Z.parts
 subst hj
 simp[execOp,ho,ha.ev hx,ha.ev I,Instr.indexAt,asIntOf,run_underlying Q,sizeOf,typeInfo,hq,hs,M,bB,show(0:Int)<=(j:Int) by omega]
def SD(Et:Nat):∀m,∀w U,ah w U H->ah w U (HP.rows Et m (fun _=>none) (fun _=>0) (fun _=>0) (fun _=>[])::H):=by
 intro m;induction m with
 |zero=>exact fun w U h=>h.oV
 |succ m I=>
  intro w U h;have M:=I w U h
  have Q:ah w U (HP.row Et 1 none 0 0 []::HP.rows Et m (fun _=>none) (fun _=>0) (fun _=>0) (fun _=>[])::H):=
   ⟨fun _=>False,⟨fun k=>by simp[Value.ownBlock],World.ownsRow_nil w 0 Et 1⟩,fun _ hk=>hk.elim,M.congr fun k=>by simp⟩
  have Z:=E.wx Q;grind [sf]
def HP.Ia(Et m:Nat)(A:Nat->am)(len c:Nat->Nat)(xs:Nat->bi)(k:Nat):HP:=HP.dj (((List.range m).erase k).map fun j=>HP.row Et 1 (A j) (len j) (c j) (xs j))
def BI{k:Nat}{xs:Nat->bi}(i:Nat)(hi:sel H i=some (HP.rows Et m A len c xs,H1))(hk:k<m):
  ∀w U,ah w U H->ah w U (HP.row Et 1 (A k) (len k) (c k) (xs k)::HP.Ia Et m A len c xs k::H1):=fun w U h=>by
 have hp:=(List.perm_cons_erase (cu.2 hk)).map fun j=>HP.row Et 1 (A j) (len j) (c j) (xs j)
 exact ah.tG (ah.jx hp (h.perm (an hi)))
def DT{k:Nat}{xs:Nat->bi}{I:List HP}(i j:Nat){M:Nat}(hi:sel H i=some (HP.row Et 1 A' M c' ys,H1))(Q:sel H1 j=some (HP.Ia Et m A len c xs k,I))(hk:k<m):
  ∀w U,ah w U H->ah w U (HP.rows Et m (up A k A') (up len k M) (up c k c') (up xs k ys)::I):=fun w U h=>by
 have Z:=ah.mB (h.perm ((an hi).trans ((an Q).cons _)))
 refine ah.jx ?_ Z
 grind [List.perm_cons_erase,List.Perm.symm,di,List.map_congr_left,List.nodup_range,fN]
def iu{N:Nat}{xs:Nat->bi}{I:List HP}(i j:Nat)(hi:sel H i=some (HP.row Et 1 A' N c' ys,H1))(M:sel H1 j=some (HP.rows Et m A (fun _=>N) c xs,I))(Q:ys=xs m):
  ∀w U,ah w U H->ah w U (HP.rows Et (m+1) (up A m A') (fun _=>N) (up c m c') xs::I):=fun w U h=>by
 subst Q
 have Z:=E.wx (h.perm ((an hi).trans ((an M).cons _)))
 grind [Tv]
def Qs{N q cc:Nat}{B:am}{u:Nat->Nat}(i:Nat)(hi:sel H i=some (HP.row Et 1 B q cc (ea m A (fun _=>N) u++[.slice A' N c']),H1))(I:q=m+1):
  ∀w U,ah w U H->ah w U (HP.row Et 1 B (m+1) cc (ea (m+1) (up A m A') (fun _=>N) (up u m c'))::H1):=by
 grind [cg,ES]
end
structure NA(x:Bf.G)(i:Nat)(Xn:Nat->am)(ln un:Nat->Nat)(xs:Nat->bi):Prop where
 d:∀j,j<i->ln j=(x.nr j).length/\xs j=ints (nn x j)
 o:∀j,i<=j->Xn j=none/\ln j=0/\un j=0/\xs j=[]
def NA.start(x:Bf.G):NA x 0 (fun _=>none) (fun _=>0) (fun _=>0) (fun _=>[]):=⟨fun j h=>by omega,fun j _=>⟨rfl,rfl,rfl,rfl⟩⟩
def NA.next{x:Bf.G}{i:Nat}{Xn:Nat->am}{ln un:Nat->Nat}{xs:Nat->bi}(h:NA x i Xn ln un xs)(A:am)(c:Nat):NA x (i+1) (up Xn i A) (up ln i (nn x i).length) (up un i c) (up xs i (ints (nn x i))):=by
 refine⟨fun j I=>?_,fun j I=>?_⟩
 ·by_cases e:j=i
  ·subst e;rw[di,di];simp
  rw[fN _ _ e,fN _ _ e];exact h.d j K1
 rw[fN _ _ K1,fN _ _ K1,fN _ _ K1,fN _ _ K1];exact h.o j K1
def HP.nb(B8 PB Bp N:Nat)(An:am)(cs:bi)(i:Nat)(Xn:Nat->am)(ln un:Nat->Nat)(xs:Nat->bi)(pre:bv):HP:=
 HP.ex fun(z:am×Nat)=>HP.dj [HP.aw B8 121 [.pointer (some ⟨PB,0,.none⟩)],HP.aw Bp 3 [.int .i64 (i:Int)],HP.aw PB 120 cs,HP.row 63 1 An N N (ea N (up Xn i z.1) (up ln i pre.length) (up un i z.2)),HP.rows 3 N (up Xn i z.1) (up ln i pre.length) (up un i z.2) (up xs i (ints pre))]
section
variable{o:Oper}
variable{B8 PB Bp N:Nat}{An:am}{cs:bi}{i:Nat}{Xn:Nat->am}{ln un:Nat->Nat}{xs:Nat->bi}
def Rz{x:Bf.G}{I:List HP}(is:List Nat)(hs:E.sels H is=some (HP.aw B8 121 [.pointer (some ⟨PB,0,.none⟩)]::HP.aw Bp 3 [.int .i64 (i:Int)]::HP.aw PB 120 cs::HP.row 63 1 An N N (ea N Xn ln un)::HP.rows 3 N Xn ln un xs::I))(h:NA x i Xn ln un xs):
  ∀w U,ah w U H->ah w U (HP.nb B8 PB Bp N An cs i Xn ln un xs []::I):=by
 obtain⟨Z,h2,h3,h4⟩:=h.o i (bb _);intro w U hc;obtain⟨S,g1,M,Q⟩:=ah.aX (ps:=[_,_,_,_,_]) (r:=I) (ch hs hc);refine⟨S,⟨(none,0),?_⟩,M,Q⟩;grind [sf,ints]
variable {pre:bv}
def CW.aaI{c:Code}{H1:List HP}(hi:H=HP.nb B8 PB Bp N An cs i Xn ln un xs pre::H1)(I:i<N)(k:∀A u,CW P n w0 F c K l (HP.row 3 1 A pre.length u (ints pre)::HP.Ia 3 N (up Xn i A) (up ln i pre.length) (up un i u) (up xs i (ints pre)) i::HP.aw B8 121 [.pointer (some ⟨PB,0,.none⟩)]::HP.aw Bp 3 [.int .i64 (i:Int)]::HP.aw PB 120 cs::HP.row 63 1 An N N (ea N (up Xn i A) (up ln i pre.length) (up un i u))::H1)):CW P n w0 F c K l H:=by
 subst hi;refine CW.GY 0 rfl fun z=>?_;refine CW.open 0 rfl ?_;refine CW.conv (BI (k:=i) 4 rfl I) ?_;rw[di,di,di,di];exact k z.1 z.2
def CW.acK{c:Code}{H1:List HP}(hi:H=HP.nb B8 PB Bp N An cs i Xn ln un xs pre::H1)(k:∀A u,CW P n w0 F c K l (HP.aw B8 121 [.pointer (some ⟨PB,0,.none⟩)]::HP.aw Bp 3 [.int .i64 (i:Int)]::HP.aw PB 120 cs::HP.row 63 1 An N N (ea N (up Xn i A) (up ln i pre.length) (up un i u))::HP.rows 3 N (up Xn i A) (up ln i pre.length) (up un i u) (up xs i (ints pre))::H1)):CW P n w0 F c K l H:=by
 subst hi;exact CW.GY 0 rfl fun z=>CW.open 0 rfl (k z.1 z.2)
def Jv{post:bv}{m:Nat}{ys:bi}{A A':am}{u I:Nat}{M:List HP}(is:List Nat)(Z:i<N)(hm:m=post.length)(hy:ys=ints post)(hs:E.sels H is=some (HP.row 3 1 A' m I ys::HP.Ia 3 N (up Xn i A) (up ln i pre.length) (up un i u) (up xs i (ints pre)) i::HP.aw B8 121 [.pointer (some ⟨PB,0,.none⟩)]::HP.aw Bp 3 [.int .i64 (i:Int)]::HP.aw PB 120 cs::HP.row 63 1 An N N (ea N (up (up Xn i A) i A') (up (up ln i pre.length) i m) (up (up un i u) i I))::M)):
  ∀w U,ah w U H->ah w U (HP.nb B8 PB Bp N An cs i Xn ln un xs post::M):=by
 subst hm hy;intro w U hc;have Q:=DT 0 0 rfl rfl Z w U (ch hs hc);simp only[abk] at Q
 have h2:=Q.perm (H':=HP.aw B8 121 [.pointer (some ⟨PB,0,.none⟩)]::HP.aw Bp 3 [.int .i64 (i:Int)]::HP.aw PB 120 cs::HP.row 63 1 An N N (ea N (up Xn i A') (up ln i post.length) (up un i I))::HP.rows 3 N (up Xn i A') (up ln i post.length) (up un i I) (up xs i (ints post))::M)
  ((List.Perm.swap _ _ _).trans (((List.Perm.swap _ _ _).trans (((List.Perm.swap _ _ _).trans (((List.Perm.swap _ _ _)).cons _)).cons _)).cons _))
 obtain⟨S,g1,g2,g3⟩:=ah.aX (ps:=[_,_,_,_,_]) (r:=M) h2;exact⟨S,⟨(A',I),g1⟩,g2,g3⟩
end
end E
namespace Rt
open Cf
def sA(K:Nat)(tick:Int):Nat:=(tick%(K:Int)).toNat
def uT{K:Nat}(h:1<=K)(tick:Int):sA K tick<K:=by
 have I:=lY tick (show(K:Int)≠0 by omega)
 have M:=rr tick (show(0:Int)<K by omega)
 unfold sA;omega
def zG{K:Nat}(h:1<=K)(tick:Int):tick%(K:Int)=((sA K tick:Nat):Int):=by
 have I:=lY tick (show(K:Int)≠0 by omega)
 unfold sA;omega
def Tl{p:Nat->Bool}{k:Nat}(h:∀j,j<k->p j=false)(e:p k=false):∀j,j<k+1->p j=false:=fun j I=>by
 grind
variable {D:Bf.DD}{N a0:Nat}{a b t tick:Int}{g:C}{x:Bf.G}
theorem eH(h:sN g t a b):(G g t a b).cell a.toNat=true:=by
 show has g t a b ((a.toNat:Nat):Int)=true;rw[af h.ra.1];unfold has;grind
def C0(h:∀k p,k<x.K->p<x.n->x.cell p=true->Bf.Ar x k p (D k p)):∀k p,k<x.K->p<x.n->x.cell p=true->D k p=Bf.arr x k p:=fun k p I M Q=>(Bf.Ob (h k p I M Q)).symm
def HU(I:sN g t a b)(M:x=G g t a b)(h:∀k p,k<x.K->p<x.n->x.cell p=true->Bf.Ar x k p (D k p)){k:Nat}(hk:k<x.K):D k a.toNat=Bf.arr (G g t a b) k a.toNat:=by
 subst M;exact C0 h k a.toNat hk (by have:=I.ra;show a.toNat<g.l.length;omega) (eH I)
def PS(I:sN g t a b)(M:x=G g t a b)(h:∀k p,k<x.K->p<x.n->x.cell p=true->Bf.Ar x k p (D k p)):D (sA x.K tick) a.toNat=eP g t a b tick:=by
 subst M;exact HU I rfl h (uT (iV I.c).1 tick)
def yq(D:Bf.DD)(p k:Nat):bv:=(List.range k).map fun i=>D i p
def SG(D:Bf.DD)(p k:Nat):(yq D p k).length=k:=by simp[yq]
def l8(h:gC g t a b tick=0):ao g t a b tick=if eP g t a b tick<0 then(0,130) else(eP g t a b tick,0):=aa h
def Ry(h:¬gC g t a b tick=0):ao g t a b tick=(0,gC g t a b tick):=ae h
def L8{K:Nat}(h:1<=K)(tick:Int):sA K (tick+1)=(sA K tick+1)%K:=by
 have I:=zG h (tick+1);have M:=zG h tick;have Q:(tick+1)%(K:Int)=(tick%(K:Int)+1)%(K:Int):=by rw[Int.emod_add_emod]
 grind
theorem Nk{l:bv}(h:gC g t a b tick=0)(hl:l.length<=1025)(I:isWalk g t a b tick l):xe g t a b tick l=(true,0):=
 (aa h).trans ((aa hl).trans (Prod.ext (@decide_eq_true _ (_) I) rfl))
structure RI(x:Bf.G)(N:Nat)(tick:Int)(a0 i p:Nat)(o:bv):Prop where
 hi:i<=N
 hp:p<x.n
 hc:x.cell p=true
 ha:Bf.arr x (sA x.K (tick+(i:Int))) p=((N-i:Nat):Int)
 ho:o++((Bf.rt x (N-i) (sA x.K (tick+(i:Int))) p).tail.map fun(q:Nat)=>(q:Int))=(Bf.rt x N (sA x.K tick) a0).map fun(q:Nat)=>(q:Int)
 hl:o.length=i+1
def RI.start(hp:a0<x.n)(hc:x.cell a0=true)(ha:Bf.arr x (sA x.K tick) a0=(N:Int)):RI x N tick a0 0 a0 [(a0:Int)]:=by
 refine⟨bF _,hp,hc,?_,?_,rfl⟩
 ·simpa using ha
 obtain⟨r,I⟩:=Bf.pa x N (sA x.K tick) a0;simp_all
theorem RI.step(ok:x.ok)(M:1<=x.K){i p:Nat}{o:bv}(h:RI x N tick a0 i p o)(I:i<N):
  RI x N tick a0 (i+1) (Bf.nx x (sA x.K (tick+(i:Int)+1)) p ((N:Int)-(i:Int))) (o++[((Bf.nx x (sA x.K (tick+(i:Int)+1)) p ((N:Int)-(i:Int)):Nat):Int)]):=by
 obtain⟨m,Q⟩:∃m,N-i=m+1:=⟨N-i-1,K1⟩;have ha:=h.ha;rw[Q] at ha;obtain⟨Z,h2,h3⟩:=Bf.w7 ok (uT M (tick+(i:Int))) h.hp h.hc (m:=m) (by rw[ha];rfl)
 have e1:((N:Int)-(i:Int))=(m:Int)+1:=K1;have e2:=L8 M (tick+(i:Int));have e3:tick+((i+1:Nat):Int)=tick+(i:Int)+1:=K1;have e4:N-(i+1)=m:=K1;rw[e1,e2];refine⟨I,ok.rV _ _ h.hp Z,ok.EY _ _ h2,?_,?_,by rw[aF,h.hl];rfl⟩
 ·grind
 rw[e3,e2,e4];have ho:=h.ho;rw[Q] at ho;rw[<-ho];obtain⟨r,hr⟩:=Bf.pa x m ((sA x.K (tick+(i:Int))+1)%x.K) (Bf.nx x ((sA x.K (tick+(i:Int))+1)%x.K) p ((m:Int)+1));grind [Bf.rt]
theorem RI.fin{p:Nat}{o:bv}(h:RI x N tick a0 N p o):o=(Bf.rt x N (sA x.K tick) a0).map fun(q:Nat)=>(q:Int):=by
 have:=h.ho;rw[oD] at this;simpa[Bf.rt] using this
theorem xx(h:¬(ao g t a b tick).2=0):aZ g t a b tick=([],(ao g t a b tick).2):=by
 grind [ao,aZ]
theorem uw(h:(ao g t a b tick).2=0):gC g t a b tick=0/\(ao g t a b tick).1=eP g t a b tick/\0<=eP g t a b tick/\aZ g t a b tick=(xG g t a b tick,0):=by
 grind [ao,aZ]
def N7(I:sN g t a b):eP g t a b tick<=1024:=by
 have hk:=VA I.c tick;have hp:a.toNat<(G g t a b).n:=by have:=I.ra;show a.toNat<g.l.length;omega
 have M:=gj I.c;have Q:=(iV I.c).2;rcases Bf.ug (rQ I) (k:=ph g tick) (p:=a.toNat) hk hp (eH I) with⟨h,_⟩|⟨_,h,_⟩
 ·unfold eP;omega
 have Z:g.l.length*g.s.length<=64*16:=iS M Q;grind [G,eP]
end Rt
namespace E
section
variable{o:Oper}
def PV.Sr{t I:TypeId}{x y:Operand}{p q:Int}(ho:o.op=.binOp .add t x y I)(M:ev l x=some (.int .u64 p))(Q:ev l y=some (.int .u64 q))(Z:0<=p+q/\p+q<18446744073709551616):PV P n w0 F l H o (.int .u64 (p+q)):=by
 have h:=PV.add (P:=P) (n:=n) (w0:=w0) (F:=F) (H:=H) ho M Q;grind [IntKind.wrap_u64]
def tl(A:am)(c:Nat):am:=if c=1 then A else A.map (·.add (1*1))
def PV.tail{t Et bytes m c:Nat}{x y:Operand}{z:Value}{A:am}(Q:P.underlying t=some (.slice Et))(hI:In P Et z 1 bytes)(ho:o.op=.slice t x (some y) none none)(hx:ev l x=some (.slice A m c))(hy:ev l y=some (.int .i64 1))(hm:1<=m):
  PV P n w0 F l H o (.slice (tl A c) (m-1) (c-1)):=fun a w ha _=>by
 obtain⟨inf,M,hz0,Z,hz2⟩:=hI.parts
 have I:P.elem t=Et:=by simp[Program.elem,Q]
 have hr:=run_slice_l (P:=P) w t A m c (by rw[I];exact Q) .i64 1 K1 K1
 rw[I] at hr
 have hsa:=run_sliceAt_slice (P:=P) w t (.slice A m c) (some (.int .i64 1)) none none (by rw[I];exact Q)
 simp[execOp,ho,ha.ev hx,ha.ev hy,hsa,hr,sizeOf,typeInfo,M,Z,Result.andThen,sliced,tl]
theorem Rd.tail{w:World}{G:Nat->Prop}{A:am}{c:Nat}{l:bv}(h:Rd w G A (ints l))(hc:l.length<=c):Rd w G (tl A c) (ints l.tail):=fun I=>by
 have hl:1<l.length:=by simp at I;omega
 obtain⟨ad,M,Q,Z⟩:=h (by simp;omega)
 grind [tl,Addr.gq,Addr.ku,ints]
end
end E
namespace Rt
open Cf
variable {g:C}{i k:Nat}{t:Int}{u v:bv}{x:Int×Int}
def Mi(hi:i<u.length):qx (u.take (i+1)) v=qx (u.take i) v++v.map fun q=>(u.getD i 0,q):=by
 grind [qx,List.take_add_one]
def yT(u v:bv):(qx u v).length=u.length*v.length:=by
 unfold qx;induction u with
 |nil=>simp
 |cons a r I=>grind
def Oh{L:List (Int×Int)}{j:Nat}(I:j<v.length):L++(v.take (j+1)).map (fun q=>(u.getD i 0,q))=(L++(v.take j).map fun q=>(u.getD i 0,q))++[(u.getD i 0,v.getD j 0)]:=by
 grind [List.take_add_one]
theorem SR:x∈qx u v↔x.1∈u/\x.2∈v:=by
 grind [qx]
structure fB(g:C)(t:Int):Prop where
 c:check g=0
 p:ag g.ts t=true
def fB.iF(h:fB g t):0<=t/\t<3/\t.toNat<g.ts.length:=by
 have I:=dS h.p;have M:=dw (az h.c).2.2.1;omega
def fB.valid(h:fB g t):aS g.l t (bQ g t)=true:=by
 have M:=h.iF;have I:=x9 h.c M.2.2;have Q:=h.p;unfold ag at Q;simp only[ay,dG] at Q;rcases I with I|I
 ·grind
 rw[af M.1] at I;exact I
def fB.spot(h:fB g t){p:Int}(hp:p∈bC (bQ g t)):(0<=p/\p<g.l.length)/\owner g p=t:=by
 have M:=h.valid;unfold aS at M;simp only[ay,aJ] at M;have I:=M.1.2 p hp;unfold kH at I;simp only[ay,ax] at I;refine⟨I.1,?_⟩;rw[qn h.c I.1];have Q:=h.iF;have Z:=Fl.xJ (az h.c).1 (j:=p.toNat) K1;grind [Fl.sT]
theorem fB.small(h:fB g t):(1<=(bQ g t).h.length/\(bQ g t).h.length<=3)/\(1<=(bQ g t).p.length/\(bQ g t).p.length<=3)/\(1<=(bQ g t).d.length/\(bQ g t).d.length<=3):=by
 have I:=h.valid;grind [aS,cz]
def fB.HF(h:fB g t)(hx:x∈fA (bQ g t)):sN g t x.1 x.2:=by
 have hs:x.1∈bC (bQ g t)/\x.2∈bC (bQ g t):=by
  grind [fA,SR,bC]
 obtain⟨I,M⟩:=h.spot hs.1;obtain⟨Q,Z⟩:=h.spot hs.2;exact⟨h.c,h.p,I,Q,Z,.inl M⟩
def fB.OX(h:fB g t):(fA (bQ g t)).length<=27:=by
 obtain⟨I,M,Q⟩:=h.small;unfold fA;simp only[aF,yT];have a:=iS I.2 M.2;have b:=iS M.2 Q.2;have c:=iS Q.2 I.2;omega
noncomputable def rowOf(g:C)(t:Int)(x:Int×Int):bv:=yq (Bf.arr (G g t x.1 x.2)) x.1.toNat g.s.length
noncomputable def py(g:C)(t:Int)(i k:Nat):bv:=((fA (bQ g t)).take i).flatMap (rowOf g t)++(rowOf g t ((fA (bQ g t)).getD i (0,0))).take k
def Uo(l:bv):Int:=l.foldl (fun m v=>if m<v then v else m) 0
noncomputable def most(g:C)(t:Int):Int:=if((fA (bQ g t)).flatMap (rowOf g t)).any (fun v=>decide (v<0)) then-1 else Uo ((fA (bQ g t)).flatMap (rowOf g t))
def P7(l:bv)(v:Int):Uo (l++[v])=if Uo l<v then v else Uo l:=by unfold Uo;grind
theorem UP(g:C)(t:Int)(x:Int×Int):(rowOf g t x).length=g.s.length:=by simp[rowOf,SG]
theorem N9(hk:k<g.s.length):(rowOf g t x)[k]? =some (Bf.arr (G g t x.1 x.2) k x.1.toNat):=by simp[rowOf,yq,hk]
def wF(g:C)(t:Int):py g t 0 0=[]:=by simp[py]
def Ko(hk:k<g.s.length):py g t i (k+1)=py g t i k++[Bf.arr (G g t ((fA (bQ g t)).getD i (0,0)).1 ((fA (bQ g t)).getD i (0,0)).2) k ((fA (bQ g t)).getD i (0,0)).1.toNat]:=by
 grind [py,List.take_add_one,N9]
def CL(hi:i<(fA (bQ g t)).length)(hk:g.s.length<=k):py g t i k=py g t (i+1) 0:=by
 grind [py,List.take_of_length_le,UP,List.take_add_one]
def OY(hi:(fA (bQ g t)).length<=i):py g t i 0=(fA (bQ g t)).flatMap (rowOf g t):=by
 grind [py,List.take_of_length_le]
def Mn(hi:i<(fA (bQ g t)).length)(hk:k<g.s.length):Bf.arr (G g t ((fA (bQ g t)).getD i (0,0)).1 ((fA (bQ g t)).getD i (0,0)).2) k ((fA (bQ g t)).getD i (0,0)).1.toNat∈(fA (bQ g t)).flatMap (rowOf g t):=by
 refine ft.2 ⟨(fA (bQ g t)).getD i (0,0),by grind,?_⟩
 exact List.mem_of_getElem? (N9 hk)
def Rf{v:Int}(I:v∈(fA (bQ g t)).flatMap (rowOf g t))(M:v<0):most g t= -1:=aa (ik.2 ⟨v,I,bu M⟩)
theorem BB(h:∀v∈(fA (bQ g t)).flatMap (rowOf g t),0<=v):most g t=Uo ((fA (bQ g t)).flatMap (rowOf g t)):=by
 refine ae fun I=>?_;grind
def S3{m:T}(hi:i<(fA m).length):(fA m).getD i (0,0)∈fA m:=by
 grind
noncomputable def fV(g:C):Int:=if check g=0 then(if(aH g.ts g.ts.length).all (fun t=>decide (0<=most g t)) then 0 else 130) else check g
def wQ{tick:Int}(h:asked g t tick=0):fB g t:=by
 unfold asked at h;split at h
 ·rename_i hc;split at h
  ·rename_i hp;exact⟨hc,hp.1⟩
  omega
 omega
def Yh(h:check g=0)(hi:i<(aH g.ts g.ts.length).length):fB g ((aH g.ts g.ts.length).getD i 0):=by
 have I:=pR hi;generalize(aH g.ts g.ts.length).getD i 0=t at*;unfold aH at I;obtain⟨q,M,rfl⟩:=cm.1 I;exact⟨h,(gN.1 M).2⟩
def Lc(h:¬check g=0):fV g=check g:=ae h
def N1(h:check g=0)(hi:i<(aH g.ts g.ts.length).length)(I:most g ((aH g.ts g.ts.length).getD i 0)<0):fV g=130:=by
 refine(aa h).trans (ae fun M=>?_);grind
theorem wG(h:check g=0)(I:∀i,i<(aH g.ts g.ts.length).length->0<=most g ((aH g.ts g.ts.length).getD i 0)):fV g=0:=by
 refine(aa h).trans (aa (aJ.2 fun t ht=>?_));grind [List.getElem_of_mem]
def WW{l:bv}{v:Int}(h:∀x∈l,0<=x)(I:0<=v):∀x∈l++[v],0<=x:=fun x M=>by
 grind
end Rt
namespace E
def yf(a b:List (Int×Int)):pairs (a++b)=pairs a++pairs b:=by
 induction a with
 |nil=>rfl
 |cons x r I=>simp only[jC,pairs,I]
def Ms(B T Et:Nat)(A:am)(c:Nat)(X:List (Int×Int))(p q:Int):
  [HP.aw B T [.slice A (X.length+1) c],HP.row Et 2 A (X.length+1) c (pairs X++[.int .i64 p,.int .i64 q])]=[HP.aw B T [.slice A (X++[(p,q)]).length c],HP.row Et 2 A (X++[(p,q)]).length c (pairs (X++[(p,q)]))]:=by
 rw[aF,yf];rfl
end E
namespace Rt
open Cf
variable {a b p t tick:Int}{g:C}
def BC(h:check g=0)(hp:0<=p/\p<g.l.length)(ht:0<=t/\t<3):gS g t p=Fl.own t (g.l.getD p.toNat 0):=by
 unfold gS;rw[qn h hp,Fl.sT ht (Fl.xJ (az h).1 K1)]
def rB(h:check g=0)(hp:0<=p/\p<g.l.length):dz g p=decide (Fl.dE (g.l.getD p.toNat 0)= -2):=by
 unfold dz;rw[qn h hp]
theorem p8(h:check g=0)(tick:Int):Fl.dB g.s tick=(Fl.rU g.s tick 0,0):=Fl.ML (az h).2.1
theorem iE(h:check g=0):gm g t p tick=(gS g t p||(dz g p&&decide (Fl.rU g.s tick 0=t))):=by
 grind [gm,gS,dz,p8]
def vA(h:check g=0):nD g t a b tick p=(has g t a b p&&gm g t p tick):=by
 unfold nD;rw[iE h,p8 h]
def S8(h:check g=0)(tick:Int):Fl.rU g.s ((ph g tick:Nat):Int) 0=Fl.rU g.s tick 0:=by
 grind [Fl.rU,Fl.Wm,Ea,Int.emod_emod]
def Wt(h:check g=0)(tick:Int):nD g t a b ((ph g tick:Nat):Int) p=nD g t a b tick p:=by
 unfold nD;rw[p8 h,p8 h,S8 h]
def abr(h:check g=0)(p:Nat):(G g t a b).al (ph g tick) p=nD g t a b tick (p:Int):=Wt h tick
def wy(h:check g=0):fV g=0↔∀k:Nat,k<g.ts.length->ag g.ts (k:Int)=true->0<=most g (k:Int):=by
 grind [fV,aH]
end Rt
namespace E
section
variable{o:Oper}
end
end E
end
namespace Bf
variable {a k m p:Nat}{x:G}
def U9:W x m (k%x.K) p↔W x m k p:=by
 cases m with
 |zero=>exact Iff.rfl
 |succ m=>simp only[W,tg]
def FX(hs:a∈x.nr a)(ha:∀k,k<x.K->x.al k a=true)(K0:0<x.K):∀j k,W x m ((k+j)%x.K) a->W x (m+j) k a:=by
 intro j;induction j with
 |zero=>intro k h;exact U9.1 h
 |succ j I=>
  intro k h;refine⟨a,hs,ha _ (gk _ K0),I ((k+1)%x.K) ?_⟩;grind [Nat.mod_add_mod]
def iB(ok:x.ok)(hk:k<x.K)(hp:p<x.n)(hc:x.cell p=true)(h:W x m k p):0<=arr x k p/\arr x k p<=m:=by
 rcases ug ok hk hp hc with⟨_,I⟩|⟨M,_,_,Q⟩
 ·exact absurd h (I m)
 exact⟨M,Q m h⟩
def nW(ok:x.ok)(hk:k<x.K)(hp:p<x.n)(hc:x.cell p=true)(h:0<=arr x k p):W x (arr x k p).toNat k p:=by
 rcases ug ok hk hp hc with⟨M,_⟩|⟨_,_,I,_⟩
 ·omega
 exact I
def YD(ok:x.ok)(hk:k<x.K)(hp:p<x.n)(hc:x.cell p=true)(h:W x m k p)(I:∀j,W x j k p->m<=j):arr x k p=m:=by
 have M:=iB ok hk hp hc h;have Q:=I _ (nW ok hk hp hc M.1);omega
def SB(ok:x.ok):∀m k p:Nat,k<x.K->p<x.n->x.cell p=true->arr x k p=(m:Int)->
  (∀i,i<m->(rt x m k p).getD (i+1) 0∈x.nr ((rt x m k p).getD i 0)/\x.al ((k+i+1)%x.K) ((rt x m k p).getD (i+1) 0)=true)/\(rt x m k p).getD m 0=x.goal/\(∀i,i<=m->(rt x m k p).getD i 0<x.n):=by
 intro m;induction m with
 |zero=>
  intro k p hk hp hc h;have M:=nW ok hk hp hc K1;rw[h] at M;refine⟨fun i hi=>by omega,M,fun i hi=>?_⟩
  have:i=0:=K1;subst this;exact hp
 |succ m ih=>
  intro k p hk hp hc h;obtain⟨Q,Z,h3⟩:=w7 ok hk hp hc (m:=m) (by rw[h];rfl)
  have I:(k+1)%x.K<x.K:=gk _ ok.K0;obtain⟨g1,g2,g3⟩:=ih _ _ I (ok.rV _ _ hp Q) (ok.EY _ _ Z) h3;obtain⟨r,hr⟩:=pa x m ((k+1)%x.K) (nx x ((k+1)%x.K) p ((m:Int)+1));refine⟨fun i hi=>?_,?_,fun i hi=>?_⟩
  ·cases i with
   |zero=>
    simp only[rt,hr,List.getD_cons_zero,lh,Nat.add_zero];exact⟨Q,Z⟩
   |succ i=>
    have h4:=g1 i K1;simp only[rt,lh];refine⟨h4.1,?_⟩;have h5:=h4.2;rw[show((k+1)%x.K+i+1)=(k+1)%x.K+(i+1) by omega,tg] at h5
    grind
  ·simp only[rt,lh];exact g2
  cases i with
  |zero=>exact hp
  |succ i=>simp only[rt,lh];exact g3 i K1
structure Sub(x y:G)(a:Nat):Prop where
 n:y.n=x.n
 K:y.K=x.K
 nr:∀p,y.nr p=x.nr p
 goal:y.goal=x.goal
 al:∀k q,y.al k q=true->x.al k q=true
 xZ:∀k q,q≠a->x.al k q=true->y.al k q=true
def G.to(x:G)(a:Nat):G:={x with goal:=a}
def Av(x:G)(a m k p:Nat):Prop:=∀j,j<=m->W (x.to a) j k p->¬W x (m-j) ((k+j)%x.K) a
def Av.next{q:Nat}(h:Av x a (m+1) k p)(I:q∈x.nr p)(M:x.al ((k+1)%x.K) q=true):Av x a m ((k+1)%x.K) q:=by
 intro j Z Q h4;refine h (j+1) K1 ⟨q,I,M,Q⟩ ?_;grind [Nat.mod_add_mod]
def Av.ne(h:Av x a m k p)(I:W x m k p):p≠a:=by
 rintro rfl;exact h 0 (bF _) rfl (U9.2 I)
variable {y:G}
def Sub.wk(s:Sub x y a):∀{m k p},W y m k p->W x m k p:=by
 intro m;induction m with
 |zero=>intro k p h;exact(show p=y.goal from h).trans s.goal
 |succ m Z=>
  intro k p ⟨q,I,M,Q⟩;rw[s.nr] at I;rw[s.K] at M Q;exact⟨q,I,s.al _ _ M,Z Q⟩
def Sub.wk'(s:Sub x y a):∀{m k p},Av x a m k p->W x m k p->W y m k p:=by
 intro m;induction m with
 |zero=>intro k p _ h;exact(show p=x.goal from h).trans s.goal.symm
 |succ m ih=>
  intro k p ha ⟨q,M,Q,Z⟩;have I:=ha.next M Q;refine⟨q,by rw[s.nr];exact M,by rw[s.K];exact s.xZ _ _ (I.ne Z) Q,by rw[s.K];exact ih I Z⟩
def Sub.nL(s:Sub x y a)(I:x.ok)(M:y.ok)(hk:k<x.K)(hp:p<x.n)(hc:x.cell p=true)(hd:y.cell p=true)(h:arr x k p=(m:Int))(ha:Av x a m k p):arr y k p=(m:Int):=by
 have Q:=nW I hk hp hc K1;rw[h,j3] at Q;refine YD M (by rw[s.K];exact hk) (by rw[s.n];exact hp) hd (s.wk' ha Q) fun j Z=>?_
 have:=(iB I hk hp hc (s.wk Z)).2;omega
def find_congr{α:Type}{f g:α->Bool}:∀{l:List α},(∀q,q∈l->f q=g q)->l.find? f=l.find? g:=by
 intro l;induction l with
 |nil=>intro _;rfl
 |cons b l I=>
  grind
def Sub.ace(s:Sub x y a)(I:x.ok)(oky:y.ok):∀{m k p:Nat},k<x.K->p<x.n->x.cell p=true->arr x k p=(m:Int)->Av x a m k p->rt y m k p=rt x m k p:=by
 intro m;induction m with
 |zero=>intro k p _ _ _ _ _;rfl
 |succ m ih=>
  intro k p hk hp hc h ha;have M:(k+1)%x.K<x.K:=gk _ I.K0
  have hn:nx y ((k+1)%x.K) p ((m:Int)+1)=nx x ((k+1)%x.K) p ((m:Int)+1):=by
   unfold nx;rw[s.nr];congr 1;apply find_congr;intro q hq;have Q:=I.rV _ _ hp hq;rw[de];simp only[ay,ax];constructor
   ·rintro⟨Z,h2⟩;have h3:=s.al _ _ Z;refine⟨h3,?_⟩;have hw:=nW oky (by rw[s.K];exact M) (by rw[s.n];exact Q) (oky.EY _ _ Z) K1
    rw[h2,show((m:Int)+1-1).toNat=m by omega] at hw
    have h4:=iB I M Q (I.EY _ _ h3) (s.wk hw);have h5:=iB (m:=(arr x ((k+1)%x.K) q).toNat+1) I hk hp hc ⟨q,hq,h3,nW I M Q (I.EY _ _ h3) h4.1⟩;omega
   rintro⟨Z,h2⟩;have hw:=nW I M Q (I.EY _ _ Z) K1;rw[h2,show((m:Int)+1-1).toNat=m by omega] at hw
   have ha1:=ha.next hq Z;have h3:=s.xZ _ _ (ha1.ne hw) Z;refine⟨h3,?_⟩;have:=s.nL I oky M Q (I.EY _ _ Z) (oky.EY _ _ h3) K1 ha1;omega
  obtain⟨Z,h2,h3⟩:=w7 I hk hp hc (m:=m) (by rw[h];rfl)
  show p::rt y m ((k+1)%y.K) (nx y ((k+1)%y.K) p ((m:Int)+1))=p::rt x m ((k+1)%x.K) (nx x ((k+1)%x.K) p ((m:Int)+1));rw[s.K,hn,ih M (I.rV _ _ hp Z) (I.EY _ _ h2) h3 (ha.next Z h2)]
def leave(ok:x.ok)(hk:k<x.K)(hp:a<x.n)(hc:x.cell a=true){r:List Nat}(hs:x.nr a=a::r)(ha:∀k,k<x.K->x.al k a=true)(h:arr x k a=(m:Int)+1)(Z:nx x ((k+1)%x.K) a ((m:Int)+1)≠a):
  Av x a m ((k+1)%x.K) (nx x ((k+1)%x.K) a ((m:Int)+1)):=by
 intro j hj _ h2;have I:(k+1)%x.K<x.K:=gk _ ok.K0;have M:a∈x.nr a:=by grind
 have Q:=FX M ha ok.K0 j ((k+1)%x.K) h2;rw[show m-j+j=m by omega] at Q
 have h4:=iB ok I hp hc Q;have h5:=iB (m:=(arr x ((k+1)%x.K) a).toNat+1) ok hk hp hc ⟨a,M,ha _ I,nW ok I hp hc h4.1⟩;grind [nx]
def Ti:(rt x (m+1) k p).tail=rt x m ((k+1)%x.K) (nx x ((k+1)%x.K) p ((m:Int)+1)):=rfl
theorem VU:(rt x (m+1) k p).getD 1 0=nx x ((k+1)%x.K) p ((m:Int)+1):=by
 obtain⟨r,I⟩:=pa x m ((k+1)%x.K) (nx x ((k+1)%x.K) p ((m:Int)+1));grind [rt]
def MU(ok:x.ok)(hk:k<x.K)(hp:a<x.n)(hc:x.cell a=true)(hs:a∈x.nr a)(ha:∀k,k<x.K->x.al k a=true):
  (arr x k a<0↔arr x ((k+1)%x.K) a<0)/\(0<=arr x k a->arr x k a<=arr x ((k+1)%x.K) a+1/\arr x ((k+1)%x.K) a<=arr x k a+x.K-1):=by
 have I:(k+1)%x.K<x.K:=gk _ ok.K0;have K0:=ok.K0
 have f1:0<=arr x ((k+1)%x.K) a->0<=arr x k a/\arr x k a<=arr x ((k+1)%x.K) a+1:=fun h=>by
  have M:=FX hs ha ok.K0 1 k (nW ok I hp hc h);have Q:=iB ok hk hp hc M;omega
 have f2:0<=arr x k a->0<=arr x ((k+1)%x.K) a/\arr x ((k+1)%x.K) a<=arr x k a+x.K-1:=fun h=>by
  have e:((k+1)%x.K+(x.K-1))%x.K=k:=by
   rw[tg,show k+1+(x.K-1)=k+x.K by omega,oU,fQ hk]
  have M:=FX (m:=(arr x k a).toNat) hs ha ok.K0 (x.K-1) ((k+1)%x.K) (by rw[e];exact nW ok hk hp hc h)
  have Q:=iB ok I hp hc M;omega
 grind
end Bf
namespace Rt
open Cf
variable {a b p t tick:Int}{g:C}
def RE(h:(allowed g t p tick).1=true):asked g t tick=0/\gm g t p tick=true:=by
 grind [allowed]
def xW(h:(allowed g t p tick).1=true):0<=t/\(owner g p=t\/(owner g p= -2/\Fl.rU g.s tick 0=t)):=by
 obtain⟨Q,I⟩:=RE h;have M:=wQ Q;rw[iE M.c] at I;unfold gS dz at I;simp only[dI,ay,ax] at I;exact⟨M.iF.1,I⟩
theorem WC{u:Int}(M:¬t=u)(ha:(allowed g t p tick).1=true)(I:(allowed g u p tick).1=true):False:=by
 have Q:=xW ha;have Z:=xW I;omega
def sN.A(h:sN g t a b):a.toNat<(G g t a b).n:=by have:=h.ra;show a.toNat<g.l.length;omega
theorem sN.K{g:C}{t a b:Int}(h:sN g t a b)(tick:Int):ph g tick<(G g t a b).K:=VA h.c tick
def xd(g:C)(p:Nat):∃r,xS g p=p::r:=⟨_,rfl⟩
def Ut(g:C)(p:Nat):p∈xS g p:=by obtain⟨r,I⟩:=xd g p;grind
def HI{k:Nat}(I:0<=a)(h:owner g a=t):(G g t a b).al k a.toNat=true:=by
 show nD g t a b (k:Int) ((a.toNat:Nat):Int)=true;grind [nD,has,gS]
def Y4{k q:Nat}(h:(G g t a b).al k q=true):(owner g (q:Int)=t\/owner g (q:Int)= -2)/\has g t a b (q:Int)=true:=by
 have I:nD g t a b (k:Int) (q:Int)=true:=h;grind [nD,gS,dz]
theorem kC(l:List Nat)(i:Nat):(l.map fun(p:Nat)=>(p:Int)).getD i 0=((l.getD i 0:Nat):Int):=by
 grind
theorem gH(h:(ao g t a b tick).2=0):sN g t a b/\tick<=4611686018427389952/\0<=eP g t a b tick/\(ao g t a b tick).1=eP g t a b tick/\aZ g t a b tick=(xG g t a b tick,0):=by
 obtain⟨I,M,Q,Z⟩:=uw h;exact⟨(vQ I).1,(vQ I).2,Q,M,Z⟩
theorem jn(g:C)(t a b tick:Int):(aZ g t a b tick).2=(ao g t a b tick).2:=by
 grind [ao,uw,xx]
theorem nE(h:(ao g t a b tick).2=0):0<=(ao g t a b tick).1/\(ao g t a b tick).1<=1024:=by
 obtain⟨I,_,M,Q,_⟩:=gH h;have:=N7 (tick:=tick) I;omega
theorem sK(g:C)(t a b tick:Int):(xG g t a b tick).length=(eP g t a b tick).toNat+1:=by unfold xG;rw[bZ,Bf.Wq]
theorem iq(h:(ao g t a b tick).2=0):((aZ g t a b tick).1.length:Int)=(ao g t a b tick).1+1:=by
 obtain⟨_,_,I,M,Q⟩:=gH h;grind [sK]
theorem Dv(I:sN g t a b)(h:0<=eP g t a b tick):isWalk g t a b tick (xG g t a b tick):=by
 have M:Bf.arr (G g t a b) (ph g tick) a.toNat=((eP g t a b tick).toNat:Int):=by show eP g t a b tick=_;omega
 obtain⟨h1,Q,h3⟩:=Bf.SB (rQ I) _ _ _ (I.K tick) I.A (eH I) M;obtain⟨r,Z⟩:=Bf.pa (G g t a b) (eP g t a b tick).toNat (ph g tick) a.toNat;refine⟨by rw[sK];omega,?_,?_,?_⟩
 ·unfold xG;rw[kC,Z];exact af I.ra.1
 ·rw[sK,kY];unfold xG;rw[kC,Q];exact af I.rb.1
 rw[sK,kY];intro i hi;grind [xG,kC,Int.toNat_natCast]
def xC{l:bv}(h:(xe g t a b tick l).1=true):gC g t a b tick=0/\isWalk g t a b tick l:=by
 grind [xe]
def uS(h:(ao g t a b tick).2=0):xe g t a b tick (aZ g t a b tick).1=(true,0):=by
 grind [nE,iq,gH,Nk,yB,Dv]
theorem iG(h:(ao g t a b tick).2=0):(ao g t a b tick).1=0↔a=b:=by
 obtain⟨I,ht,Q,Z,h4⟩:=gH h;rw[Z];have M:=Bf.nW (rQ I) (I.K tick) I.A (eH I) Q;have ha:=I.ra;have hb:=I.rb;constructor
 ·intro h0;rw[show Bf.arr (G g t a b) (ph g tick) a.toNat=0 from h0] at M;have:a.toNat=b.toNat:=M;omega
 rintro rfl;have:=Bf.iB (m:=0) (rQ I) (I.K tick) I.A (eH I) rfl;show Bf.arr _ _ _=0;omega
def Hh(h:(ao g t a b tick).2=0):gA g t a b tick=if(ao g t a b tick).1=0 then(0,6) else((aZ g t a b tick).1.getD 1 0,0):=by
 grind [iq,gA,jn,ao]
def sg(h:(ao g t a b tick).2=0):(aZ g t a b tick).1.getD 0 0=a:=by
 obtain⟨I,ht,M,Z,Q⟩:=gH h;rw[Q];exact(Dv I M).2.1
end Rt
namespace Rt
open Cf
variable {a b c t:Int}{g:C}
theorem Ey{q:Int}(hc:has g t a b c=true)(I:q≠a):has g t a b q=has g t c b q:=by
 grind [has]
theorem Yj{q:Int}(hc:has g t a b c=true)(h:has g t c b q=true):has g t a b q=true:=by
 grind [Ey]
def acY(ha:0<=a)(hc:has g t a b c=true):Bf.Sub (G g t a b) (G g t c b) a.toNat where
 n:=rfl
 K:=rfl
 nr:=fun _=>rfl
 goal:=rfl
 al:=fun k q h=>by
  have I:nD g t c b (k:Int) (q:Int)=true:=h
  show nD g t a b (k:Int) (q:Int)=true
  grind [nD,Yj]
 xZ:=fun k q M h=>by
  have I:nD g t a b (k:Int) (q:Int)=true:=h
  show nD g t c b (k:Int) (q:Int)=true
  grind [nD,Ey]
def Xf(hc:has g t a b c=true)(ha:has g t c b a=true):G g t c b=G g t a b:=by
 grind [Ey,G,nD]
def HT{tick:Int}(h:(ao g t a b tick).2=0)(hl:2<=(aZ g t a b tick).1.length)(ht:tick<4611686018427389952):
  aZ g t ((aZ g t a b tick).1.getD 1 0) b (tick+1)=((aZ g t a b tick).1.tail,0)/\ao g t ((aZ g t a b tick).1.getD 1 0) b (tick+1)=(((aZ g t a b tick).1.length:Int)-2,0):=by
 have hlen:=iq h;obtain⟨M,_,h2,h3,h4⟩:=gH h;rw[h3] at hlen;obtain⟨m,hm⟩:∃m:Nat,eP g t a b tick=(m:Int)+1:=⟨(eP g t a b tick-1).toNat,K1⟩;have hA:Bf.arr (G g t a b) (ph g tick) a.toNat=(m:Int)+1:=hm;have I:=rQ M;have hk:=M.K tick;have hk1:(ph g tick+1)%(G g t a b).K<(G g t a b).K:=gk _ I.K0;obtain⟨n1,n2,n3⟩:=Bf.w7 I hk M.A (eH M) hA;have hph:ph g (tick+1)=(ph g tick+1)%g.s.length:=yt M.c 1
 have hrl:xG g t a b tick=(Bf.rt (G g t a b) (m+1) (ph g tick) a.toNat).map fun(p:Nat)=>(p:Int):=by
  grind [xG]
 obtain⟨c,hc⟩:∃c,Bf.nx (G g t a b) ((ph g tick+1)%(G g t a b).K) a.toNat ((m:Int)+1)=c:=⟨_,rfl⟩
 have hr1:(aZ g t a b tick).1.getD 1 0=(c:Int):=by
  grind [Bf.VU]
 have htl:(aZ g t a b tick).1.tail=(Bf.rt (G g t a b) m ((ph g tick+1)%g.s.length) c).map fun(p:Nat)=>(p:Int):=by
  rw[h4];show(xG g t a b tick).tail=_;rw[hrl,<-List.map_tail,Bf.Ti,hc];rfl
 rw[hr1,htl];rw[hc] at n1 n2 n3;obtain⟨hwho,Z⟩:=Y4 n2;have hcn:=I.rV _ _ M.A n1;have hL':sN g t (c:Int) b:=⟨M.c,M.p,⟨K1,by have:c<g.l.length:=hcn;omega⟩,M.rb,M.ob,hwho⟩
 have DQ:=rQ hL';have ha0:=M.ra.1
 have Q:c≠a.toNat->G g t (c:Int) b=G g t a b\/Bf.Av (G g t a b) a.toNat m ((ph g tick+1)%(G g t a b).K) c:=fun hne=>by
  by_cases hw:owner g a=t
  ·refine .inr ?_;obtain⟨r,hr⟩:=xd g a.toNat;have:=Bf.leave I hk M.A (eH M) (r:=r) hr (fun k _=>HI ha0 hw) hA (by rw[hc];exact hne)
   grind
  refine .inl (Xf Z ?_);have:=M.oa.resolve_left hw;unfold has dz;grind
 have key:Bf.arr (G g t (c:Int) b) ((ph g tick+1)%g.s.length) c=(m:Int)/\Bf.rt (G g t (c:Int) b) m ((ph g tick+1)%g.s.length) c=Bf.rt (G g t a b) m ((ph g tick+1)%g.s.length) c:=by
  by_cases hca:c=a.toNat
  ·grind [G]
  rcases Q hca with hgg|Q
  ·rw[hgg];exact⟨n3,rfl⟩
  have hs:=acY (t:=t) (b:=b) (c:=(c:Int)) ha0 Z;have hcell:(G g t (c:Int) b).cell c=true:=by grind [eH]
  exact⟨hs.nL I DQ hk1 hcn (I.EY _ _ n2) hcell n3 Q,hs.ace I DQ hk1 hcn (I.EY _ _ n2) n3 Q⟩
 grind [yB,eP,Int.toNat_natCast,aZ,xG,ao]
def OK{tick:Int}(Q:owner g a=t)(h:gC g t a b tick=0)(ht:tick<=4611686018427387904):
  ((ao g t a b tick).2=(ao g t a b (tick+1)).2)/\(¬(ao g t a b tick).2=0->ao g t a b tick=(0,130)/\ao g t a b (tick+1)=(0,130))/\
  ((ao g t a b tick).2=0->(ao g t a b tick).1-1<=(ao g t a b (tick+1)).1/\(ao g t a b (tick+1)).1<=(ao g t a b tick).1+g.s.length-1)/\
  (a=b->(ao g t a b tick).1=(ao g t a b (tick+1)).1):=by
 have I:=(vQ h).1;have h':gC g t a b (tick+1)=0:=yB I K1;have M:ph g (tick+1)=(ph g tick+1)%g.s.length:=yt I.c 1;obtain⟨Z,h2⟩:=Bf.MU (rQ I) (I.K tick) I.A (eH I) (Ut g a.toNat) (fun k _=>HI I.ra.1 Q);have h1':eP g t a b tick<0↔eP g t a b (tick+1)<0:=by unfold eP;rw[M];exact Z
 have h2':0<=eP g t a b tick->eP g t a b tick<=eP g t a b (tick+1)+1/\eP g t a b (tick+1)<=eP g t a b tick+g.s.length-1:=by unfold eP;rw[M];exact h2
 grind [ao,iG]
end Rt
namespace Rt
open Cf
variable {a b p t tick:Int}{g:C}
def Ej(h:check g=0)(hs:fV g=0)(hp:ag g.ts t=true):0<=most g t:=by
 have ht:=dS hp;have:=(wy h).1 hs t.toNat K1 (by grind)
 grind
theorem ng(I:fB g t):gS (only g t) t p=gS g t p:=by
 have hc:=dP I.c I.p;have ht:=I.iF;by_cases hp:0<=p/\p<g.l.length
 ·rw[BC I.c hp ⟨ht.1,ht.2.1⟩,BC hc (by show 0<=p/\p<((g.l.map (oc t)).length:Int);grind) ⟨ht.1,ht.2.1⟩]
  show Fl.own t ((g.l.map (oc t)).getD p.toNat 0)=_;rw[getD_map (zA t),PJ ⟨ht.1,ht.2.1⟩]
 unfold gS;rw[fJ I.c hp,fJ hc (by show¬(0<=p/\p<((g.l.map (oc t)).length:Int));grind)]
theorem jm(I:fB g t):dz (only g t) p=dz g p:=by
 have hc:=dP I.c I.p;have ht:=I.iF;by_cases hp:0<=p/\p<g.l.length
 ·rw[rB I.c hp,rB hc (by show 0<=p/\p<((g.l.map (oc t)).length:Int);grind)]
  show decide (Fl.dE ((g.l.map (oc t)).getD p.toNat 0)= -2)=_;rw[getD_map (zA t),Qd ⟨ht.1,ht.2.1⟩]
 unfold dz;rw[fJ I.c hp,fJ hc (by show¬(0<=p/\p<((g.l.map (oc t)).length:Int));grind)]
theorem wD(I:fB g t):decide (Fl.rU (only g t).s tick 0=t)=decide (Fl.rU g.s tick 0=t):=by
 have hl:Fl.Wm (only g t).s tick 0=Fl.Wm g.s tick 0:=by
  grind [Fl.Wm,only]
 unfold Fl.rU;rw[hl];exact decide_eq_decide.2 (aal I.iF.1 _).1.symm
theorem CU(I:fB g t):has (only g t) t a b p=has g t a b p:=by
 grind [has,jm,ng,bQ,mX,fB.c,fB.p]
def O7(I:fB g t):nD (only g t) t a b tick p=nD g t a b tick p:=by
 grind [nD,CU,ng,jm,p8,fB.c,dP,fB.p,wD]
theorem Fp(I:fB g t):G (only g t) t a b=G g t a b:=by
 unfold G;rw[show(only g t).l.length=g.l.length from bZ ..,show(only g t).s.length=g.s.length from bZ ..];congr 1
 ·funext p;exact CU I
 funext k p;exact O7 I
theorem vv(I:fB g t):asked (only g t) t tick=asked g t tick:=by
 grind [asked,fB.c,dP,fB.p,pg]
theorem zR(I:fB g t):allowed (only g t) t p tick=allowed g t p tick:=by
 grind [allowed,on,vv,only,iE,fB.c,dP,fB.p,ng,jm,wD]
theorem xy(I:fB g t):gC (only g t) t a b tick=gC g t a b tick:=by
 have e:lM (only g t) t a b=lM g t a b:=by
  have M:∀p,decide (owner (only g t) p=t)=decide (owner g p=t):=fun p=>ng I;have Q:∀p,decide (owner (only g t) p= -2)=decide (owner g p= -2):=fun p=>jm I;unfold lM;rw[M,M,Q]
 unfold gC;rw[vv I,e]
theorem Il(tick:Int):ph (only g t) tick=ph g tick:=by
 grind [ph,only]
theorem vz(I:fB g t):aZ (only g t) t a b tick=aZ g t a b tick:=by
 grind [aZ,xG,eP,xy,Fp,Il]
def Lm(I:fB g t):most (only g t) t=most g t:=by
 have M:rowOf (only g t) t=rowOf g t:=by
  grind [rowOf,Fp,only]
 grind [most,bQ,mX,fB.c,fB.p]
def FJ(I:fB g t):fV (only g t)=0↔0<=most g t:=by
 have hc:=dP I.c I.p;rw[wy hc,<-Lm I];have ht:=I.iF;constructor
 ·intro h;have:=h t.toNat (by show t.toNat<(bV g.ts t g.ts.length).length;rw[nG];exact ht.2.2) (by grind [pg,fB.p])
  grind
 intro h k _ hp;have:ag (bV g.ts t g.ts.length) (k:Int)=true:=hp;grind [jY,fB.p]
def JY(h:(lI g t).2=0):fB g t/\lI g t=(only g t,0):=by
 unfold lI at*;by_cases hc:check g=0
 ·rw[aa hc] at h⊢;by_cases hp:ag g.ts t=true
  ·rw[aa hp];exact⟨⟨hc,hp⟩,rfl⟩
  grind
 grind
end Rt
namespace Rt
open Cf
def OP(g:C)(t a b tick:Int):(ao g t a b tick).2=gC g t a b tick\/(gC g t a b tick=0/\(ao g t a b tick).2=130):=by
 grind [ao]
def nr(w p q:Int):Bool:=decide (p=q\/(p/w=q/w/\(p=q+1\/q=p+1))\/p=q+w\/q=p+w)
end Rt
namespace Cr
open Cf (C ag bC)
noncomputable def ev(g:C)(t:Int):Ev:=⟨Rt.bQ g t,g.s.length,Rt.dz g,fun p k=>(Rt.allowed g t p k).1,fun p q k=>(Rt.ao g t p q k).2,fun p q k=>Rt.gA g t p q k,fun p q k=>Rt.aZ g t p q k⟩
variable {g:C}{k p t:Int}
def nU(ht:0<=t)(h:Rt.owner g p=t):Rt.dz g p=false:=aV (by rw[h];omega)
def PR(I:Rt.fB g t)(h:Rt.owner g p=t)(hk:k<=4611686018427389952):(Rt.allowed g t p k).1=true:=by
 have hp:0<=p/\p<(g.l.length:Int):=by
  refine Decidable.byContradiction fun M=>?_;have:=Rt.fJ I.c M;have:=I.iF.1;omega
 grind [Rt.Ct,Rt.jk,Rt.fB.c,Rt.fB.p,Rt.gm]
def QQ(h:(Rt.allowed g t p k).1=true)(ha:Rt.dz g p=false):Rt.owner g p=t:=by
 rcases(Rt.xW h).2 with I|I
 ·exact I
 exact absurd I.1 (fc ha)
def iX(Z:Rt.fB g t):(ev g t).ok where
 num:=by
  have h:=Z.valid;unfold Cf.aS at h;simp only[ay] at h;exact h.1.1
 K1:=by have:=Rt.iV Z.c;show(1:Int)<=(g.s.length:Int);omega
 nd:=Cf.Aj Z.valid
 spot:=fun p hp=>by
  have h1:=(Z.spot hp).2;exact⟨nU Z.iF.1 h1,fun k _ hk=>PR Z h1 (by unfold Od.last at hk;omega)⟩
 own:=fun p k k' h ha _ hk=>PR Z (QQ h ha) (by unfold Od.last at hk;omega)
 stay:=fun p q k h0 hk h ha M=>by
  unfold Od.last at hk;have h1:=QQ h ha;have I:(Rt.ao g t p q k).2=0:=M
  have hl:Rt.gC g t p q k=0:=by
   have:=Rt.OP g t p q k;omega
  have:=(Rt.OK h1 hl K1).1;show(Rt.ao g t p q (k+1)).2=0;omega
 step:=fun p q k h0 hk M hne=>by
  unfold Od.last at hk;have I:(Rt.ao g t p q k).2=0:=M;have hlen:=Rt.iq I;have hs:=Rt.nE I;have hz:=Rt.iG I;have hn0:¬(Rt.ao g t p q k).1=0:=fun h=>hne (hz.1 h);have hw:=(Rt.xC (show(Rt.xe g t p q k (Rt.aZ g t p q k).1).1=true by rw[Rt.uS I])).2
  obtain⟨hL,_⟩:=Rt.gH I;obtain⟨h1,h2,h3⟩:=hw.2.2.2 0 K1;obtain⟨q1,q2⟩:=Rt.HT I K1 K1;generalize hr1:(Rt.aZ g t p q k).1.getD 1 0=r at*
  have e1:(Rt.ph g k+0+1)%(Rt.G g t p q).K=Rt.ph g (k+1):=by
   show(Rt.ph g k+1)%g.s.length=_;exact(Rt.yt hL.c 1).symm
  rw[e1] at h3;have h4:Rt.nD g t p q (k+1) ((r.toNat:Nat):Int)=true:=by rw[<-Rt.abr (a:=p) (b:=q) hL.c];exact h3
  rw[af h1,Rt.vA hL.c,ay] at h4
  have hrl:r<(g.l.length:Int):=by
   have:=(Rt.rQ hL).rV _ _ (by
    have:=Rt.sg I;show((Rt.aZ g t p q k).1.getD 0 0).toNat<g.l.length
    rw[this];have:=hL.ra;omega) h2
   have h5:r.toNat<g.l.length:=this;omega
  refine⟨r,?_,?_,?_,?_⟩
  ·show Rt.gA g t p q k=(r,0);rw[Rt.Hh I,ae hn0,hr1]
  ·show(Rt.allowed g t r (k+1)).1=true;grind [Rt.Ct,Rt.jk,Rt.sN.c,Rt.sN.p]
  ·show(Rt.ao g t r q (k+1)).2=0;rw[q2]
  have Q:=h4.1;unfold Rt.has at Q;simp only[dI,ay,ax,dG,decide_eq_false_iff_not] at Q;rcases Q with((Q|Q)|Q)|Q
  ·exact .inl Q
  ·exact .inr (.inl Q)
  ·refine .inr (.inr fun hsp=>?_);have:=nU Z.iF.1 (Z.spot hsp).2;grind
  exact .inr (.inr Q.2)
 stop:=fun p k=>by
  show¬(Rt.gA g t p p k).2=0;grind [Rt.gA,Rt.jn,Rt.iq,Rt.iG]
def Tj(I:Rt.fB g t):(1<=(ev g t).m.n5/\(ev g t).m.n5<=64)/\(1<=(ev g t).m.n4/\(ev g t).m.n4<=16)/\1<=(ev g t).m.n3:=by
 have h:=(iX I).num;unfold Cf.numbers Cf.sD Cf.NS at h;simp_all
structure Ev.EZ(e:Ev):Prop where
 no:∀p q k,¬e.arr p q k=0->¬(e.rt p q k).2=0
 yes:∀p q k,0<=k->k<=Od.last->e.arr p q k=0->∃r,e.rt p q k=(p::r,0)/\r.length<=1024/\(p=q->r=[])/\(p≠q->r≠[])/\∀i,i<r.length->e.al (r.getD i 0) (k+1+(i:Int))=true/\0<=r.getD i 0/\r.getD i 0<64
 tl:∀p q k x r,0<=k->k<Od.last->e.rt p q k=(p::x::r,0)->e.next p q k=(x,0)/\e.rt x q (k+1)=(x::r,0)
def tail_at{l:bv}{r:bv}(h:l=p::r)(i:Nat):r.getD i 0=l.getD (i+1) 0:=by rw[h,lh]
def fy(hT:Rt.fB g t):(ev g t).EZ where
 no:=fun p q k h=>by
  show¬(Rt.aZ g t p q k).2=0
  rw[Rt.jn];exact h
 yes:=fun p q k h0 hk M=>by
  unfold Od.last at hk
  have I:(Rt.ao g t p q k).2=0:=M
  have Q:=Rt.iq I
  have hs:=Rt.nE I
  have hz:=Rt.iG I
  have he:=Rt.jn g t p q k
  have hf:=Rt.sg I
  have hw:=(Rt.xC (show(Rt.xe g t p q k (Rt.aZ g t p q k).1).1=true by rw[Rt.uS I])).2
  obtain⟨hL,_⟩:=Rt.gH I
  obtain⟨x,r,hr⟩:∃x r,(Rt.aZ g t p q k).1=x::r:=by
   cases h:(Rt.aZ g t p q k).1 with
   |nil=>grind
   |cons x r=>exact⟨x,r,rfl⟩
  rw[hr,List.getD_cons_zero] at hf;subst hf;have hrl:((Rt.aZ g t x q k).1.length:Int)=(r.length:Int)+1:=by rw[hr];simp
  refine⟨r,Prod.ext hr (he.trans I),K1,fun h=>?_,fun h h2=>?_,fun i hi=>?_⟩
  ·have:=hz.2 h;exact j4 K1
  ·grind
  obtain⟨h1,h2,h3⟩:=hw.2.2.2 i K1;rw[tail_at hr i]
  have e1:(Rt.ph g k+i+1)%(Rt.G g t x q).K=Rt.ph g (k+1+(i:Int)):=by
   show(Rt.ph g k+i+1)%g.s.length=_;rw[show k+1+(i:Int)=k+((i+1:Nat):Int) by omega,Rt.yt hL.c (i+1)];rfl
  rw[e1] at h3;generalize(Rt.aZ g t x q k).1.getD (i+1) 0=y at*;have h4:Rt.nD g t x q (k+1+(i:Int)) ((y.toNat:Nat):Int)=true:=by rw[<-Rt.abr (a:=x) (b:=q) hL.c];exact h3
  rw[af h1,Rt.vA hL.c,ay] at h4
  have hon:0<=y/\y<(g.l.length:Int):=by
   refine Decidable.byContradiction fun hn=>?_;have h5:=h4.2;rw[Rt.iE hL.c] at h5;unfold Rt.gS Rt.dz at h5;rw[Rt.fJ hL.c hn] at h5;have:=hT.iF.1;grind
  have h64:=Rt.gj hL.c;refine⟨?_,h1,K1⟩;show(Rt.allowed g t y (k+1+(i:Int))).1=true;grind [Rt.Ct,Rt.jk,Rt.sN.c,Rt.sN.p]
 tl:=fun p q k x r h0 hk hrt=>by
  unfold Od.last at hk;have Z:Rt.aZ g t p q k=(p::x::r,0):=hrt;have M:(Rt.ao g t p q k).2=0:=by rw[<-Rt.jn,Z]
  have Q:=Rt.iq M;have hq:=Rt.HT M (by rw[Z];simp) K1
  have hn:=Rt.Hh M;rw[Z] at hq hn Q;rw[ae (by simp at Q;omega)] at hn
  exact⟨hn,hq.1⟩
theorem x8{a b:Int}(I:Rt.fB g t):Rt.ao (Cf.only g t) t a b k=Rt.ao g t a b k:=by
 grind [Rt.ao,Rt.eP,Rt.xy,Rt.Fp,Rt.Il]
theorem Lj{a b:Int}(I:Rt.fB g t):Rt.gA (Cf.only g t) t a b k=Rt.gA g t a b k:=by
 unfold Rt.gA;rw[Rt.vz I]
def xK(I:Rt.fB g t):ev (Cf.only g t) t=ev g t:=by
 have M:Rt.bQ (Cf.only g t) t=Rt.bQ g t:=Cf.mX I.c I.p;have Q:(Cf.only g t).s.length=g.s.length:=bZ ..;have Z:Rt.dz (Cf.only g t)=Rt.dz g:=funext fun p=>Rt.jm I;grind [ev,Rt.zR,x8,Lj,Rt.vz]
end Cr
section
variable{P:Program}{n:E.Fr}{w0:World}{F:Nat->Prop}{K:E.Kt}{l:E.Env}{H:List E.HP}
namespace Cr
open Od (O N B Ok)
def Ff{α:Type}(q:α->Bool)(l:List α):Int:=match l.findIdx? q with|some i=>(i:Int)|none=> -1
variable {p:Int}{α:Type}
def JF{q:α->Bool}{l:List α}{k:Nat}{z:α}(hk:k<l.length)(I:∀j,j<k->q (l.getD j z)=false)(M:q (l.getD k z)=true):Ff q l=k:=by
 unfold Ff
 have:l.findIdx? q=some k:=by
  grind [List.findIdx?_eq_some_iff_getElem]
 rw[this]
def IV{q:α->Bool}{l:List α}{z:α}(I:∀j,j<l.length->q (l.getD j z)=false):Ff q l= -1:=by
 grind [Ff,List.getElem_of_mem]
def MF(q:α->Bool)(l:List α):decide (0<=Ff q l)=l.any q:=by
 grind [Ff]
def MN:∀{rs:List R} {n:Nat},(hdsF n rs).any (fun h=>decide (h.pl=p))=rs.any fun r=>decide (r.pl=p):=by
 intro rs;induction rs with
 |nil=>intro n;rfl
 |cons r rs I=>intro n;simp only[hdsF,List.any_cons,I];rfl
def Ud{rs:List R}:(fZ rs).any (fun h=>decide (h.pl=p))=rs.any fun r=>decide (r.pl=p):=MN
def wj(k:Int)(r:R):bi:=[.int .i64 r.pl,.int .u8 r.st,.int .i64 r.od,.int .i64 r.lf,.int .i64 r.sl,.bool r.du,.int .i64 k]
def kj{m:Cf.T}{b:B}{id:Int}(I:Ok m b)(h:bt b id=true):(0<=(ord b id).pick/\(ord b id).pick<m.p.length)/\(0<=(ord b id).drop/\(ord b id).drop<m.d.length):=by
 have M:=bP.1 h;rw[fw M];obtain⟨Q,_,Z,h4⟩:=Od.ei.1 (I.o (id-1).toNat K1);have h5:=Od.im.1 Q;omega
def abG{g:Cf.C}{t k:Int}(I:Rt.fB g t)(h:(ev g t).al p k=true):0<=p/\p<g.l.length:=by
 refine Decidable.byContradiction fun M=>?_;have Q:(Rt.allowed g t p k).1=true:=h;have Z:=(Rt.xW Q).2;rw[Rt.fJ I.c M] at Z;have:=I.iF.1;omega
end Cr
namespace E
structure Sh.ok(s:Sh):Prop where
 T:Rt.fB s.g.q s.t
 f:s.g.q.fit
 m:s.m.q=Rt.bQ s.g.q s.t
 tk:0<=s.tk/\s.tk<=Od.last
 v:Cr.V (Cr.ev s.g.q s.t) s.tk s.q
noncomputable abbrev Sh.e(s:Sh):Cr.Ev:=Cr.ev s.g.q s.t
variable {k:Nat}{s:Sh}
def Sh.ok.em(h:s.ok):s.e.m=s.m.q:=h.m.symm
theorem Sh.ok.bk{s:Sh}(h:s.ok):Od.Ok s.m.q s.b.q:=by rw[<-h.em];exact h.v.bk
theorem Sh.ok.len{s:Sh}(h:s.ok):s.rs.length=s.m.q.h.length:=by rw[<-h.em];exact h.v.len
def Sh.ok.le(h:s.ok):s.rs.length<=3:=by
 have:=Cf.cz h.bk.n;have:=h.len;omega
theorem Sh.ok.on(h:s.ok)(hk:k<s.rs.length):0<=(Cr.at_ s.rs k).pl/\(Cr.at_ s.rs k).pl<s.g.l.length:=Cr.abG h.T (h.v.rt k hk).al
def Sh.ok.al0(h:s.ok)(hk:k<s.rs.length):Rt.allowed s.g.q s.t (Cr.at_ s.rs k).pl s.tk=(true,0):=by
 have M:(Rt.allowed s.g.q s.t (Cr.at_ s.rs k).pl s.tk).1=true:=(h.v.rt k hk).al;have I:s.tk<=4611686018427389952:=by have:=h.tk;unfold Od.last at this;omega
 have Q:=Rt.Ct (Rt.jk h.T.c h.T.p I) (h.on hk);grind
def Sh.ok.adM(h:s.ok)(hk:k<s.rs.length):(!(Cr.bt s.b.q (Cr.at_ s.rs k).od== !decide ((Cr.at_ s.rs k).od=0)))=false:=by
 have I:=(Cr.qY (by rw[h.em];exact h.bk.n)).2 (h.v.rt k hk)
 unfold Cr.right at I;simp only[ay] at I;rw[show(Cr.bt s.b.q (Cr.at_ s.rs k).od== !decide ((Cr.at_ s.rs k).od=0))=true from I.1.2];rfl
def Sh.ok.HF(h:s.ok)(hk:k<s.rs.length):(decide ((Cr.at_ s.rs k).st=2)||decide ((Cr.at_ s.rs k).st=5)||decide ((Cr.at_ s.rs k).st=8))=decide ((k:Int)=s.mv):=by
 rw[de];simp only[dI,ax,or_assoc];exact(h.v.rt k hk).lg
def Sh.ok.fits(h:s.ok)(hk:k<s.rs.length):
  ((Cr.at_ s.rs k).st=0/\Cr.bt s.b.q (Cr.at_ s.rs k).od=false/\(Cr.at_ s.rs k).pl=s.m.q.h.getD k 0/\(Cr.at_ s.rs k).lf=0)\/
  ((Cr.at_ s.rs k).st=1/\Cr.bt s.b.q (Cr.at_ s.rs k).od=true/\(Cr.ord s.b.q (Cr.at_ s.rs k).od).st=2/\(Cr.at_ s.rs k).pl=s.m.q.h.getD k 0/\(Cr.at_ s.rs k).lf=0)\/
  ((Cr.at_ s.rs k).st=2/\Cr.bt s.b.q (Cr.at_ s.rs k).od=true/\(Cr.ord s.b.q (Cr.at_ s.rs k).od).st=2/\(Cr.at_ s.rs k).lf=0)\/
  ((Cr.at_ s.rs k).st=3/\Cr.bt s.b.q (Cr.at_ s.rs k).od=true/\(Cr.ord s.b.q (Cr.at_ s.rs k).od).st=2/\(Cr.at_ s.rs k).pl=s.m.q.p.getD (Cr.ord s.b.q (Cr.at_ s.rs k).od).pick.toNat 0/\1<=(Cr.at_ s.rs k).lf/\(Cr.at_ s.rs k).lf<=s.m.q.n1)\/
  ((Cr.at_ s.rs k).st=4/\Cr.bt s.b.q (Cr.at_ s.rs k).od=true/\(Cr.ord s.b.q (Cr.at_ s.rs k).od).st=3/\(Cr.at_ s.rs k).pl=s.m.q.p.getD (Cr.ord s.b.q (Cr.at_ s.rs k).od).pick.toNat 0/\(Cr.at_ s.rs k).lf=0)\/
  ((Cr.at_ s.rs k).st=5/\Cr.bt s.b.q (Cr.at_ s.rs k).od=true/\(Cr.ord s.b.q (Cr.at_ s.rs k).od).st=3/\(Cr.at_ s.rs k).lf=0)\/
  ((Cr.at_ s.rs k).st=6/\Cr.bt s.b.q (Cr.at_ s.rs k).od=true/\(Cr.ord s.b.q (Cr.at_ s.rs k).od).st=3/\(Cr.at_ s.rs k).pl=s.m.q.d.getD (Cr.ord s.b.q (Cr.at_ s.rs k).od).drop.toNat 0/\1<=(Cr.at_ s.rs k).lf/\(Cr.at_ s.rs k).lf<=s.m.q.n2)\/
  ((Cr.at_ s.rs k).st=7/\Cr.bt s.b.q (Cr.at_ s.rs k).od=false/\decide ((Cr.at_ s.rs k).pl∈s.m.q.d)=true/\(Cr.at_ s.rs k).lf=0)\/
  ((Cr.at_ s.rs k).st=8/\Cr.bt s.b.q (Cr.at_ s.rs k).od=false/\(Cr.at_ s.rs k).lf=0):=by
 have I:Cr.Fit s.e s.b.q k (Cr.at_ s.rs k):=(h.v.rt k hk).fit
 have hi:∀{st:Int},Cr.dK s.b.q (Cr.at_ s.rs k).od st->Cr.bt s.b.q (Cr.at_ s.rs k).od=true/\(Cr.ord s.b.q (Cr.at_ s.rs k).od).st=st:=fun h=>by
  grind [Cr.eF]
 have M:(Cr.at_ s.rs k).od=0->Cr.bt s.b.q (Cr.at_ s.rs k).od=false:=fun h=>by
  cases hh:Cr.bt s.b.q (Cr.at_ s.rs k).od with
  |false=>rfl
  |true=>have:=Cr.bP.1 hh;omega
 have hp:∀{st:Int},Cr.dK s.b.q (Cr.at_ s.rs k).od st->Cr.pk s.b.q (Cr.at_ s.rs k).od=(Cr.ord s.b.q (Cr.at_ s.rs k).od).pick.toNat/\Cr.dp s.b.q (Cr.at_ s.rs k).od=(Cr.ord s.b.q (Cr.at_ s.rs k).od).drop.toNat:=fun h=>by
  rw[Cr.fw h.1];exact⟨rfl,rfl⟩
 unfold Cr.Fit at I;rw[h.em] at I;rcases I with⟨a,b,c,d⟩|⟨a,b,c,d⟩|⟨a,b,d⟩|⟨a,b,c,d⟩|⟨a,b,c,d⟩|⟨a,b,d⟩|⟨a,b,c,d⟩|⟨a,b,c,d⟩|⟨a,b,d⟩
 ·exact .inl ⟨a,M b,c,d⟩
 ·exact .inr (.inl ⟨a,(hi b).1,(hi b).2,c,d⟩)
 ·exact .inr (.inr (.inl ⟨a,(hi b).1,(hi b).2,d⟩))
 ·grind
 ·grind
 ·grind
 ·grind
 ·grind
 grind
def Sh.ok.f0(h:s.ok)(hk:k<s.rs.length)(I:(Cr.at_ s.rs k).st=0):Cr.bt s.b.q (Cr.at_ s.rs k).od=false/\(Cr.at_ s.rs k).pl=s.m.q.h.getD k 0/\(Cr.at_ s.rs k).lf=0:=by
 rcases h.fits hk with⟨a,b⟩|⟨a,b⟩|⟨a,b⟩|⟨a,b⟩|⟨a,b⟩|⟨a,b⟩|⟨a,b⟩|⟨a,b⟩|⟨a,b⟩<;>first|exact b|omega
def Sh.ok.f1(h:s.ok)(hk:k<s.rs.length)(I:(Cr.at_ s.rs k).st=1):Cr.bt s.b.q (Cr.at_ s.rs k).od=true/\(Cr.ord s.b.q (Cr.at_ s.rs k).od).st=2/\(Cr.at_ s.rs k).pl=s.m.q.h.getD k 0/\(Cr.at_ s.rs k).lf=0:=by
 rcases h.fits hk with⟨a,b⟩|⟨a,b⟩|⟨a,b⟩|⟨a,b⟩|⟨a,b⟩|⟨a,b⟩|⟨a,b⟩|⟨a,b⟩|⟨a,b⟩<;>first|exact b|omega
def Sh.ok.f2(h:s.ok)(hk:k<s.rs.length)(I:(Cr.at_ s.rs k).st=2):Cr.bt s.b.q (Cr.at_ s.rs k).od=true/\(Cr.ord s.b.q (Cr.at_ s.rs k).od).st=2/\(Cr.at_ s.rs k).lf=0:=by
 rcases h.fits hk with⟨a,b⟩|⟨a,b⟩|⟨a,b⟩|⟨a,b⟩|⟨a,b⟩|⟨a,b⟩|⟨a,b⟩|⟨a,b⟩|⟨a,b⟩<;>first|exact b|omega
def Sh.ok.f3(h:s.ok)(hk:k<s.rs.length)(I:(Cr.at_ s.rs k).st=3):Cr.bt s.b.q (Cr.at_ s.rs k).od=true/\(Cr.ord s.b.q (Cr.at_ s.rs k).od).st=2/\(Cr.at_ s.rs k).pl=s.m.q.p.getD (Cr.ord s.b.q (Cr.at_ s.rs k).od).pick.toNat 0/\1<=(Cr.at_ s.rs k).lf/\(Cr.at_ s.rs k).lf<=s.m.q.n1:=by
 rcases h.fits hk with⟨a,b⟩|⟨a,b⟩|⟨a,b⟩|⟨a,b⟩|⟨a,b⟩|⟨a,b⟩|⟨a,b⟩|⟨a,b⟩|⟨a,b⟩<;>first|exact b|omega
def Sh.ok.f4(h:s.ok)(hk:k<s.rs.length)(I:(Cr.at_ s.rs k).st=4):Cr.bt s.b.q (Cr.at_ s.rs k).od=true/\(Cr.ord s.b.q (Cr.at_ s.rs k).od).st=3/\(Cr.at_ s.rs k).pl=s.m.q.p.getD (Cr.ord s.b.q (Cr.at_ s.rs k).od).pick.toNat 0/\(Cr.at_ s.rs k).lf=0:=by
 rcases h.fits hk with⟨a,b⟩|⟨a,b⟩|⟨a,b⟩|⟨a,b⟩|⟨a,b⟩|⟨a,b⟩|⟨a,b⟩|⟨a,b⟩|⟨a,b⟩<;>first|exact b|omega
def Sh.ok.f5(h:s.ok)(hk:k<s.rs.length)(I:(Cr.at_ s.rs k).st=5):Cr.bt s.b.q (Cr.at_ s.rs k).od=true/\(Cr.ord s.b.q (Cr.at_ s.rs k).od).st=3/\(Cr.at_ s.rs k).lf=0:=by
 rcases h.fits hk with⟨a,b⟩|⟨a,b⟩|⟨a,b⟩|⟨a,b⟩|⟨a,b⟩|⟨a,b⟩|⟨a,b⟩|⟨a,b⟩|⟨a,b⟩<;>first|exact b|omega
def Sh.ok.f6(h:s.ok)(hk:k<s.rs.length)(I:(Cr.at_ s.rs k).st=6):Cr.bt s.b.q (Cr.at_ s.rs k).od=true/\(Cr.ord s.b.q (Cr.at_ s.rs k).od).st=3/\(Cr.at_ s.rs k).pl=s.m.q.d.getD (Cr.ord s.b.q (Cr.at_ s.rs k).od).drop.toNat 0/\1<=(Cr.at_ s.rs k).lf/\(Cr.at_ s.rs k).lf<=s.m.q.n2:=by
 rcases h.fits hk with⟨a,b⟩|⟨a,b⟩|⟨a,b⟩|⟨a,b⟩|⟨a,b⟩|⟨a,b⟩|⟨a,b⟩|⟨a,b⟩|⟨a,b⟩<;>first|exact b|omega
def Sh.ok.f7(h:s.ok)(hk:k<s.rs.length)(I:(Cr.at_ s.rs k).st=7):Cr.bt s.b.q (Cr.at_ s.rs k).od=false/\decide ((Cr.at_ s.rs k).pl∈s.m.q.d)=true/\(Cr.at_ s.rs k).lf=0:=by
 rcases h.fits hk with⟨a,b⟩|⟨a,b⟩|⟨a,b⟩|⟨a,b⟩|⟨a,b⟩|⟨a,b⟩|⟨a,b⟩|⟨a,b⟩|⟨a,b⟩<;>first|exact b|omega
def Sh.ok.f8(h:s.ok)(hk:k<s.rs.length)(I:(Cr.at_ s.rs k).st=8):Cr.bt s.b.q (Cr.at_ s.rs k).od=false/\(Cr.at_ s.rs k).lf=0:=by
 rcases h.fits hk with⟨a,b⟩|⟨a,b⟩|⟨a,b⟩|⟨a,b⟩|⟨a,b⟩|⟨a,b⟩|⟨a,b⟩|⟨a,b⟩|⟨a,b⟩<;>first|exact b|omega
theorem Sh.ok.st{s:Sh}(h:s.ok){k:Nat}(hk:k<s.rs.length):0<=(Cr.at_ s.rs k).st/\(Cr.at_ s.rs k).st<=8:=by
 rcases h.fits hk with⟨a,b⟩|⟨a,b⟩|⟨a,b⟩|⟨a,b⟩|⟨a,b⟩|⟨a,b⟩|⟨a,b⟩|⟨a,b⟩|⟨a,b⟩<;>omega
theorem Sh.ok.lf{s:Sh}(h:s.ok){k:Nat}(hk:k<s.rs.length):(Cr.work s.e (Cr.at_ s.rs k).st=0/\(Cr.at_ s.rs k).lf=0)\/(1<=Cr.work s.e (Cr.at_ s.rs k).st/\1<=(Cr.at_ s.rs k).lf/\(Cr.at_ s.rs k).lf<=Cr.work s.e (Cr.at_ s.rs k).st):=by
 have I:=Cr.nK h.bk.n;unfold Cr.work;rw[h.em];rcases h.fits hk with⟨a,b⟩|⟨a,b⟩|⟨a,b⟩|⟨a,b⟩|⟨a,b⟩|⟨a,b⟩|⟨a,b⟩|⟨a,b⟩|⟨a,b⟩<;>rw[a]<;>simp<;>omega
def Sh.ok.wk(h:s.ok){st x:Int}(I:(if st=3 then s.m.q.n1 else if st=6 then s.m.q.n2 else 0)=x):x=Cr.work s.e st:=by
 unfold Cr.work;rw[h.em];exact I.symm
def Sh.ok.WD(h:s.ok):0<=s.tk/\s.tk<18446744073709551616:=by have:=h.tk;unfold Od.last at this;omega
section
variable{o:Oper}
variable {A:am}{j k m:Nat}{rs:List Cr.R}
def HA.Co{w:World}(h:HA w0 F H w){B:Nat}{s:Sh}{i:Nat}{I M Q:List HP}(hi:E.sel H i=some (HP.aw B 342 s.cells,I))(Z:E.sel H j=some (HP.row 345 7 s.A s.rs.length s.c (fl Cr.Hd.cs (Cr.fZ s.rs)),M))(hk:E.sel H k=some (HP.ro [(s.b.A1,fl Od.O.cs s.b.q.os),(s.b.A2,ints s.b.q.q)],Q))(hg:s.g.rd w0 F)(hm:s.m.rd w0 F):s.rd w (Old w) B:=
 ⟨h.dq hi,h.bh Z,h.j0 hk 0 rfl,h.j0 hk 1 rfl,h.lN hg,h.oP hm⟩
def PV.G6{t:TypeId}{x:Operand}{v:Value}(I:∀w,HA w0 F H w->Rd w (Old w) A (fl Cr.Hd.cs (Cr.fZ rs)))(ht:Na P t)(ho:o.op=.load t x)(M:ev l x=some (bB A (k*7+j)))(hk:k<rs.length)(Q:(Cr.wj (k:Int) (Cr.at_ rs k))[j]? =some v):PV P n w0 F l H o v:=PV.oZ Cr.Hd.z Cr.Hd.fx I ht ho M (by simp_all) (by rw[Cr.ow hk];exact Q)
def PV.QG{t:TypeId}{x:Operand}{vs:bi}(I:∀w,HA w0 F H w->Rd w (Old w) A (fl Cr.Hd.cs (Cr.fZ rs)))(ht:Is P t m)(ho:o.op=.load t x)(M:ev l x=some (bB A (k*7+j)))(hk:k<rs.length)(hs:slc (Cr.wj (k:Int) (Cr.at_ rs k)) j m=some vs)(Q:0<m):PV P n w0 F l H o (.agg vs.toArray):=PV.kv Cr.Hd.z Cr.Hd.fx I ht ho M (by simp_all) (by rw[Cr.ow hk];exact hs) Q
def CW.WK{c:Code}{Et cc:Nat}{H':List HP}(i k:Nat)(hi:sel H i=some (HP.row Et 7 A m cc (fl Cr.Hd.cs (Cr.fZ rs)),H'))(hk:k<rs.length)(h:CW P n w0 F c K l (HP.row Et 7 A m cc (fl Cr.Hd.cs ((Cr.fZ rs).set k ⟨(Cr.at_ rs k).pl,(Cr.at_ rs k).st,(Cr.at_ rs k).od,(Cr.at_ rs k).lf,(Cr.at_ rs k).sl,(Cr.at_ rs k).du,(k:Int)⟩))::H')):CW P n w0 F c K l H:=fun a w ha M=>
 h a w ha (by
  have e:(Cr.fZ rs).set k ⟨(Cr.at_ rs k).pl,(Cr.at_ rs k).st,(Cr.at_ rs k).od,(Cr.at_ rs k).lf,(Cr.at_ rs k).sl,(Cr.at_ rs k).du,(k:Int)⟩=Cr.fZ rs:=by
   have I:=tJ (l:=Cr.fZ rs) (z:=Cr.Hd.z) (by rw[Cr.da];exact hk)
   rw[Cr.ow hk] at I;exact I
  rw[e];exact M.sel hi)
def OW.WK{ops:Array Oper}{I:List Oper}{Et cc:Nat}{H':List HP}(i k:Nat)(hi:sel H i=some (HP.row Et 7 A m cc (fl Cr.Hd.cs (Cr.fZ rs)),H'))(hk:k<rs.length)(h:OW P n w0 F ops K I l (HP.row Et 7 A m cc (fl Cr.Hd.cs ((Cr.fZ rs).set k ⟨(Cr.at_ rs k).pl,(Cr.at_ rs k).st,(Cr.at_ rs k).od,(Cr.at_ rs k).lf,(Cr.at_ rs k).sl,(Cr.at_ rs k).du,(k:Int)⟩))::H')):OW P n w0 F ops K I l H:=fun a w ha Q=>
 h a w ha (by
  have e:(Cr.fZ rs).set k ⟨(Cr.at_ rs k).pl,(Cr.at_ rs k).st,(Cr.at_ rs k).od,(Cr.at_ rs k).lf,(Cr.at_ rs k).sl,(Cr.at_ rs k).du,(k:Int)⟩=Cr.fZ rs:=by
   have M:=tJ (l:=Cr.fZ rs) (z:=Cr.Hd.z) (by rw[Cr.da];exact hk)
   rw[Cr.ow hk] at M;exact M
  rw[e];exact Q.sel hi)
end
end E
namespace Cr
open Od (O N B Ok)
def Lu(rs:List R)(k:Nat):bv:=(rs.take k).map (·.pl)
def Cn(rs:List R)(k:Nat):bv:=(rs.take k).map (·.od)
variable {k:Nat}{rs:List R}
def uo(h:k<rs.length):Lu rs (k+1)=Lu rs k++[(at_ rs k).pl]:=by unfold Lu;rw[gu h,dZ];rfl
def vc(h:k<rs.length):Cn rs (k+1)=Cn rs k++[(at_ rs k).od]:=by unfold Cn;rw[gu h,dZ];rfl
def Ib(hk:k<=rs.length){p:Int}:p∈Lu rs k↔∃j,j<k/\(at_ rs j).pl=p:=by
 induction k with
 |zero=>simp[Lu]
 |succ k I=>
  rw[uo K1,aN,I K1,bw];grind
def Hr(hk:k<=rs.length){p:Int}:p∈Cn rs k↔∃j,j<k/\(at_ rs j).od=p:=by
 induction k with
 |zero=>simp[Cn]
 |succ k I=>
  rw[vc K1,aN,I K1,bw];grind
end Cr
namespace E
def vR(v:Value):Option (DataW Value×List MemPlace):=some (.held v,[])
def Rv:Option Value->DataW Value->DataW Value
 |some v,_=>.held v
 |none,z=>z
section
variable{α:Type}
def HP.mv(P:Program)(k B m:Nat)(lit:α->Lit)(f:α->Option Value):HP where
 bA S w:=(∀q,S q↔q=B)/\∃D,w.ownsMap P k vR B m D/\(∀a z,D.atKey (lit a) z=Rv (f a) z)/\(∀a,Maps.has D (lit a)=(f a).isSome)/\∀kl,Maps.has D kl=true->∃a,kl=lit a
 loc:=fun _ _ _ h ⟨M,D,⟨Q,I,Z,r⟩,h2⟩=>⟨M,D,⟨Q,I,by rw[h B ((M B).2 rfl)];exact Z,r⟩,h2⟩
structure Mk(P:Program)(t k e:Nat)(kk:α->Value)(lit:α->Lit)(ok:α->Prop):Prop where
 K:Maps.Keyed P k
 ht:P.underlying t=some (.map k e)
 key:∀a,ok a->keyOf P k (kk a)=some (lit a)
 inj:∀a b,lit a=lit b->a=b
def gE(p:Int):Prop:= -9223372036854775808<=p/\p<=9223372036854775807
variable {e k t:Nat}
def aad{P:Program}(ht:P.underlying t=some (.map k e))(hk:P.underlying k=some (.int .i64)):Mk P t k e (Value.int .i64) (Lit.int .i64) gE:=
 ⟨Maps.int_keyed hk,ht,fun a ha=>Maps.keyOf_int_mk hk (Gl ha),fun a b h=>by injection h⟩
def eh[DecidableEq α](f:α->Option Value)(a:α)(v:Value)(b:α):Option Value:=if b=a then some v else f b
def N0[DecidableEq α](f:α->Option Value)(a:α)(b:α):Option Value:=if b=a then none else f b
variable{o:Oper}{kk:α->Value}{lit:α->Lit}{ok:α->Prop}{f:α->Option Value}
variable {B i m:Nat}{H':List HP}{ops:Array Oper}{rest:List Oper}{x y:Operand}{z:Value}
def OW.zx{d:Nat}(hM:Mk P t k e kk lit ok)(ho:o.op=.makeMap t none)(hg:gd ops l o.guard=some true)(hd:o.dst=some d)(I:Nat.blt d n.sz=true)(kt:∀B,OW P n w0 F ops K rest ((d,.map (some B))::l) (HP.mv P k B 0 lit (fun _=>none)::H)):OW P n w0 F ops K (o::rest) l H:=
 OW.step hg hd I (fun v H'=>∃B,v=.map (some B)/\H'=HP.mv P k B 0 lit (fun _=>none)::H)
  (fun a w ha M=>⟨_,w.alloc (.map #[] 0),_,by simp[execOp,ho,run_makeMap],⟨w.heap.size,rfl,rfl⟩,
   M.new (.map #[] 0) (Hn:=[HP.mv P k w.heap.size 0 lit (fun _=>none)]) ⟨fun k=>k=w.heap.size,⟨fun _=>Iff.rfl,.map [],World.ownsMap_made w P k vR,fun _ _=>rfl,fun _=>rfl,fun _ h=>by cases h⟩,fun k hk=>by subst hk;simp,trivial⟩⟩)
  (fun v H' ⟨B,Q,Z⟩=>by subst Q Z;exact kt B)
theorem HA.mv{w:World}(h:HA w0 F H w)(hi:E.sel H i=some (HP.mv P k B m lit f,H')):∃D,w.ownsMap P k vR B m D/\(∀a z,D.atKey (lit a) z=Rv (f a) z)/\(∀a,Maps.has D (lit a)=(f a).isSome)/\∀kl,Maps.has D kl=true->∃a,kl=lit a:=by
 obtain⟨S,I,_⟩:=(h.sel hi).chunks;exact I.2
def sJ{v:Value}{ps:List MemPlace}{r:Option Value}(h:vR v=some (Rv r (.held z),ps)):v=r.getD z:=by
 unfold vR at h;simp only[Option.some.injEq,Prod.mk.injEq] at h;cases r with
 |none=>have:=h.1;unfold Rv at this;injection this
 |some u=>have:=h.1;unfold Rv at this;injection this
def PV.vx{sz bytes:Nat}{a:α}(M:Mk P t k e kk lit ok)(hI:In P e z sz bytes)(ho:o.op=.lookup t x y false)(hx:ev l x=some (.map (some B)))(hy:ev l y=some (kk a))(hi:E.sel H i=some (HP.mv P k B m lit f,H'))(Q:ok a):PV P n w0 F l H o ((f a).getD z):=fun ac w ha hw=>by
 obtain⟨D,h1,h2,h3,h4⟩:=hw.mv hi
 obtain⟨v,ps,I,Z⟩:=h1.lookup M.K M.ht (hI.zr w) (zd:=.held z) (zp:=[]) rfl (M.key a Q)
 rw[h2] at Z
 rw[<-sJ Z]
 simp[execOp,ho,ha.ev hx,ha.ev hy,I]
def PV.No{sz bytes:Nat}{a:α}(M:Mk P t k e kk lit ok)(hI:In P e z sz bytes)(ho:o.op=.lookup t x y true)(hx:ev l x=some (.map (some B)))(hy:ev l y=some (kk a))(hi:E.sel H i=some (HP.mv P k B m lit f,H'))(Q:ok a):PV P n w0 F l H o (.tuple #[(f a).getD z,.bool (f a).isSome]):=fun ac w ha hw=>by
 obtain⟨D,h1,h2,h3,h4⟩:=hw.mv hi
 obtain⟨v,ps,I,Z⟩:=h1.look_ok M.K M.ht (hI.zr w) (zd:=.held z) (zp:=[]) rfl (M.key a Q)
 rw[h2] at Z
 rw[<-sJ Z,<-h3]
 simp[execOp,ho,ha.ev hx,ha.ev hy,I]
variable[DecidableEq α]
def OW.Vj{u:Operand}{a:α}{v:Value}(M:Mk P t k e kk lit ok)(ho:o.op=.mapUpdate t x y u)(hg:gd ops l o.guard=some true)(hd:o.dst=none)(hx:ev l x=some (.map (some B)))(hy:ev l y=some (kk a))(hu:ev l u=some v)(hi:E.sel H i=some (HP.mv P k B m lit f,H'))(hok:ok a)(hm:m<maxLen)(kt:OW P n w0 F ops K rest l (HP.mv P k B (m+1) lit (eh f a v)::H')):OW P n w0 F ops K (o::rest) l H:=
 OW.act hg hd (fun ac w ha hw=>by
  obtain⟨D,h1,h2,h3,h4⟩:=hw.mv hi
  have I:=M.key a hok
  have Z:=M.K.key I
  obtain⟨w',hrun,g1,g2⟩:=h1.store M.K M.ht hm I (d:=.held v) (ps:=[]) rfl
  have Q:=g2.grown
  refine⟨w',by simp[execOp,ho,ha.ev hx,ha.ev hy,ha.ev hu,hrun,Result.andThen],?_⟩
  refine(hw.sel hi).write (Hn:=[HP.mv P k B (m+1) lit (eh f a v)]) fun S hS hB=>⟨Q.os,Q.tape,Q.output,Q.size,fun q hq hn=>Q.block q hq (fun e=>hn ((hS.1 q).2 (by injection e))),S,⟨hS.1,_,g1,?_,?_,?_⟩,fun q hq=>⟨br (hB q hq).1 Q.size,fun hh=>hh.2 hq⟩,trivial⟩
  ·intro b z
   unfold eh
   by_cases hb:b=a
   ·subst hb;rw[aa rfl,Maps.atKey_put_same h1.isMap Z];rfl
   ·rw[ae hb,Maps.atKey_put_other (fun he=>hb (M.inj _ _ he)),h2]
  ·intro b
   unfold eh
   by_cases hb:b=a
   ·subst hb;rw[aa rfl,Maps.has_put_same h1.isMap Z];rfl
   ·rw[ae hb,Maps.has_put_other (fun he=>hb (M.inj _ _ he)),h3]
  ·intro kl hh
   by_cases hb:kl=lit a
   ·exact⟨a,hb⟩
   ·rw[Maps.has_put_other hb] at hh;exact h4 kl hh) kt
def tW(l:bv)(p:Int):Option Value:=if l.count p=0 then none else some (.int .i64 (l.count p:Int))
def Ny:tW []=fun _=>none:=by funext p;simp[tW]
def kB(l:bv)(p:Int):(tW l p).getD (.int .i64 0)=.int .i64 (l.count p:Int):=by
 unfold tW;split
 ·rename_i h;rw[h];rfl
 rfl
def Cj(l:bv)(p:Int):eh (tW l) p (.int .i64 ((l.count p:Int)+1))=tW (l++[p]):=by
 funext q;unfold eh tW;grind
end
variable {k:Nat}{s:Sh}
def Sh.ok.pc0(h:s.ok)(hk:k<s.rs.length):(Cr.Lu s.rs k).count (Cr.at_ s.rs k).pl=0:=sM.2 fun I=>by
 obtain⟨j,Q,M⟩:=(Cr.Ib K1).1 I
 exact h.v.pl j k (show j<s.rs.length by omega) hk K1 M
def Sh.ok.pc1(h:s.ok)(hk:k<s.rs.length):(Cr.Lu s.rs (k+1)).count (Cr.at_ s.rs k).pl=1:=by
 rw[Cr.uo hk,List.count_append,h.pc0 hk,List.count_singleton_self]
def Sh.ok.oc1(h:s.ok)(hk:k<s.rs.length)(I:¬(Cr.at_ s.rs k).od=0):(Cr.Cn s.rs (k+1)).count (Cr.at_ s.rs k).od=1:=by
 rw[Cr.vc hk,List.count_append,List.count_singleton_self,sM.2 fun M=>?_];obtain⟨j,Z,Q⟩:=(Cr.Hr K1).1 M;exact h.v.od k j hk (show j<s.rs.length by omega) K1 I Q.symm
def Sh.ok.odr(h:s.ok)(hk:k<s.rs.length):0<=(Cr.at_ s.rs k).od/\(Cr.at_ s.rs k).od<=s.b.q.os.length:=by
 rcases Cr.zI (h.v.rt k hk).fit with I|I|I
 ·have M:(Cr.at_ s.rs k).od=0:=I;omega
 ·have M:1<=(Cr.at_ s.rs k).od/\(Cr.at_ s.rs k).od<=s.b.q.os.length:=I.1;omega
 have M:1<=(Cr.at_ s.rs k).od/\(Cr.at_ s.rs k).od<=s.b.q.os.length:=I.1;omega
def Sh.ok.oid(h:s.ok){i:Nat}(hi:i<s.b.q.os.length):(s.b.q.os.getD i Od.O.z).id=(i:Int)+1:=(Od.ei.1 (h.bk.o i hi)).2.1
def Sh.ok.och(h:s.ok){i:Nat}(hi:i<s.b.q.os.length)(I:(s.b.q.os.getD i Od.O.z).st=2\/(s.b.q.os.getD i Od.O.z).st=3):¬((Cr.Cn s.rs s.rs.length).count (s.b.q.os.getD i Od.O.z).id:Int)=0:=by
 have M:∀st,(s.b.q.os.getD i Od.O.z).st=st->Cr.dK s.b.q ((i:Int)+1) st:=fun st e=>⟨⟨K1,K1⟩,by rw[show((i:Int)+1-1).toNat=i by omega];exact e⟩
 obtain⟨n,Q,Z⟩:=h.v.has ((i:Int)+1) (I.imp (M 2) (M 3));rw[h.oid hi];have h4:((i:Int)+1)∈Cr.Cn s.rs s.rs.length:=(Cr.Hr (bb _)).2 ⟨n,Q,Z⟩;have:=List.count_pos_iff.2 h4;omega
theorem Sh.ok.go{s:Sh}(h:s.ok)(I:0<=s.mv):(Cr.goal s.e s.b.q s.mv.toNat (Cr.at_ s.rs s.mv.toNat)).2=true/\((Cr.at_ s.rs s.mv.toNat).pl=(Cr.goal s.e s.b.q s.mv.toNat (Cr.at_ s.rs s.mv.toNat)).1\/(Cr.Lu s.rs s.rs.length).count (Cr.goal s.e s.b.q s.mv.toNat (Cr.at_ s.rs s.mv.toNat)).1=0)/\
  (Rt.ao s.g.q s.t (Cr.at_ s.rs s.mv.toNat).pl (Cr.goal s.e s.b.q s.mv.toNat (Cr.at_ s.rs s.mv.toNat)).1 s.tk).2=0/\(0<=(Cr.goal s.e s.b.q s.mv.toNat (Cr.at_ s.rs s.mv.toNat)).1/\(Cr.goal s.e s.b.q s.mv.toNat (Cr.at_ s.rs s.mv.toNat)).1<64):=by
 have hg:=h.v.go I;have ha:(Rt.ao s.g.q s.t (Cr.at_ s.rs s.mv.toNat).pl (Cr.goal s.e s.b.q s.mv.toNat (Cr.at_ s.rs s.mv.toNat)).1 s.tk).2=0:=hg.a;refine⟨hg.g,hg.f.imp id fun hf=>sM.2 fun I=>?_,ha,?_⟩
 ·obtain⟨j,M,Q⟩:=(Cr.Ib (bb _)).1 I;exact hf j M Q
 have Z:=(Rt.gH ha).1;have M:=Z.rb;have Q:=Rt.gj Z.c;omega
end E
namespace Cf
def Pf{g:C}{t:Int}(hc:check g=0)(h:ag g.ts t=true):dt g t=(true,0):=by
 have I:=Rt.dS h;grind [dt]
def Ns{g:C}{t:Int}(hc:check g=0)(h:(dt g t).2=0)(I:(dt g t).1=true):ag g.ts t=true:=by
 grind [dt]
end Cf
namespace Od
variable {b:B}{e:Int}{m:Cf.T}
theorem Se{o:O}{st now:Int}(h:fp o st now=.error e):e≠0:=by
 grind [fp]
theorem vo{id st now:Int}(h:move b id st now=.error e):e≠0:=by
 unfold move at h;split at h
 ·split at h
  ·cases h
  grind [Se]
 grind
def Eg(h:assign m b=.error e):e≠0:=by
 grind [assign,vo]
theorem uc:(∃x,assign m b=.ok x/\res (B.z,0) (assign m b)=(x,0))\/∃e,assign m b=.error e/\¬(res (B.z,0) (assign m b)).2=0:=by
 cases h:assign m b with
 |ok x=>exact .inl ⟨x,rfl,rfl⟩
 |error e=>exact .inr ⟨e,rfl,Eg h⟩
def DW(h:(res (B.z,0) (assign m b)).2=0):∃x,assign m b=.ok x/\res (B.z,0) (assign m b)=(x,0):=by
 grind [uc]
def KO(h:¬(res (B.z,0) (assign m b)).2=0):∃e,assign m b=.error e:=by
 grind [uc]
end Od
namespace Cr
open Od (O N B Ok)
variable {a1 a2 a3 a4 a5 e lf od p sl st t:Int}{b b2 bq:B}{du g:Bool}{k:Nat}{m:Cf.T}{r:R}{rs:List R}{w:W}
def BU{f:R->R}(hk:k<rs.length){a b c d:Int}(I:f (at_ rs k)=⟨a,b,c,d,e,g⟩):(fZ (upto f rs k)).set k ⟨a,b,c,d,e,g,(k:Int)⟩=fZ (upto f rs (k+1)):=by
 rw[KH f hk,I,<-Gg];rfl
theorem lF{a b c d:Int}:(fZ rs).set k ⟨a,b,c,d,e,g,(k:Int)⟩=fZ (rs.set k ⟨a,b,c,d,e,g⟩):=by rw[<-Gg];rfl
theorem wO(m:Cf.T)(b:B)(h:k<rs.length):at_ (callsN m b rs k).2 k=at_ rs k:=by
 have hl:(callsF m b (rs.take k)).2.length=k:=by rw[u9,take_len K1]
 rw[wI m b rs k K1];show((callsF m b (rs.take k)).2++rs.drop k).getD k R.z=rs.getD k R.z;grind
theorem xq(m:Cf.T)(k:Int)(b:B){i:Nat}(h:i<rs.length):at_ (aj m k b rs i).2.1 i=at_ rs i:=by
 have hl:(bl m k b (rs.take i)).2.1.length=i:=by rw[vT,take_len K1]
 rw[wL m k b rs i K1];show((bl m k b (rs.take i)).2.1++rs.drop i).getD i R.z=rs.getD i R.z;grind
def fg(hk:k<rs.length)(I:b2=(callsN m b rs k).1)(M:call1 m b2 (at_ rs k)=(bq,⟨a1,a2,a3,a4,a5,g⟩)):
  (fZ (callsN m b rs k).2).set k ⟨a1,a2,a3,a4,a5,g,(k:Int)⟩=fZ (callsN m b rs (k+1)).2/\bq=(callsN m b rs (k+1)).1:=by
 grind [callsN,wO,lF]
def uW(h:¬(r.st=0/\held r=false)):call1 m b r=(b,⟨r.pl,r.st,r.od,r.lf,r.sl,r.du⟩):=ae h
def rA(h:Od.assign m b=.error e):call1 m b r=(b,⟨r.pl,r.st,r.od,r.lf,r.sl,r.du⟩):=by
 unfold call1;rw[h];split<;>rfl
def rP{x:B×Int}(I:r.st=0)(M:held r=false)(h:Od.assign m b=.ok x):call1 m b r=(x.1,⟨r.pl,1,x.2,r.lf,r.sl,r.du⟩):=by
 unfold call1;rw[aa ⟨I,M⟩,h]
theorem uH(hk:k<rs.length)(I:b2=(aj m t b rs k).1){ds:bv}(M:cq m t b2 (at_ rs k)=(bq,⟨a1,a2,a3,a4,a5,g⟩,ds)):
  (fZ (aj m t b rs k).2.1).set k ⟨a1,a2,a3,a4,a5,g,(k:Int)⟩=fZ (aj m t b rs (k+1)).2.1/\bq=(aj m t b rs (k+1)).1/\(aj m t b rs k).2.2++ds=(aj m t b rs (k+1)).2.2:=by
 grind [aj,xq,lF]
def cH(hk:k<rs.length)(I:b2=(aj m t b rs k).1)(dn:bv)(M:cq m t b2 (at_ rs k)=(bq,⟨a1,a2,a3,a4,a5,g⟩,[])):
  (fZ (aj m t b rs k).2.1).set k ⟨a1,a2,a3,a4,a5,g,(k:Int)⟩=fZ (aj m t b rs (k+1)).2.1/\bq=(aj m t b rs (k+1)).1/\dn++(aj m t b rs k).2.2=dn++(aj m t b rs (k+1)).2.2:=by
 obtain⟨Q,Z,h3⟩:=uH hk I M;simp_all
def jQ(hk:k<rs.length)(I:b2=(aj m t b rs k).1)(dn:bv){x:Int}(M:cq m t b2 (at_ rs k)=(bq,⟨a1,a2,a3,a4,a5,g⟩,[x])):
  (fZ (aj m t b rs k).2.1).set k ⟨a1,a2,a3,a4,a5,g,(k:Int)⟩=fZ (aj m t b rs (k+1)).2.1/\bq=(aj m t b rs (k+1)).1/\dn++(aj m t b rs k).2.2++[x]=dn++(aj m t b rs (k+1)).2.2:=by
 grind [uH]
def pt(h:held r=true\/¬(r.st=3\/r.st=6)):cq m t b r=(b,⟨r.pl,r.st,r.od,r.lf,r.sl,r.du⟩,[]):=aa h
def vb{m:Cf.T}{t:Int}{b:B}(I:held r=false)(M:r.st=3\/r.st=6):¬(held r=true\/¬(r.st=3\/r.st=6)):=by rw[I];simp[M]
def Oo(I:held r=false)(M:r.st=3\/r.st=6)(Q:0<r.lf-1):cq m t b r=(b,⟨r.pl,r.st,r.od,r.lf-1,r.sl,r.du⟩,[]):=by
 grind [cq]
def SC(I:Ok m b)(M:held r=false)(Q:r.st=3)(Z:¬0<r.lf-1):cq m t b r=((Od.res B.z (Od.move b r.od 3 0)).1,⟨r.pl,r.st+1,r.od,r.lf-1,r.sl,r.du⟩,[]):=by
 grind [cq,Od.l7,Od.dN]
def Un(I:Ok m b)(M:held r=false)(Q:r.st=6)(Z:¬0<r.lf-1):cq m t b r=((Od.res B.z (Od.move b r.od 4 (t+1))).1,⟨r.pl,r.st+1,0,r.lf-1,r.sl,r.du⟩,[r.od]):=by
 grind [cq,Od.l7,Od.dN]
def wC:∀k,(aj m t b rs k).2.2.length<=k:=by
 intro k;induction k with
 |zero=>exact bb _
 |succ k I=>
  grind [aj,cq]
variable {e:Ev}
def HB(h:lP e t w k=false):best e t w (k+1)=best e t w k:=by
 show(if lP e t w k=true then _ else _)=_
 grind
def R8(h:¬(at_ w.rs k).st=7)(I:¬(at_ w.rs k).st=1)(M:¬(at_ w.rs k).st=4):lP e t w k=false:=by
 grind [lP]
def SY(h:free w.rs (goal e w.b k (at_ w.rs k)).1=false):lP e t w k=false:=by
 unfold lP;rw[h];simp
def U2(h:¬e.arr (at_ w.rs k).pl (goal e w.b k (at_ w.rs k)).1 t=0):lP e t w k=false:=by
 unfold lP;grind
def LZ(h:(at_ w.rs k).st=7\/(at_ w.rs k).st=1\/(at_ w.rs k).st=4)(I:free w.rs (goal e w.b k (at_ w.rs k)).1=true)(M:e.arr (at_ w.rs k).pl (goal e w.b k (at_ w.rs k)).1 t=0):lP e t w k=true:=by
 grind [lP]
def TC(hc:lP e t w k=true)(h:(best e t w k).1<0\/pK w k<(best e t w k).2):best e t w (k+1)=((k:Int),pK w k):=by
 grind [best]
def U0(hc:lP e t w k=true)(h:¬((best e t w k).1<0\/pK w k<(best e t w k).2)):best e t w (k+1)=best e t w k:=by
 grind [best]
def SK(n:Nat): -1<=(best e t w n).1/\(best e t w n).1<(n:Int):=by
 rcases Ga (e:=e) (k:=t) (w:=w) n with h|⟨i,h,I,_⟩<;>rw[h]<;>omega
def xB(h:w.mv<0)(I:0<=(best e t w w.rs.length).1)(M:held (at_ w.rs (best e t w w.rs.length).1.toNat)=false):
  (leaves e t w).rs=w.rs.set (best e t w w.rs.length).1.toNat ⟨(at_ w.rs (best e t w w.rs.length).1.toNat).pl,(at_ w.rs (best e t w w.rs.length).1.toNat).st+1,(at_ w.rs (best e t w w.rs.length).1.toNat).od,(at_ w.rs (best e t w w.rs.length).1.toNat).lf,(at_ w.rs (best e t w w.rs.length).1.toNat).sl,(at_ w.rs (best e t w w.rs.length).1.toNat).du⟩/\(leaves e t w).mv=(best e t w w.rs.length).1:=by
 grind [leaves]
def xt(h:w.mv<0)(I:¬(0<=(best e t w w.rs.length).1/\held (at_ w.rs (best e t w w.rs.length).1.toNat)=false)):leaves e t w=w:=by
 unfold leaves;grind
def vp(h:w.mv<0)(I:(best e t w w.rs.length).1<0):leaves e t w=w:=xt h fun M=>by omega
def uJ(h:w.mv<0)(I:held (at_ w.rs (best e t w w.rs.length).1.toNat)=true):leaves e t w=w:=xt h fun M=>by grind
def I3(h:w.mv<0):steps e t w=w:=aa (.inl h)
def Jn(h:held (at_ w.rs w.mv.toNat)=true):steps e t w=w:=aa (.inr h)
def aa7{e:Ev}{t:Int}(h:¬w.mv<0)(I:held (at_ w.rs w.mv.toNat)=false):¬(w.mv<0\/held (at_ w.rs w.mv.toNat)=true):=by rw[I];simp;omega
def Nr(h:¬w.mv<0)(I:held (at_ w.rs w.mv.toNat)=false)(M:dQ e t w.b w.mv.toNat (at_ w.rs w.mv.toNat)=⟨p,(at_ w.rs w.mv.toNat).st,(at_ w.rs w.mv.toNat).od,(at_ w.rs w.mv.toNat).lf,(at_ w.rs w.mv.toNat).sl,(at_ w.rs w.mv.toNat).du⟩)(hp:¬p=(goal e w.b w.mv.toNat (at_ w.rs w.mv.toNat)).1):
  (steps e t w).rs=w.rs.set w.mv.toNat ⟨p,(at_ w.rs w.mv.toNat).st,(at_ w.rs w.mv.toNat).od,(at_ w.rs w.mv.toNat).lf,(at_ w.rs w.mv.toNat).sl,(at_ w.rs w.mv.toNat).du⟩/\(steps e t w).mv=w.mv:=by
 grind [steps]
def uK(h:¬w.mv<0)(I:held (at_ w.rs w.mv.toNat)=false)(M:dQ e t w.b w.mv.toNat (at_ w.rs w.mv.toNat)=⟨p,(at_ w.rs w.mv.toNat).st,(at_ w.rs w.mv.toNat).od,(at_ w.rs w.mv.toNat).lf,(at_ w.rs w.mv.toNat).sl,(at_ w.rs w.mv.toNat).du⟩)(hp:p=(goal e w.b w.mv.toNat (at_ w.rs w.mv.toNat)).1):
  (steps e t w).rs=w.rs.set w.mv.toNat (dY e ⟨p,(at_ w.rs w.mv.toNat).st,(at_ w.rs w.mv.toNat).od,(at_ w.rs w.mv.toNat).lf,(at_ w.rs w.mv.toNat).sl,(at_ w.rs w.mv.toNat).du⟩)/\(steps e t w).mv= -1:=by
 grind [steps]
def Xx(h:st=2):dY e ⟨p,st,od,lf,sl,du⟩=⟨p,3,od,e.m.n1,sl,du⟩:=aa h
def YA(h:st=5):dY e ⟨p,st,od,lf,sl,du⟩=⟨p,6,od,e.m.n2,sl,du⟩:=by grind [dY]
def YJ(h:st=8):dY e ⟨p,st,od,lf,sl,du⟩=⟨p,0,od,lf,sl,du⟩:=by grind [dY]
end Cr
namespace E
def Sh.ok.lfr{s:Sh}(h:s.ok){k:Nat}(hk:k<s.rs.length):0<=(Cr.at_ s.rs k).lf/\(Cr.at_ s.rs k).lf<=8:=by
 have I:=Cr.nK h.bk.n;rcases h.fits hk with⟨a,b⟩|⟨a,b⟩|⟨a,b⟩|⟨a,b⟩|⟨a,b⟩|⟨a,b⟩|⟨a,b⟩|⟨a,b⟩|⟨a,b⟩<;>omega
section
variable{o:Oper}
variable {A:am}{cs:bi}{m:Nat}{ops:Array Oper}{rest:List Oper}{xs:List Cr.Hd}
def CW.curr{c:Code}{Et cc:Nat}{rs:List Cr.R}{H':List HP}(i k:Nat)(r:Cr.R)(hi:sel H i=some (HP.row Et 7 A m cc (fl Cr.Hd.cs (Cr.fZ rs)),H'))(hk:k<rs.length)(I:Cr.at_ rs k=r)(h:CW P n w0 F c K l (HP.row Et 7 A m cc (fl Cr.Hd.cs ((Cr.fZ rs).set k ⟨r.pl,r.st,r.od,r.lf,r.sl,r.du,(k:Int)⟩))::H')):CW P n w0 F c K l H:=by
 subst I;exact CW.WK i k hi hk h
def PV.RP{t:TypeId}{x:Operand}{k j:Nat}{a b c d e m':Int}{g:Bool}{v:Value}(I:∀w,HA w0 F H w->Rd w (Old w) A (fl Cr.Hd.cs (xs.set k ⟨a,b,c,d,e,g,m'⟩)))(ht:Na P t)(ho:o.op=.load t x)(M:ev l x=some (bB A (k*7+j)))(hk:k<xs.length)(Q:([.int .i64 a,.int .u8 b,.int .i64 c,.int .i64 d,.int .i64 e,.bool g,.int .i64 m']:bi)[j]? =some v):PV P n w0 F l H o v:=PV.Ps Cr.Hd.fx I ht ho M hk Q
def OW.ma{t:TypeId}{x y:Operand}{Et i cc k j:Nat}{v:Value}{vs:bi}{a b c d e m' a2 b2 c2 d2 e2 I:Int}{g M:Bool}{H':List HP}(Q:∀w,(sizeOf t).run P w=.ok vs.length w)(ho:o.op=.store t x y)(hg:gd ops l o.guard=some true)(hd:o.dst=none)(hx:ev l x=some (bB A (k*7+j)))(hy:ev l y=some v)(hc:v.cells=vs.toArray)(h1:vs.all (·.oneCell')=true)(hp:0<vs.length)(hi:sel H i=some (HP.row Et 7 A m cc (fl Cr.Hd.cs (xs.set k ⟨a,b,c,d,e,g,m'⟩)),H'))(Z:wr [.int .i64 a,.int .u8 b,.int .i64 c,.int .i64 d,.int .i64 e,.bool g,.int .i64 m'] j vs=some [.int .i64 a2,.int .u8 b2,.int .i64 c2,.int .i64 d2,.int .i64 e2,.bool M,.int .i64 I])(hk:k<xs.length)(k':OW P n w0 F ops K rest l (HP.row Et 7 A m cc (fl Cr.Hd.cs (xs.set k ⟨a2,b2,c2,d2,e2,M,I⟩))::H')):OW P n w0 F ops K (o::rest) l H:=
 OW.JB (u:=(⟨a,b,c,d,e,g,m'⟩:Cr.Hd)) (⟨a2,b2,c2,d2,e2,M,I⟩:Cr.Hd) Cr.Hd.fx Q ho hg hd hx hy hc h1 hp hi Z hk k'
variable {xs:bi}
def CW.fk{c:Code}{B:Nat}{M Q Z I:List HP}(s:Sh)(i j q d:Nat)(hi:sel H i=some (HP.aw B 342 cs,M))(hj:sel M j=some (HP.row 345 7 s.A m s.c xs,Q))(hq:sel Q q=some (HP.ro [(s.b.A1,fl Od.O.cs s.b.q.os),(s.b.A2,ints s.b.q.q)],Z))(hd:sel Z d=some (HP.row 3 1 s.A2 s.dn.length s.c2 (ints s.dn),I))(e0:m=s.rs.length)(e1:cs=s.cells)(e2:xs=fl Cr.Hd.cs (Cr.fZ s.rs))(k:CW P n w0 F c K l (HP.sh B s::I)):CW P n w0 F c K l H:=fun a w ha hw=>by
 subst e0 e1 e2
 have hp:=(an hi).trans (((an hj).trans (((an hq).trans ((an hd).cons _)).cons _)).cons _)
 have h1:HA w0 F ([HP.aw B 342 s.cells,HP.row 345 7 s.A s.rs.length s.c (fl Cr.Hd.cs (Cr.fZ s.rs)),HP.ro [(s.b.A1,fl Od.O.cs s.b.q.os),(s.b.A2,ints s.b.q.q)],HP.row 3 1 s.A2 s.dn.length s.c2 (ints s.dn)]++I) w:=hw.perm hp
 exact k a w ha h1.qS
def OW.fk{B:Nat}{M Q Z I:List HP}(s:Sh)(i j q d:Nat)(hi:sel H i=some (HP.aw B 342 cs,M))(hj:sel M j=some (HP.row 345 7 s.A m s.c xs,Q))(hq:sel Q q=some (HP.ro [(s.b.A1,fl Od.O.cs s.b.q.os),(s.b.A2,ints s.b.q.q)],Z))(hd:sel Z d=some (HP.row 3 1 s.A2 s.dn.length s.c2 (ints s.dn),I))(e0:m=s.rs.length)(e1:cs=s.cells)(e2:xs=fl Cr.Hd.cs (Cr.fZ s.rs))(k:OW P n w0 F ops K rest l (HP.sh B s::I)):OW P n w0 F ops K rest l H:=fun a w ha hw=>by
 subst e0 e1 e2
 have hp:=(an hi).trans (((an hj).trans (((an hq).trans ((an hd).cons _)).cons _)).cons _)
 have h1:HA w0 F ([HP.aw B 342 s.cells,HP.row 345 7 s.A s.rs.length s.c (fl Cr.Hd.cs (Cr.fZ s.rs)),HP.ro [(s.b.A1,fl Od.O.cs s.b.q.os),(s.b.A2,ints s.b.q.q)],HP.row 3 1 s.A2 s.dn.length s.c2 (ints s.dn)]++I) w:=hw.perm hp
 exact k a w ha h1.qS
end
end E
namespace E
section
variable{o:Oper}
variable {ops:Array Oper}{rest:List Oper}
def OW.U8{H':List HP}(hg:gd ops l o.guard=some true)(hd:o.dst=none)(h:∀a w,Ag n l a->HA w0 F H w->∃v w',(execOp a.eval o).run P w=.ok (.value v) w'/\HA w0 F H' w')(k:OW P n w0 F ops K rest l H'):OW P n w0 F ops K (o::rest) l H:=fun a w ha Q=>by
 refine wpListIn_step fun K' I=>?_
 rw[aa (ha.wanted hg)]
 obtain⟨v,w',Z,M⟩:=h a w ha Q
 refine lZ Z ?_
 rw[hd]
 exact I _ _ (k _ _ (ha.lW _) M)
theorem OW.clear{t Et i m c h bytes:Nat}{x:Operand}{A:am}{xs:bi}{H':List HP}(hT:P.underlying t=some (.slice Et))(hI:In P Et (.int .i64 0) 1 bytes)(ho:o.op=.call {callee:=.builtin .clear,args:= #[x],argTypes:= #[t]})(hg:gd ops l o.guard=some true)(hd:o.dst=none)(hx:ev l x=some (.slice (fu A c h) (m-h) (c-h)))(hi:sel H i=some (HP.row Et 1 A m c xs,H'))(hh:h<=m)(k:OW P n w0 F ops K rest l (HP.row Et 1 A m c (xs.take h++List.replicate (m-h) (.int .i64 0))::H')):OW P n w0 F ops K (o::rest) l H:=
 OW.U8 hg hd (H':=HP.row Et 1 A m c (xs.take h++List.replicate (m-h) (.int .i64 0))::H') (fun a w ha hw=>by
  have I:=hw.row hi
  have hxl:xs.length=m:=by have:=I.1;simpa using this
  by_cases hm:m-h=0
  ·refine⟨.tuple #[],w,?_,?_⟩
   ·rw[hm] at hx
    have:(Builtin.clear_ #[t] o.type #[.slice (fu A c h) 0 (c-h)]).run P w=.ok (.tuple #[]) w:=by
     unfold Builtin.clear_;cases fu A c h<;>simp[run_underlying hT]
    simp[execOp,ho,resolve,invoke,builtin,ha.ev hx,this]
   ·rw[hm,tv,bp,bU K1];exact hw.sel hi
  ·rcases I.2 with⟨hv,hm0⟩|⟨g,cap,cur,hv,_,Q,hnc,Z,wj,htk⟩
   ·omega
   injection hv with hA _ hcc
   subst hA hcc
   have hsub:fu (some ⟨g,0,.none⟩) c h=some ⟨g,h,.none⟩:=by
    grind [fu,Addr.add]
   rw[hsub] at hx;have M:=run_storeCells_at P g h Et (List.replicate (m-h) (.int .i64 0)) 0 cur w Q (by simp;omega) (fun u hu=>by rw[vn hu];rfl)
   have hzr:=hI.zr
   have hz:Builtin.zeroCells (Value.int .i64 0).cells (m-h)=(List.replicate (m-h) (.int .i64 0)).toArray:=by
    apply Array.ext
    ·simp[Builtin.zeroCells,Value.cells]
    grind [Builtin.zeroCells,Value.cells]
   refine⟨.tuple #[],w.setRow g (cur.toList.take h++List.replicate (m-h) (Value.int .i64 0)++cur.toList.drop (h+(m-h))).toArray,?_,?_⟩
   ·obtain⟨k',hk'⟩:∃k',m-h=k'+1:=⟨m-h-1,K1⟩
    have:(Builtin.clear_ #[t] o.type #[.slice (some ⟨g,h,.none⟩) (m-h) (c-h)]).run P w=.ok (.tuple #[]) (w.setRow g (cur.toList.take h++List.replicate (m-h) (Value.int .i64 0)++cur.toList.drop (h+(m-h))).toArray):=by
     unfold Builtin.clear_;rw[hk'] at hz M⊢;simp at M;simp[run_underlying hT,hzr w,hz,M]
    simp[execOp,ho,resolve,invoke,builtin,ha.ev hx,this]
   refine(hw.sel hi).ox (A:=some ⟨g,0,.none⟩) (A':=some ⟨g,0,.none⟩) (m:=m) (m':=m) (c:=c) (c':=c) (xs:=xs) ?_ ?_ (.inl rfl)
   ·refine⟨rfl,rfl,rfl,by simp[World.setRow],fun k hk hne=>?_⟩
    grind [World.setRow,Value.ownBlock]
   refine⟨by simp;omega,.inr ⟨g,c,_,rfl,bF _,setRow_heap w g cur _ Et _ Q,hnc,Z,?_,?_⟩⟩
   ·grind
   grind [mj])
  k
end
end E
namespace Od
def dl(q:Int->Bool)(l:bv)(i:Nat):bv:=(l.take i).filter fun x=> !q x
variable {i:Nat}{q:Int->Bool}{r:bv}
def zt{l:bv}(h:i<l.length):dl q l (i+1)=dl q l i++(if q (l.getD i 0) then[] else[l.getD i 0]):=by
 grind [dl,List.take_add_one]
def Nw(q:Int->Bool)(l:bv)(i:Nat):(dl q l i).length<=i:=ic (ou ..) (by grind)
def OH(q:Int->Bool){l:bv}(h:l.length<=i):dl q l i=l.filter fun x=> !q x:=by unfold dl;rw[bU h]
def O5{l:bv}{j:Nat}(I:j<l.length)(h:∀i,i<j->q (l.getD i 0)=false)(M:q (l.getD j 0)=true):dl q l (j+1)=l.take j:=by
 rw[zt I,aa M,bp];grind [dl,List.filter_eq_self,List.getElem_of_mem]
def dr(q:Int->Bool)(l:bv)(i:Nat)(r:bv):Prop:=r.length=l.length/\r.take (dl q l i).length=dl q l i/\r.drop i=l.drop i
def OC{l:bv}(h:dr q l i r)(hi:i<l.length):r.getD i 0=l.getD i 0:=by
 obtain⟨M,_,I⟩:=h;have:=aq (fun x=>x.getD 0 0) I;grind
def GI{l:bv}(h:dr q l i r)(hi:i<l.length)(I:q (r.getD i 0)=false):dr q l (i+1) (r.set (dl q l i).length (r.getD i 0))/\(dl q l (i+1)).length=(dl q l i).length+1:=by
 have M:=OC h hi;rw[M] at I⊢;obtain⟨Q,h2,Z⟩:=h;have hd:dl q l (i+1)=dl q l i++[l.getD i 0]:=by rw[zt hi,I];rfl
 have hl:=Nw q l i;refine⟨⟨by simpa using Q,?_,?_⟩,by rw[hd];simp⟩
 ·grind [List.take_add_one,List.take_set_of_le]
 rw[List.drop_set_of_lt K1];have:=aq (List.drop 1) Z;simpa[List.drop_drop,Nat.add_comm] using this
def Gi{l:bv}(h:dr q l i r)(hi:i<l.length)(I:q (r.getD i 0)=true):dr q l (i+1) r/\dl q l (i+1)=dl q l i:=by
 rw[OC h hi] at I;obtain⟨M,Q,Z⟩:=h;have hd:dl q l (i+1)=dl q l i:=by rw[zt hi,I];simp
 refine⟨⟨M,by rw[hd];exact Q,?_⟩,hd⟩
 have:=aq (List.drop 1) Z;simpa[List.drop_drop,Nat.add_comm] using this
def Tt{l:bv}(h:¬Cf.idx q l= -1):∃k:Nat,k<l.length/\Cf.idx q l=k/\(∀j,j<k->q (l.getD j 0)=false)/\q (l.getD k 0)=true:=by
 grind [Cf.idx,List.findIdx?_eq_some_iff_getElem]
def wz{l:bv}(h:Cf.idx q l= -1):l.filter (fun x=> !q x)=l:=by
 grind [Cf.idx,List.filter_eq_self]
def PW{l:bv}{k:Nat}(hk:k<l.length)(h:∀j,j<k->q (l.getD j 0)=false)(M:q (l.getD k 0)=true):dr q l (k+1) l/\(dl q l (k+1)).length=k:=by
 have Q:=O5 hk h M;have I:(dl q l (k+1)).length=k:=by grind
 exact⟨⟨rfl,by rw[I,Q],rfl⟩,I⟩
def jW{os:List O}{k:Nat}(h:k<os.length):bR (os.take (k+1))=bR (os.take k)++(if(os.getD k O.z).st=1 then[(os.getD k O.z).id] else[]):=by
 grind [List.take_add_one,bR]
def k9(os:List O):(bR os).length<=os.length:=by grind [bR]
def vG(os:List O)(k:Nat):(bR (os.take k)).length<=os.length:=ic (k9 _) (by grind)
end Od
namespace Od
def O1{α:Type}{z:α}{m:Except Int α}(I:∀e,m=.error e->e≠0)(h:(res z m).2=0):m=.ok (res z m).1:=by
 cases m with
 |ok x=>rfl
 |error e=>exact absurd h (I e rfl)
def NP{α:Type}{z:α}{m:Except Int α}(h:¬(res z m).2=0):m=.error (res z m).2:=by
 cases m with
 |ok x=>exact absurd rfl h
 |error e=>rfl
variable {e now:Int}
def Y5{c:N}{w q:Int}(h:Ln c w q now=.error e):e≠0:=by
 unfold Ln at h;grind
def JC{c:N}{w q:Int}(h:taken c w q now=.error e):e≠0:=by
 unfold taken at h;split at h
 ·grind
 rename_i e2 I;injection h with h;rw[<-h];exact Y5 I
def z7{id p d:Int}(h:created id p d now=.error e):e≠0:=by
 unfold created at h;split at h
 ·cases h
 injection h with h;omega
def vS{m:Cf.T}{b:B}{p d:Int}(h:dH m b p d now=.error e):e≠0:=by
 unfold dH at h;split at h
 ·split at h
  ·split at h
   ·split at h
    ·split at h
     ·split at h
      ·cases h
      rename_i e2 I;injection h with h;rw[<-h];exact z7 I
     rename_i e2 I;injection h with h;rw[<-h];exact JC I
    injection h with h;omega
   injection h with h;omega
  injection h with h;omega
 rename_i M;injection h with h;rw[<-h];exact M
end Od
namespace Cr
def Hs{w:W}{n:Nat}(h:held (at_ w.rs n)=true):due w n=w:=aa h
def QY{w:W}{n:Nat}(h:held (at_ w.rs n)=false):due w n=⟨w.rs.set n ⟨(at_ w.rs n).pl,(at_ w.rs n).st,(at_ w.rs n).od,(at_ w.rs n).lf,(at_ w.rs n).sl,true⟩,w.b,w.mv⟩:=ae (by rw[h];simp)
def U4(w:W)(n:Nat):(due w n).rs.length=w.rs.length:=by
 unfold due;split
 ·rfl
 exact aM ..
end Cr
namespace E
abbrev eY(g:aP)(t:Int):Tm:=g.ts.getD t.toNat Tm.z
def jz(g:aP)(t:Int):(eY g t).q=Rt.bQ g.q t:=(aP.lz g t.toNat).symm
variable {A:am}{g:aP}{t:Int}
def Sh.GJ{tick:Int}{y:Cw}{A2:am}{c c2:Nat}{b2:Bk}{dn:bv}(M:Rt.fB g.q t)(Q:g.q.fit)(I:0<=tick/\tick<=Od.last)(Z:Cr.V (Cr.ev g.q t) tick y.q)(hb:b2.q=y.b.q):(Sh.mk g t (eY g t) tick y.rs A c b2 y.mv dn A2 c2).ok:=
 ⟨M,Q,jz g t,I,by
  show Cr.V (Cr.ev g.q t) tick ⟨y.rs,b2.q,y.mv⟩
  rw[hb];exact Z⟩
theorem Cw.small{tick:Int}{y:Cw}(hT:Rt.fB g.q t)(M:Cr.V (Cr.ev g.q t) tick y.q):y.rs.length<=3/\y.b.q.os.length<=64/\y.b.q.q.length<=64:=by
 have I:Od.Ok (Cr.ev g.q t).m y.b.q:=M.bk;have h1:=Cf.cz I.n;have h2:y.rs.length=(Cr.ev g.q t).m.h.length:=M.len;have h3:=I.l;have Q:=I.q;have Z:=Od.k9 y.b.q.os;rw[<-Q] at Z;omega
def gU(I:Rt.fB g.q t):0<=t/\t<(g.ts.length:Int):=by
 have M:=I.iF;have Q:=aP.eJ g;omega
def aP.rd.tm{w:World}{G:Nat->Prop}(h:g.rd w G)(I:Rt.fB g.q t):(eY g t).rd w G:=h.m _ (Tm.mem (by have:=gU I;omega))
def Ju(f:Nat):bi:=[.func (.func f) #[] #[]]
def My:Fx Ju 1:=⟨fun _=>rfl,fun x u I=>by simp[Ju] at I;rw[I];rfl,K1⟩
def XV(ps:List Nat):fl Ju ps=ps.map fun f=>Value.func (.func f) #[] #[]:=by
 induction ps with
 |nil=>rfl
 |cons p ps I=>simp only[fl,I,jj];rfl
def sI{w:World}{G:Nat->Prop}{c k m:Nat}{b:List Nat}(Q:Rd w G A (fl Ju b))(h:k+m<=b.length)(hc:b.length<=c):Rd w G (fu A c k) (fl Ju ((b.drop k).take m)):=fun Z=>by
 rw[XV] at*
 have hm:0<m:=by
  rcases tD m with e|e
  ·subst e;simp at Z
  exact e
 obtain⟨ad,rfl,hg,M⟩:=Q (by simp;omega)
 refine⟨ad.add (k*1),by simp[fu];intro e;omega,by rw[Addr.gq];exact hg,fun j u I=>?_⟩
 rw[Addr.ku];refine M _ u ?_;rw[zH,List.map_drop,List.getElem?_take,List.getElem?_drop] at I;rw[mF];split at I
 ·exact I
 cases I
structure Sh.At(g:aP)(t tick:Int)(w:Cr.W)(dn:bv)(s:Sh):Prop where
 eg:s.g=g
 et:s.t=t
 em:s.m=eY g t
 ek:s.tk=tick
 eq:s.q=w
 ed:s.dn=dn
theorem Sh.At.ok{g:aP}{t tick:Int}{w:Cr.W}{dn:bv}{s:Sh}(h:s.At g t tick w dn)(M:Rt.fB g.q t)(Q:g.q.fit)(I:0<=tick/\tick<=Od.last)(Z:Cr.V (Cr.ev g.q t) tick w):s.ok:=by
 obtain⟨h1,h2,h3,h4,h5,h6⟩:=h;subst h1 h2 h4 h5;exact⟨M,Q,by rw[h3];exact jz _ _,I,Z⟩
def bK.imp{P:Program}{f:Nat}{args:Array Value}{w0:World}{F:Nat->Prop}{R I:Value->List HP->Prop}(h:Calls P f args w0 (bK w0 F R))(hi:∀v Hn,R v Hn->I v Hn):Calls P f args w0 (bK w0 F I):=h.mono fun _ _ ⟨v,Hn,a,b,c⟩=>⟨v,Hn,a,hi v Hn b,c⟩
def gi{e:Cr.Ev}{k:Int}{w:Cr.W}(I:Cr.V e k w):w.rs.length<=3:=by
 have:=Cf.cz I.bk.n;have:=I.len;omega
section
variable{o:Oper}
def HA.aa2{w:World}(h:HA w0 F H w){B:Nat}{s:Sh}{i:Nat}{I:List HP}(hi:E.sel H i=some (HP.sh B s,I))(hg:s.g.rd w0 F)(M:s.m.rd w0 F):s.rd w (Old w) B:=by
 have Q:=(h.sel hi).Dm;exact Q.Co (i:=0) (j:=1) (k:=2) rfl rfl rfl hg M
def OW.open{ops:Array Oper}{I:List Oper}{ps H':List HP}(i:Nat)(hi:sel H i=some (HP.dj ps,H'))(k:OW P n w0 F ops K I l (ps++H')):OW P n w0 F ops K I l H:=fun a w ha M=>k a w ha (M.sel hi).Dm
def HA.sH{w:World}(h:HA w0 F H w){g:aP}(I:g.rd w0 F){S:Nat->Prop}(M:∀k,S k->k<w.heap.size/\¬F k):g.rd w (Fm w S):=⟨h.fD I.l M,h.fD I.s M,h.fD I.t M,fun m Q=>h.vD (I.m m Q) M⟩
end
end E
end
namespace Tr
open Cf (C ag)
open Cr (Ev W R ev V)
structure Cl where
 tk:Int
 pl:Int
 tn:Int
 rb:Int
 deriving DecidableEq
def Cl.z:Cl:=⟨0,0,0,0⟩
structure F where
 cs:List W
 cl:List Cl
 tk:Int
def kV(x:Cl):Bool:=decide (x.tk<=4611686018427389952)&&decide (0<=x.pl)&&decide (x.pl<64)&&decide (0<=x.tn)&&decide (x.tn<3)&&decide (0<=x.rb)&&decide (x.rb<3)
def lt(x y:Cl):Prop:=x.tk<y.tk\/(x.tk=y.tk/\x.pl<y.pl)
instance (x y:Cl):Decidable (lt x y):=by unfold lt;infer_instance
def taken(l:List Cl)(x:Cl):Bool:=(l.any fun y=>decide (y.tk=x.tk)&&decide (y.pl=x.pl))||l.any fun y=>decide (y.tk=x.tk)&&(decide (y.tn=x.tn)&&decide (y.rb=x.rb))
def put(l:List Cl)(x:Cl):List Cl:=if taken l x then l else l++[x]
def XS(l:List Cl)(i:Nat):Bool:=kV (l.getD i Cl.z)&&((decide (i=0)||decide (lt (l.getD (i-1) Cl.z) (l.getD i Cl.z)))&& !taken (l.take i) (l.getD i Cl.z))
def gQ(l:List Cl):Bool:=decide (l.length<=4096)&&(List.range l.length).all (XS l)
def has(l:List Cl)(t n:Int):Bool:=l.any fun x=>decide (x.tn=t)&&decide (x.rb=n)
def clFrom(t n:Int):Int->bv->List Cl
 |_,[]=>[]
 |k,p::r=>⟨k+1,p,t,n⟩::clFrom t n (k+1) r
def aB(e:Ev)(t k:Int)(w:W):List Cl:=
 if Cr.valid e k w=true/\0<=w.mv/\(Cr.goal e w.b w.mv.toNat (Cr.at_ w.rs w.mv.toNat)).2=true then
  (if(e.rt (Cr.at_ w.rs w.mv.toNat).pl (Cr.goal e w.b w.mv.toNat (Cr.at_ w.rs w.mv.toNat)).1 k).2=0 then clFrom t w.mv k (e.rt (Cr.at_ w.rs w.mv.toNat).pl (Cr.goal e w.b w.mv.toNat (Cr.at_ w.rs w.mv.toNat)).1 k).1.tail else[])
 else[]
def bare:W:=⟨[],Od.B.z,-1⟩
def ai(f:F)(t:Nat):W:=f.cs.getD t W.z
noncomputable def left(g:C)(f:F):Nat->Option Int
 |0=>some f.cl.length
 |t+1=>match left g f t with
  |none=>none
  |some n=>
   if ag g.ts (t:Int)=true then
    (if Cr.valid (ev g (t:Int)) f.tk (ai f t)=true then
     (if(ai f t).mv<0\/has f.cl (t:Int) (ai f t).mv=false then some n
      else if(aB (ev g (t:Int)) (t:Int) f.tk (ai f t)).all (fun x=>decide (x∈f.cl)) then some (n-(aB (ev g (t:Int)) (t:Int) f.tk (ai f t)).length) else none)
     else none)
   else if ai f t=bare then some n else none
noncomputable def check(g:C)(f:F):Int:=
 if Cf.check g=0 then
  (if f.cs.length=g.ts.length/\f.tk<=Od.last then(if gQ f.cl then(if left g f f.cs.length=some 0 then 0 else 8) else 8) else 8)
 else Cf.check g
def jM(e:Ev)(t k:Int)(w:W)(l:List Cl):List Cl:=
 if w.mv<0 then l
 else if 0<(Cr.at_ w.rs w.mv.toNat).sl then l.filter fun x=> !(decide (x.tn=t)&&decide (x.rb=w.mv))
 else if has l t w.mv then l
 else(aB e t k w).foldl put l
noncomputable def aT(g:C)(f:F):Nat->List W×List Cl×List (Int×Int)
 |0=>([],f.cl,[])
 |t+1=>
  if ag g.ts (t:Int)=true then
   ((aT g f t).1++[Cr.iI (ev g (t:Int)) f.tk (Cr.cx (ev g (t:Int)) f.tk (Cr.eD (ev g (t:Int)) f.tk (ai f t))).1],
    jM (ev g (t:Int)) (t:Int) f.tk (Cr.eD (ev g (t:Int)) f.tk (ai f t)) (aT g f t).2.1,
    (aT g f t).2.2++(Cr.cx (ev g (t:Int)) f.tk (Cr.eD (ev g (t:Int)) f.tk (ai f t))).2.map fun id=>((t:Int),id))
  else((aT g f t).1++[bare],(aT g f t).2.1,(aT g f t).2.2)
def ins(x:Cl):List Cl->List Cl
 |[]=>[x]
 |y::r=>if lt x y then x::y::r else y::ins x r
def sort(l:List Cl):List Cl:=l.foldr ins []
noncomputable def step(g:C)(f:F):F×List (Int×Int):=
 (⟨(aT g f f.cs.length).1,sort ((aT g f f.cs.length).2.1.filter fun x=> !decide (x.tk<=f.tk+1)),f.tk+1⟩,(aT g f f.cs.length).2.2)
def new(g:C):F:=⟨(List.range g.ts.length).map fun(t:Nat)=>if ag g.ts (t:Int)=true then Cr.new (Rt.bQ g (t:Int)) else bare,[],g.st⟩
theorem lt_irrefl(x:Cl):¬lt x x:=by unfold lt;omega
variable {e:Ev}{k t:Int}{w:W}{x:Cl}
theorem lt_trans{y z:Cl}(h:lt x y)(I:lt y z):lt x z:=by unfold lt at*;omega
theorem Ve{y:Cl}(h:¬(x.tk=y.tk/\x.pl=y.pl)):lt x y\/lt y x:=by unfold lt;omega
def zm(l:List Cl):Prop:=l.Pairwise lt
theorem zm.ext:∀{l m:List Cl},zm l->zm m->(∀x,x∈l↔x∈m)->l=m:=by
 intro l;induction l with
 |nil=>
  intro m _ _ h;cases m with
  |nil=>rfl
  |cons y r=>exact absurd ((h y).2 jy) bg
 |cons x l M=>
  intro m hl Q h;cases m with
  |nil=>exact absurd ((h x).1 jy) bg
  |cons y r=>
   obtain⟨h1,Z⟩:=jl.1 hl;obtain⟨h3,h4⟩:=jl.1 Q
   have I:x=y:=by
    rcases er.1 ((h x).1 jy) with e|e
    ·exact e
    grind [List.mem_cons_self,lt_trans,lt_irrefl]
   subst I;rw[M Z h4 fun z=>?_];grind [lt_irrefl]
def zm.nodup{l:List Cl}(h:zm l):l.Nodup:=h.imp fun I M=>by subst M;exact lt_irrefl _ I
theorem HK{z:Cl}:∀{l:List Cl},z∈ins x l↔z=x\/z∈l:=by
 intro l;induction l with
 |nil=>simp[ins]
 |cons y r I=>
  grind [ins]
theorem mo{z:Cl}:∀{l:List Cl},z∈sort l↔z∈l:=by
 intro l;induction l with
 |nil=>exact Iff.rfl
 |cons x r I=>grind [sort,HK]
theorem zm.ins{x:Cl}:∀{l:List Cl},zm l->(∀y,y∈l->¬(y.tk=x.tk/\y.pl=x.pl))->zm (ins x l):=by
 intro l;induction l with
 |nil=>intro _ _;exact List.pairwise_singleton _ _
 |cons y r M=>
  intro h hd;obtain⟨h1,Q⟩:=jl.1 h;unfold Tr.ins;split
  ·rename_i hl
   exact jl.2 ⟨fun z I=>by
    grind [lt_trans],h⟩
  rename_i hl;have Z:lt y x:=(Ve (hd y jy)).resolve_right hl
  exact jl.2 ⟨fun z I=>by
   grind [HK],M Q fun z I=>hd z (km _ I)⟩
def BJ(l:List Cl):Prop:=l.Pairwise fun x y=>¬(x.tk=y.tk/\x.pl=y.pl)
theorem oS:∀{l:List Cl},BJ l->zm (sort l):=by
 intro l;induction l with
 |nil=>intro _;exact List.Pairwise.nil
 |cons x r M=>
  intro h;obtain⟨Q,Z⟩:=jl.1 h;exact(M Z).ins fun y hy=>fun I=>Q y (mo.1 hy) ⟨I.1.symm,I.2.symm⟩
theorem ie{n:Int}:∀{r:bv} {k:Int},x∈clFrom t n k r↔∃i,i<r.length/\x=⟨k+1+(i:Int),r.getD i 0,t,n⟩:=by
 intro r;induction r with
 |nil=>intro k;simp[clFrom]
 |cons p r I=>
  intro k;show x∈_::_↔_;rw[er,I];constructor
  ·rintro(h|⟨i,M,Q⟩)
   ·exact⟨0,by simp,by rw[h];simp⟩
   exact⟨i+1,by simpa using M,by grind⟩
  grind
theorem tV(t n:Int):∀(r:bv) (k:Int),(clFrom t n k r).length=r.length:=by
 intro r;induction r with
 |nil=>intro k;rfl
 |cons p r I=>intro k;simp only[clFrom,bI,I]
def D9(t n:Int):∀(r:bv) (k:Int),zm (clFrom t n k r):=by
 intro r;induction r with
 |nil=>intro k;exact List.Pairwise.nil
 |cons p r I=>
  intro k;refine jl.2 ⟨fun y M=>?_,I (k+1)⟩;grind [ie,lt]
theorem mover(I:e.EZ)(hk:0<=k/\k<=Od.last)(v:V e k w)(M:0<=w.mv):∃p q r,p=(Cr.at_ w.rs w.mv.toNat).pl/\q=(Cr.goal e w.b w.mv.toNat (Cr.at_ w.rs w.mv.toNat)).1/\e.arr p q k=0/\e.rt p q k=(p::r,0)/\r.length<=1024/\(p=q->r=[])/\(p≠q->r≠[])/\
  (∀i,i<r.length->e.al (r.getD i 0) (k+1+(i:Int))=true/\0<=r.getD i 0/\r.getD i 0<64)/\∀t,aB e t k w=clFrom t w.mv k r:=by
 have hg:=v.go M;obtain⟨r,Q,Z,h3,h4,h5⟩:=I.yes _ _ k hk.1 hk.2 hg.a;grind [Cr.Go.a,aB,Cr.dv,Cr.Go.g]
theorem gw(h:w.mv<0):aB e t k w=[]:=ae fun I=>by omega
def ot(M:e.EZ)(hk:0<=k/\k<=Od.last)(v:V e k w)(I:x∈aB e t k w):x.tn=t/\x.rb=w.mv/\0<=w.mv/\(k<x.tk/\x.tk<=k+1024)/\(0<=x.pl/\x.pl<64)/\e.al x.pl x.tk=true:=by
 by_cases hm:0<=w.mv
 ·obtain⟨p,q,r,_,_,_,_,Z,_,_,h9,Q⟩:=mover M hk v hm;grind [ie]
 rw[gw K1] at I;cases I
def uZ(e:Ev)(t k:Int)(w:W):zm (aB e t k w):=by
 unfold aB;split
 ·split
  ·exact D9 _ _ _ _
  exact List.Pairwise.nil
 exact List.Pairwise.nil
def kW(I:e.EZ)(hk:0<=k/\k<=Od.last)(v:V e k w):(aB e t k w).length<=1024:=by
 grind [mover,tV,gw]
end Tr
namespace Tr
open Cf (C ag)
open Cr (Ev W R ev V)
def Pr(g:C)(t:Nat):Prop:=ag g.ts (t:Int)=true
variable {f:F}{g:C}{l:List Cl}{t:Nat}{x:Cl}
def iF(hc:Cf.check g=0)(h:Pr g t):Rt.fB g (t:Int):=⟨hc,h⟩
def jJ(h:Pr g t):t<g.ts.length:=by have:=(Rt.dS h).2;omega
noncomputable def own(g:C)(f:F)(t:Nat):List Cl:=aB (ev g (t:Int)) (t:Int) f.tk (ai f t)
structure FI(g:C)(f:F):Prop where
 c:f.cs.length=g.ts.length
 tk:0<=f.tk/\f.tk<=Od.last
 cr:∀t,Pr g t->V (ev g (t:Int)) f.tk (ai f t)
 ab:∀t:Nat,t<g.ts.length->¬Pr g t->ai f t=bare
 s:zm f.cl
 cl:∀x,x∈f.cl->∃t:Nat,Pr g t/\x∈own g f t
 all:∀t:Nat,Pr g t->(∃x,x∈f.cl/\x.tn=(t:Int))->∀y,y∈own g f t->y∈f.cl
theorem fL(hc:Cf.check g=0)(h:FI g f)(ht:Pr g t)(I:x∈own g f t):x.tn=(t:Int)/\x.rb=(ai f t).mv/\0<=(ai f t).mv/\(f.tk<x.tk/\x.tk<=f.tk+1024)/\(0<=x.pl/\x.pl<64)/\(Rt.allowed g (t:Int) x.pl x.tk).1=true:=
 ot (Cr.fy (iF hc ht)) h.tk (h.cr t ht) I
theorem qM(hc:Cf.check g=0)(h:FI g f)(I:x∈f.cl)(ht:x.tn=(t:Int)):Pr g t/\x∈own g f t:=by
 obtain⟨u,M,Q⟩:=h.cl x I;have Z:=(fL hc h M Q).1;grind
theorem apart{f f':F}{u:Nat}{y:Cl}(I:(Rt.allowed g (t:Int) x.pl x.tk).1=true)(M:(Rt.allowed g (u:Int) y.pl y.tk).1=true)(Q:x.tk=y.tk/\x.pl=y.pl):t=u:=by
 grind [Rt.WC]
def acd(hc:Cf.check g=0)(h:FI g f)(ht:Pr g t):(ai f t).mv<3:=by
 have v:=h.cr t ht;have I:=v.mv.2;have M:=v.len;have Q:=(iF hc ht).small.1.2;grind [ev]
theorem fC{t n:Int}:has l t n=true↔∃x,x∈l/\x.tn=t/\x.rb=n:=by
 grind [has]
def kn{α:Type}[DecidableEq α]{l m:List α}(h:l.Nodup)(hs:l⊆m):l.length<=m.length:=h.length_le_of_subset hs
def IZ(l:List Cl)(t:Nat):(l.filter fun x=> !decide (x.tn<(t:Int))).length=(l.filter fun x=>decide (x.tn=(t:Int))).length+(l.filter fun x=> !decide (x.tn<((t+1:Nat):Int))).length:=by
 induction l with
 |nil=>rfl
 |cons x l I=>
  grind
def Mj{m:List Cl}(hl:l.Nodup)(M:m.Nodup)(h:∀x,x∈l↔x∈m):l.length=m.length:=
 Nat.le_antisymm (kn hl fun x I=>(h x).1 I) (kn M fun x I=>(h x).2 I)
def oX(hc:Cf.check g=0)(h:FI g f):∀t,t<=f.cs.length->left g f t=some (((f.cl.filter fun x=> !decide (x.tn<(t:Int))).length:Nat):Int):=by
 intro t;induction t with
 |zero=>
  intro _
  have:(f.cl.filter fun x=> !decide (x.tn<((0:Nat):Int)))=f.cl:=by
   rw[lE];intro x M;obtain⟨u,h1,h2⟩:=h.cl x M;have:=(fL hc h h1 h2).1;simp;omega
  rw[this];rfl
 |succ t ih=>
  intro ht;have hsp:=IZ f.cl t;unfold left;rw[ih K1];by_cases hp:ag g.ts (t:Int)=true
  ·have v:=h.cr t hp;simp only[hp,if_true,Cr.dv.2 v];have hfil:∀x,x∈(f.cl.filter fun x=>decide (x.tn=(t:Int)))↔x∈f.cl/\x.tn=(t:Int):=fun x=>by simp
   by_cases hh:(ai f t).mv<0\/has f.cl (t:Int) (ai f t).mv=false
   ·rw[aa hh]
    have hnil:(f.cl.filter fun x=>decide (x.tn=(t:Int)))=[]:=by
     rw[ry];intro x M Q;have hxt':=bf Q;obtain⟨h1,h2⟩:=qM hc h M hxt';have h3:=fL hc h h1 h2;grind [fC]
    grind
   rw[ae hh]
   have hh':has f.cl (t:Int) (ai f t).mv=true:=by
    grind
   obtain⟨x,M,hx1,hx2⟩:=fC.1 hh';have I:=h.all t hp ⟨x,M,hx1⟩;have Z:((aB (ev g (t:Int)) (t:Int) f.tk (ai f t)).all fun x=>decide (x∈f.cl))=true:=aJ.2 fun y hy=>bu (I y hy);rw[aa Z]
   have hlen:(f.cl.filter fun x=>decide (x.tn=(t:Int))).length=(own g f t).length:=by
    refine Mj (h.s.nodup.filter _) (uZ _ _ _ _).nodup fun y=>?_;rw[hfil];constructor
    ·exact fun⟨h1,h2⟩=>(qM hc h h1 h2).2
    exact fun hy=>⟨I y hy,(fL hc h hp hy).1⟩
   have hlen':(aB (ev g (t:Int)) (t:Int) f.tk (ai f t)).length=(f.cl.filter fun x=>decide (x.tn=(t:Int))).length:=hlen.symm;rw[hlen'];congr 1;omega
  have hb:=h.ab t (by rw[<-h.c];omega) hp
  have hnil:(f.cl.filter fun x=>decide (x.tn=(t:Int)))=[]:=by
   rw[ry];intro x M Q;exact hp (qM hc h M (bf Q)).1
  grind
def TU{i:Nat}(h:i<l.length):l.getD i Cl.z∈l:=by
 grind
theorem Pd(h:zm l){i j:Nat}(I:i<j)(M:j<l.length):lt (l.getD i Cl.z) (l.getD j Cl.z):=by
 rw[aW,aC (show i<l.length by omega),aW,aC M]
 exact eI.1 h i j _ M I
theorem Mz(hc:Cf.check g=0)(h:FI g f)(ht:Pr g t){y:Cl}(I:x∈own g f t)(Z:y∈own g f t)(he:x.tk=y.tk):x=y:=by
 have M:=(fL hc h ht I).2.2.1;obtain⟨p,q,r,_,_,_,_,_,_,_,_,Q⟩:=mover (Cr.fy (iF hc ht)) h.tk (h.cr t ht) M;grind [own,ie]
def fI(hc:Cf.check g=0)(h:FI g f):gQ f.cl=true:=by
 unfold gQ;have h3:=Cf.dw (Cf.az hc).2.2.1;rw[ay,ax,aJ];constructor
 ·have I:f.cl⊆own g f 0++(own g f 1++own g f 2):=fun x Z=>by
   obtain⟨t,M,h2⟩:=h.cl x Z;have:=jJ M;grind
  have hle:=kn h.s.nodup I
  have hone:∀t,(own g f t).length<=1024:=fun t=>by
   by_cases hp:Pr g t
   ·exact kW (Cr.fy (iF hc hp)) h.tk (h.cr t hp)
   unfold own
   have:¬0<=(ai f t).mv\/¬Cr.valid (ev g (t:Int)) f.tk (ai f t)=true:=by
    by_cases hl:t<g.ts.length
    ·rw[h.ab t hl hp];exact .inl (by decide)
    refine .inr fun hv=>?_
    have hcr:ai f t=W.z:=by
     grind [ai,FI.c]
    have:=(Cr.dv.1 hv).mv.2;rw[hcr] at this;exact absurd this (by decide)
   grind [aB]
  grind
 intro i hi;have Q:=cu.1 hi;have Z:=TU Q;obtain⟨t,M,h2⟩:=h.cl _ Z;have h4:=fL hc h M h2;have h5:=jJ M;have h6:=acd hc h M;have h7:=h.tk;unfold Od.last at h7;unfold XS kV;simp only[ay,dI,ax,dG];refine⟨K1,?_,?_⟩
 ·grind [Pd,FI.s]
 unfold taken;rw[iQ,mO,mO]
 have hlt:∀y,y∈f.cl.take i->y∈f.cl/\lt y (f.cl.getD i Cl.z):=fun y hy=>by
  obtain⟨j,hj,rfl⟩:=eC hy;have hj':j<i/\j<f.cl.length:=by simp at hj;omega
  have:=Pd h.s hj'.1 Q;grind
 constructor
 ·grind [lt]
 intro y hy;obtain⟨q1,q2⟩:=hlt y hy;simp only[ay,ax];rintro⟨e1,e2,e3⟩;obtain⟨r1,r2⟩:=qM hc h q1 (t:=t) (by rw[e2];exact h4.1)
 grind [Mz,lt_irrefl]
def mn(hc:Cf.check g=0)(h:FI g f):check g f=0:=by
 unfold check;rw[aa hc,aa ⟨h.c,h.tk.2⟩,aa (fI hc h),aa];rw[oX hc h _ (bb _)]
 have:(f.cl.filter fun x=> !decide (x.tn<(f.cs.length:Int)))=[]:=by
  rw[ry];intro x M Q;obtain⟨t,I,Z⟩:=h.cl x M;have h3:=(fL hc h I Z).1;have h4:=jJ I;grind [FI.c]
 rw[this];rfl
end Tr
namespace Cr
open Od (O N B Ok)
variable {b:B}{e:Ev}{k:Int}{m:Cf.T}{r:R}
theorem Ec(n:Nat)(r':R):goal e (call1 m b r).1 n r'=goal e b n r':=by
 unfold call1;split
 ·split
  ·rename_i x I;exact(nO I).2.2.1.goal n r'
  rfl
 rfl
def Eu(h:¬r.st=0):(call1 m b r).2=r:=by
 unfold call1;grind
theorem CI(n:Nat)(r':R):∀{rs:List R} {b:B},goal e (callsF m b rs).1 n r'=goal e b n r':=by
 intro rs;induction rs with
 |nil=>intro b;rfl
 |cons r rs I=>intro b;grind [callsF,Ec]
def Ky:∀{rs:List R} {b:B} {n:Nat},¬(at_ rs n).st=0->at_ (callsF m b rs).2 n=at_ rs n:=by
 intro rs;induction rs with
 |nil=>intro b n h;rfl
 |cons r rs I=>
  intro b n h;cases n with
  |zero=>exact Eu h
  |succ n=>exact I (b:=(call1 m b r).1) h
def E2{n0:Nat}(Q:Ok e.m b)(n:Nat)(r':R)(Z:Fit e b n0 r)(hk:0<=k/\k<Od.last):goal e (cq e.m k b r).1 n r'=goal e b n r':=by
 unfold cq;split
 ·rfl
 rename_i hw;have hst:r.st=3\/r.st=6:=Decidable.byContradiction fun h=>hw (.inr h);split
 ·rfl
 split
 ·rename_i s
  have hi:dK b r.od 2:=by
   rcases Z with⟨t,q⟩|⟨t,q⟩|⟨t,q⟩|⟨t,q⟩|⟨t,q⟩|⟨t,q⟩|⟨t,q⟩|⟨t,q⟩|⟨t,q⟩
   any_goals (first|(rw[s] at t;simp at t;done)|skip)
   exact q.1
  obtain⟨b',I,_,M⟩:=jR Q (st:=3) (now:=0) hi K1 ⟨by decide,.inl (by decide)⟩
  rw[I];exact M.goal n r'
 rename_i s;have s6:r.st=6:=K1
 have hi:dK b r.od 3:=by
  rcases Z with⟨t,q⟩|⟨t,q⟩|⟨t,q⟩|⟨t,q⟩|⟨t,q⟩|⟨t,q⟩|⟨t,q⟩|⟨t,q⟩|⟨t,q⟩
  any_goals (first|(rw[s6] at t;simp at t;done)|skip)
  exact q.1
 obtain⟨b',I,_,M⟩:=jR Q (st:=4) (now:=k+1) hi K1 ⟨K1,.inr K1⟩;rw[I];exact M.goal n r'
def Cg{mv:Int}(hk:0<=k/\k<Od.last)(r':R)(n:Nat):∀{I pre:List R} {b:B},V e k ⟨pre++I,b,mv⟩->goal e (bl e.m k b I).1 n r'=goal e b n r':=by
 intro I;induction I with
 |nil=>intro pre b v;rfl
 |cons r I Q=>
  intro pre b v;have h:=vH hk v (n:=pre.length) (by simp)
  have M:=(v.rt pre.length (by simp)).fit
  simp only[Fg,yX] at h M;have Z:=Q (pre:=pre++[(cq e.m k b r).2.1]) (b:=(cq e.m k b r).1) (by grind)
  show goal e (bl e.m k (cq e.m k b r).1 I).1 n r'=_;rw[Z];exact E2 (r:=r) v.bk n r' M hk
def FF(h:¬(r.st=3\/r.st=6)):(cq m k b r).2.1=r:=by
 unfold cq;rw[aa (.inr h)]
def IW:∀{rs:List R} {b:B} {n:Nat},¬((at_ rs n).st=3\/(at_ rs n).st=6)->at_ (bl m k b rs).2.1 n=at_ rs n:=by
 intro rs;induction rs with
 |nil=>intro b n h;rfl
 |cons r rs I=>
  intro b n h;cases n with
  |zero=>exact FF h
  |succ n=>exact I (b:=(cq m k b r).1) h
theorem BH{w:W}(v:V e k w)(Z:0<=w.mv):(eD e k w).mv=w.mv/\(at_ (eD e k w).rs w.mv.toNat).pl=(at_ w.rs w.mv.toNat).pl/\goal e (eD e k w).b w.mv.toNat (at_ (eD e k w).rs w.mv.toNat)=goal e w.b w.mv.toNat (at_ w.rs w.mv.toNat):=by
 have I:w.mv.toNat<w.rs.length:=by have:=v.mv;omega
 have M:=(v.rt _ I).lg.2 K1;have hb:eD e k w=calls e (jB e w):=aa Z;have Q:at_ (jB e w).rs w.mv.toNat=bE e (at_ w.rs w.mv.toNat):=fz I;have hs:(bE e (at_ w.rs w.mv.toNat)).pl=(at_ w.rs w.mv.toNat).pl/\(bE e (at_ w.rs w.mv.toNat)).st=(at_ w.rs w.mv.toNat).st/\(bE e (at_ w.rs w.mv.toNat)).od=(at_ w.rs w.mv.toNat).od:=by unfold bE;grind
 have h2:at_ (callsF e.m w.b (jB e w).rs).2 w.mv.toNat=bE e (at_ w.rs w.mv.toNat):=by
  rw[Ky (by rw[Q,hs.2.1];omega),Q]
 rw[hb];refine⟨rfl,by show(at_ (callsF e.m w.b (jB e w).rs).2 w.mv.toNat).pl=_;rw[h2,hs.1],?_⟩
 show goal e (callsF e.m w.b (jB e w).rs).1 w.mv.toNat (at_ (callsF e.m w.b (jB e w).rs).2 w.mv.toNat)=_;grind [CI,goal]
def Nv(hk:0<=k/\k<Od.last){w:W}(v:V e k w)(Q:0<=w.mv):(cx e k w).1.mv=w.mv/\at_ (cx e k w).1.rs w.mv.toNat=at_ w.rs w.mv.toNat/\∀r,goal e (cx e k w).1.b w.mv.toNat r=goal e w.b w.mv.toNat r:=by
 have I:w.mv.toNat<w.rs.length:=by have:=v.mv;omega
 have M:=(v.rt _ I).lg.2 K1;exact⟨rfl,IW K1,fun r=>Cg (mv:=w.mv) hk r _ (pre:=[]) v⟩
end Cr
namespace Tr
open Cf (C ag)
open Cr (Ev W R ev V eD cx iI goal at_)
variable {k t:Int}
def yz{e:Ev}(I:e.ok)(M:e.EZ)(hk:0<=k/\k<=Od.last){w:W}(v:V e k w)(Q:0<=w.mv):aB e t k (eD e k w)=aB e t k w:=by
 grind [Cr.BH,mover,Cr.kF]
def fS(w:W):Prop:=0<=w.mv/\¬0<(at_ w.rs w.mv.toNat).sl
def Bz{e:Ev}(he:e.ok)(Z:e.EZ)(hk:0<=k/\k<Od.last){w:W}(v:V e k w)(hkp:fS w):∀x,x∈aB e t (k+1) (iI e k (cx e k w).1)↔x∈aB e t k w/\k+1<x.tk:=by
 obtain⟨hm,hsl⟩:=hkp;have v2:=Cr.kO hk v;have v3:=Cr.iv he hk v2;obtain⟨q1,q2,q3⟩:=Cr.Nv hk v hm;obtain⟨p,q,r,e1,e2,e3,e4,_,e5,e6,e7,e9⟩:=mover Z ⟨hk.1,K1⟩ v hm;obtain⟨n,hn⟩:∃n,w.mv.toNat=n:=⟨_,rfl⟩;rw[hn] at q2 q3 e1 e2 hsl;generalize hw2:(cx e k w).1=w2 at*;have hl2:n<w2.rs.length:=by have:=v2.mv;omega
 have hn2:w2.mv.toNat=n:=by rw[q1];exact hn
 have I:Cr.steps e k w2=if(Cr.dQ e k w2.b n (at_ w2.rs n)).pl=(goal e w2.b n (at_ w2.rs n)).1 then{w2 with mv:= -1,rs:=w2.rs.set n (Cr.dY e (Cr.dQ e k w2.b n (at_ w2.rs n)))} else{w2 with rs:=w2.rs.set n (Cr.dQ e k w2.b n (at_ w2.rs n))}:=by
  grind [Cr.steps,Cr.ju]
 rw[q2,q3,<-e2] at I
 have Q:Cr.dQ e k w2.b n (at_ w.rs n)=if(e.next p q k).2=0 then{at_ w.rs n with pl:=(e.next p q k).1} else at_ w.rs n:=by
  unfold Cr.dQ;rw[q3,<-e2,<-e1]
 intro x;rw[e9];cases r with
 |nil=>
  have hpq:p=q:=Decidable.byContradiction fun h=>e6 h rfl;subst hpq;rw[ae (he.stop p k)] at Q;rw[Q,aa e1.symm] at I;have:(iI e k w2).mv= -1:=by show(Cr.steps e k w2).mv= -1;rw[I]
  rw[gw (by rw[this];decide)]
  constructor
  ·intro h;cases h
  intro h;exact absurd h.1 bg
 |cons y r=>
  obtain⟨f1,f2⟩:=Z.tl p q k y r hk.1 hk.2 e4;rw[f1,aa rfl] at Q;have hne:p≠q:=fun h=>by have:=e5 h;cases this
  by_cases hyq:y=q
  ·rw[Q,aa hyq] at I;have M:(iI e k w2).mv= -1:=by show(Cr.steps e k w2).mv= -1;rw[I]
   have hr0:r=[]:=by
    have ha:e.arr y q (k+1)=0:=Decidable.byContradiction fun h=>Z.no _ _ _ h (by rw[f2])
    obtain⟨r2,g1,_,g3,_⟩:=Z.yes y q (k+1) K1 K1 ha;grind
   grind [gw,clFrom]
  rw[Q,ae hyq] at I;have M:(iI e k w2).mv=w.mv:=by show(Cr.steps e k w2).mv=w.mv;rw[I];exact q1
  have hat:at_ (iI e k w2).rs n=Cr.cA {at_ w.rs n with pl:=y}:=by
   show at_ ((Cr.steps e k w2).rs.map Cr.cA) n=_;grind [Cr.fz,Cr.gl]
  have hps:∀r0:R,(Cr.cA r0).pl=r0.pl/\(∀b,goal e b n (Cr.cA r0)=goal e b n r0):=fun r0=>by
   unfold Cr.cA;split<;>exact⟨rfl,fun _=>rfl⟩
  have hbb:(iI e k w2).b=w2.b:=by show(Cr.steps e k w2).b=w2.b;rw[I]
  obtain⟨p',q',r',g1,g2,_,g4,_,_,_,_,g9⟩:=mover Z ⟨K1,K1⟩ v3 (by rw[M];exact hm)
  rw[M,hn,hat,(hps _).1] at g1;rw[M,hn,hat,(hps _).2,hbb,Cr.xP,q3,<-e2] at g2;have g1':p'=y:=g1;rw[g1',g2,f2] at g4;have hr':r'=r:=by grind
  subst hr';rw[g9,M];show x∈_↔x∈(⟨k+1,y,t,w.mv⟩::clFrom t w.mv (k+1) r')/\_;grind [ie]
def Kz{l:List Cl}:∀{c:List Cl} {l:List Cl},(∀x,x∈c->taken l x=false)->(c.Pairwise fun x y=>¬(x.tk=y.tk))->c.foldl put l=l++c:=by
 intro c;induction c with
 |nil=>intro l _ _;simp
 |cons x c I=>
  grind [put,taken]
def zn{e:Ev}{w:W}:(aB e t k w).Pairwise fun x y=>¬(x.tk=y.tk):=by
 have key:∀(n:Int) (r:bv) (k:Int),(clFrom t n k r).Pairwise fun x y=>¬(x.tk=y.tk):=by
  intro n r;induction r with
  |nil=>intro k;exact List.Pairwise.nil
  |cons p r I=>
   intro k;refine jl.2 ⟨fun y M=>?_,I (k+1)⟩;grind [ie]
 unfold aB;split
 ·split
  ·exact key _ _ _
  simp_all
 simp_all
end Tr
namespace Tr
open Cf (C ag)
open Cr (Ev W R ev V eD cx iI goal at_)
noncomputable def w1(g:C)(f:F)(t:Nat):W:=eD (ev g (t:Int)) f.tk (ai f t)
noncomputable def IP(g:C)(f:F)(t:Nat):List Cl:=aB (ev g (t:Int)) (t:Int) f.tk (w1 g f t)
def K(g:C)(f:F)(t:Nat):Prop:=Pr g t/\fS (w1 g f t)
variable {f:F}{g:C}{t:Nat}
def Mq(hc:Cf.check g=0)(h:FI g f)(ht:Pr g t):V (ev g (t:Int)) f.tk (w1 g f t):=Cr.kF (Cr.iX (iF hc ht)) (h.cr t ht)
theorem jO(hc:Cf.check g=0)(h:FI g f)(ht:Pr g t){x:Cl}(I:x∈IP g f t):x.tn=(t:Int)/\x.rb=(w1 g f t).mv/\0<=(w1 g f t).mv/\(f.tk<x.tk/\x.tk<=f.tk+1024)/\(0<=x.pl/\x.pl<64)/\(Rt.allowed g (t:Int) x.pl x.tk).1=true:=
 ot (Cr.fy (iF hc ht)) h.tk (Mq hc h ht) I
theorem OE(hc:Cf.check g=0)(h:FI g f)(ht:Pr g t)(I:0<=(ai f t).mv):(w1 g f t).mv=(ai f t).mv/\IP g f t=own g f t:=
 ⟨(Cr.BH (h.cr t ht) I).1,yz (Cr.iX (iF hc ht)) (Cr.fy (iF hc ht)) h.tk (h.cr t ht) I⟩
def LG(hc:Cf.check g=0)(h:FI g f)(ht:Pr g t){l:List Cl}(hd:BJ l)(hl:∀x,x∈l↔(x∈f.cl/\(t:Int)<=x.tn)\/∃u:Nat,u<t/\K g f u/\x∈IP g f u):
  (∀x,x∈jM (ev g (t:Int)) (t:Int) f.tk (w1 g f t) l↔(x∈f.cl/\((t+1:Nat):Int)<=x.tn)\/∃u:Nat,u<t+1/\K g f u/\x∈IP g f u)/\BJ (jM (ev g (t:Int)) (t:Int) f.tk (w1 g f t) l):=by
 have hal:∀x,x∈l->∃u:Nat,x.tn=(u:Int)/\(Rt.allowed g (u:Int) x.pl x.tk).1=true:=fun x M=>by
  rcases(hl x).1 M with h1|⟨u,_,Z,Q⟩
  ·obtain⟨u,Z,Q⟩:=h.cl x h1.1;have:=fL hc h Z Q;grind
  have:=jO hc h Z.1 Q;grind
 have hlt:∀x,x∈l->x.tn=(t:Int)->x∈f.cl/\x∈own g f t/\0<=(ai f t).mv/\x.rb=(w1 g f t).mv:=fun x M he=>by
  rcases(hl x).1 M with h1|⟨u,h1,Z,Q⟩
  ·grind [qM,fL,OE]
  have:=(jO hc h Z.1 Q).1;omega
 have hsame:(∀x,x∈l->x.tn≠(t:Int))->¬K g f t->∀x,x∈l↔(x∈f.cl/\((t+1:Nat):Int)<=x.tn)\/∃u:Nat,u<t+1/\K g f u/\x∈IP g f u:=fun hn hk x=>by
  grind
 unfold jM;by_cases hmv:(w1 g f t).mv<0
 ·rw[aa hmv];refine⟨hsame (fun x M he=>?_) (fun hk=>by have:=hk.2.1;omega),hd⟩
  grind [OE]
 rw[ae hmv];by_cases hsl:0<(at_ (w1 g f t).rs (w1 g f t).mv.toNat).sl
 ·rw[aa hsl];have hnk:¬K g f t:=fun hk=>hk.2.2 hsl;refine⟨fun x=>?_,List.Pairwise.filter _ hd⟩;rw[gN];simp only[dG,lp,decide_eq_false_iff_not];constructor
  ·grind
  rintro(h1|⟨u,h1,Z,Q⟩)
  ·exact⟨(hl x).2 (.inl ⟨h1.1,K1⟩),.inl K1⟩
  have hu:u≠t:=fun e=>hnk (e▸Z);have h4:=(jO hc h Z.1 Q).1;grind
 rw[ae hsl];have hk:K g f t:=⟨ht,K1,hsl⟩;by_cases hh:has l (t:Int) (w1 g f t).mv=true
 ·rw[aa hh];obtain⟨y,hy,hy1,hy2⟩:=fC.1 hh;obtain⟨h1,Z,Q,_⟩:=hlt y hy hy1;have hall:=h.all t ht ⟨y,h1,hy1⟩;have he:=(OE hc h ht Q).2;refine⟨fun x=>?_,hd⟩;constructor
  ·intro M;grind
  rintro(h4|⟨u,h4,h5,h6⟩)
  ·exact(hl x).2 (.inl ⟨h4.1,K1⟩)
  by_cases hu:u=t
  ·subst hu;rw[he] at h6;exact(hl x).2 (.inl ⟨hall x h6,by have:=(fL hc h ht h6).1;omega⟩)
  grind
 rw[ae hh];have hno:∀x,x∈l->x.tn≠(t:Int):=fun x M he=>hh (fC.2 ⟨x,M,he,(hlt x M he).2.2.2⟩)
 have I:∀x,x∈l->∀y,y∈IP g f t->¬(x.tk=y.tk/\x.pl=y.pl):=fun x M y hy he=>by
  obtain⟨u,h1,Z⟩:=hal x M;have Q:=jO hc h ht hy;have:=apart (f:=f) (f':=f) (t:=u) (u:=t) Z Q.2.2.2.2.2 he;grind
 have hput:(aB (ev g (t:Int)) (t:Int) f.tk (w1 g f t)).foldl put l=l++IP g f t:=Kz (l:=l) (fun y hy=>by
  unfold taken;rw[iQ,mO,mO];have Q:=jO hc h ht hy;constructor
  ·intro x M;have:=I x M y hy;simpa using this
  grind) zn
 rw[hput];refine⟨fun x=>?_,?_⟩
 ·grind
 refine List.pairwise_append.2 ⟨hd,(uZ _ _ _ _).imp fun hlt2 he=>?_,I⟩;unfold lt at hlt2;omega
def IY(hc:Cf.check g=0)(h:FI g f):∀t,t<=g.ts.length->(∀x,x∈(aT g f t).2.1↔(x∈f.cl/\(t:Int)<=x.tn)\/∃u:Nat,u<t/\K g f u/\x∈IP g f u)/\BJ (aT g f t).2.1:=by
 intro t;induction t with
 |zero=>
  intro _;refine⟨fun x=>⟨fun hx=>.inl ⟨hx,?_⟩,?_⟩,h.s.imp fun Z he=>by unfold lt at Z;omega⟩
  ·obtain⟨u,I,Q⟩:=h.cl x hx;have:=(fL hc h I Q).1;omega
  rintro(I|⟨u,I,_⟩)
  ·exact I.1
  omega
 |succ t ih=>
  intro ht;obtain⟨I,Q⟩:=ih K1;unfold aT;by_cases hp:ag g.ts (t:Int)=true
  ·rw[aa hp];exact LG hc h hp Q I
  rw[ae hp];refine⟨fun x=>?_,Q⟩;show x∈(aT g f t).2.1↔_;rw[I];constructor
  ·rintro(M|⟨u,M,h4,h5⟩)
   ·refine .inl ⟨M.1,?_⟩;have:x.tn≠(t:Int):=fun he=>hp (qM hc h M.1 he).1;omega
   grind
  rintro(M|⟨u,M,h4,h5⟩)
  ·exact .inl ⟨M.1,K1⟩
  have:u≠t:=fun e=>hp (e▸h4.1);grind
noncomputable def w3(g:C)(f:F)(t:Nat):W:=iI (ev g (t:Int)) f.tk (cx (ev g (t:Int)) f.tk (w1 g f t)).1
def nu(g:C)(f:F):∀t,(aT g f t).1.length=t:=by
 intro t;induction t with
 |zero=>rfl
 |succ t I=>
  grind [aT]
open Classical in
def EI(g:C)(f:F):∀t u,u<t->(aT g f t).1.getD u W.z=if Pr g u then w3 g f u else bare:=by
 intro t;induction t with
 |zero=>intro u I;omega
 |succ t M=>
  intro u I;have hl:=nu g f t
  have key:∀x:W,((aT g f t).1++[x]).getD u W.z=if u<t then(aT g f t).1.getD u W.z else x:=fun x=>by
   grind
  unfold aT;by_cases hp:ag g.ts (t:Int)=true
  ·rw[aa hp];show((aT g f t).1++[_]).getD u W.z=_;rw[key];by_cases h1:u<t
   ·grind
   have:u=t:=K1;subst this;rw[ae h1,aa (show Pr g u from hp)];rfl
  grind [Pr]
def xT(hc:Cf.check g=0)(h:FI g f):zm (step g f).1.cl/\∀x,x∈(step g f).1.cl↔∃u:Nat,K g f u/\x∈IP g f u/\f.tk+1<x.tk:=by
 obtain⟨Z,h2⟩:=IY hc h f.cs.length (by rw[h.c];omega)
 refine⟨oS (List.Pairwise.filter _ h2),fun x=>?_⟩;show x∈sort _↔_;rw[mo,gN,Z];simp only[dG,decide_eq_false_iff_not,Int.not_le];constructor
 ·rintro⟨h3|⟨u,_,I,M⟩,Q⟩
  ·obtain⟨u,I,M⟩:=h.cl x h3.1;have:=(fL hc h I M).1;have:=jJ I;have:=h.c;omega
  exact⟨u,I,M,Q⟩
 rintro⟨u,I,M,Q⟩;exact⟨.inr ⟨u,by have:=jJ I.1;have:=h.c;omega,I,M⟩,Q⟩
open Classical in
theorem kQ{u:Nat}(I:u<f.cs.length):ai (step g f).1 u=if Pr g u then w3 g f u else bare:=EI g f _ u I
def aaX(hc:Cf.check g=0)(h:FI g f)(hk:f.tk<Od.last)(ht:Pr g t):V (ev g (t:Int)) (f.tk+1) (w3 g f t):=
 Cr.iv (Cr.iX (iF hc ht)) ⟨h.tk.1,hk⟩ (Cr.kO ⟨h.tk.1,hk⟩ (Mq hc h ht))
theorem BY(hc:Cf.check g=0)(h:FI g f)(hk:f.tk<Od.last)(ht:K g f t)(x:Cl):x∈own g (step g f).1 t↔x∈IP g f t/\f.tk+1<x.tk:=by
 have I:t<f.cs.length:=by have:=jJ ht.1;have:=h.c;omega
 unfold own;rw[kQ I,aa ht.1];exact Bz (Cr.iX (iF hc ht.1)) (Cr.fy (iF hc ht.1)) ⟨h.tk.1,hk⟩ (Mq hc h ht.1) ht.2 x
theorem FI.step{g:C}{f:F}(hc:Cf.check g=0)(h:FI g f)(hk:f.tk<Od.last):FI g (step g f).1:=by
 obtain⟨hs,hm⟩:=xT hc h;have hl:(Tr.step g f).1.cs.length=f.cs.length:=nu g f _;have I:∀t,t<g.ts.length->t<f.cs.length:=fun t ht=>by rw[h.c];exact ht
 refine⟨hl.trans h.c,⟨by show 0<=f.tk+1;have:=h.tk;omega,by show f.tk+1<=Od.last;omega⟩,fun t ht=>?_,fun t ht hn=>?_,hs,fun x Q=>?_,fun t ht Q y hy=>?_⟩
 ·rw[kQ (I t (jJ ht)),aa ht];exact aaX hc h hk ht
 ·rw[kQ (I t ht),ae hn]
 ·obtain⟨u,M,Z,h3⟩:=(hm x).1 Q;exact⟨u,M.1,(BY hc h hk M x).2 ⟨Z,h3⟩⟩
 obtain⟨x,hx1,hx2⟩:=Q;obtain⟨u,M,Z,h3⟩:=(hm x).1 hx1;have h4:=(jO hc h M.1 Z).1;grind [BY]
def bL(f:F)(t:Nat)(w:W):F:={f with cs:=f.cs.set t w}
theorem FI.set{g:C}{f:F}(hc:Cf.check g=0)(h:FI g f){t:Nat}(ht:Pr g t){w:W}(v:V (ev g (t:Int)) f.tk w)(ho:aB (ev g (t:Int)) (t:Int) f.tk w=own g f t):FI g (bL f t w):=by
 have Z:t<f.cs.length:=by have:=jJ ht;have:=h.c;omega
 have I:∀u,ai (bL f t w) u=if t=u then w else ai f u:=fun u=>Od.fY Z
 have M:∀u,own g (bL f t w) u=own g f u:=fun u=>by
  unfold own;rw[I];split
  ·rename_i e;subst e;exact ho
  rfl
 refine⟨by show(f.cs.set t w).length=_;rw[aM];exact h.c,h.tk,fun u Q=>?_,fun u Q hn=>?_,h.s,fun x hx=>?_,fun u Q hx y hy=>?_⟩
 ·rw[I];split
  ·rename_i e;subst e;exact v
  exact h.cr u Q
 ·have hne:¬t=u:=fun e=>hn (e▸ht);rw[I,ae hne];exact h.ab u Q hn
 ·obtain⟨u,h1,h2⟩:=h.cl x hx;grind
 rw[M] at hy;exact h.all u Q hx y hy
def lU{e:Ev}(I:e.EZ){t k:Int}(hk:0<=k/\k<=Od.last){w w':W}(v:V e k w)(M:V e k w')(Q:w'.mv=w.mv)(hp:0<=w.mv->(at_ w'.rs w.mv.toNat).pl=(at_ w.rs w.mv.toNat).pl/\(goal e w'.b w.mv.toNat (at_ w'.rs w.mv.toNat)).1=(goal e w.b w.mv.toNat (at_ w.rs w.mv.toNat)).1):aB e t k w'=aB e t k w:=by
 grind [mover,gw]
theorem FI.new{g:C}(hc:Cf.check g=0)(I:0<=g.st/\g.st<=Od.last):FI g (new g):=by
 have hl:(Tr.new g).cs.length=g.ts.length:=by simp[Tr.new]
 have M:∀t,t<g.ts.length->ai (Tr.new g) t=if ag g.ts (t:Int)=true then Cr.new (Rt.bQ g (t:Int)) else bare:=fun t ht=>by
  grind [ai,Tr.new]
 refine⟨hl,I,fun t ht=>?_,fun t ht Z=>?_,List.Pairwise.nil,fun x Q=>absurd Q bg,fun t ht Q=>?_⟩
 ·rw[M t (jJ ht),aa (show ag g.ts (t:Int)=true from ht)];exact Cr.WL (Cr.iX (iF hc ht)) I (Cr.Tj (iF hc ht))
 ·rw[M t ht,ae (show¬ag g.ts (t:Int)=true from Z)]
 obtain⟨x,Q,_⟩:=Q;exact absurd Q bg
end Tr
namespace Tr
open Cf (C ag)
open Cr (Ev W R ev V eD cx iI goal at_)
variable {e:Ev}{k t:Int}{w:W}
def Mr(v:V e k w){b':Od.B}{pick drop:Int}(h0:0<=k)(h:Od.dH e.m w.b pick drop k=.ok b'){n:Nat}(hn:n<w.rs.length):(goal e b' n (at_ w.rs n))=(goal e w.b n (at_ w.rs n)):=by
 obtain⟨_,_,o,nn,_,h4⟩:=Od.ji h0 h;have hl:b'.os.length=w.b.os.length+1:=by rw[h4];simp
 have I:∀i,i<w.b.os.length->b'.os.getD i Od.O.z=w.b.os.getD i Od.O.z:=fun i hi=>by
  grind
 rcases Cr.zI (v.rt n hn).fit with M|M
 ·grind [Cr.bP,goal]
 have Q:1<=(at_ w.rs n).od/\(at_ w.rs n).od<=w.b.os.length:=by rcases M with h|h<;>exact h.1
 have Z:1<=(at_ w.rs n).od/\(at_ w.rs n).od<=b'.os.length:=K1;unfold goal;rw[Cr.bP.2 Q,Cr.bP.2 Z,Cr.fw Q,Cr.fw Z,I _ K1]
def submW(e:Ev)(k:Int)(w:W)(pick drop:Int):W×Int:=match Od.dH e.m w.b pick drop k with|.ok b=>({w with b:=b},0)|.error x=>(w,x)
def ee(e:Ev)(w:W)(id:Int):W×Int:=match Od.l7 e.m w.b id 5 0 with|.ok b=>({w with b:=b},0)|.error x=>(w,x)
def ew(w:W)(n:Int):W×Int:=if n<0\/(w.rs.length:Int)<=n then(w,2) else(Cr.due w n.toNat,0)
def jI(e:Ev)(t k:Int)(w w':W):Prop:=V e k w'/\aB e t k w'=aB e t k w
theorem cb(v:V e k w):jI e t k w w:=⟨v,rfl⟩
def C8{w' I:W}(h:jI e t k w w')(M:jI e t k w' I):jI e t k w I:=⟨M.1,M.2.trans h.2⟩
theorem P6(Q:e.EZ)(hk:0<=k/\k<=Od.last)(v:V e k w)(pick drop:Int):jI e t k w (submW e k w pick drop).1:=by
 unfold submW;split
 ·rename_i b I;have M:=Cr.ji v hk.1 I;refine⟨M,lU Q hk v M rfl fun Z=>⟨rfl,?_⟩⟩;show(goal e b w.mv.toNat (at_ w.rs w.mv.toNat)).1=_;rw[Mr v hk.1 I (by have:=v.mv;omega)]
 exact cb v
theorem NQ(Q:e.EZ)(hk:0<=k/\k<=Od.last)(v:V e k w)(id:Int):jI e t k w (ee e w id).1:=by
 unfold ee;split
 ·rename_i b I;have M:=Cr.rD v I;refine⟨M,lU Q hk v M rfl fun Z=>⟨rfl,?_⟩⟩;unfold Od.l7 at I;rw[aa (Od.dN.2 v.bk)] at I;obtain⟨_,hu,_⟩:=Cr.qi v.bk I;grind [Cr.VR.goal]
 exact cb v
def qJ(M:e.EZ)(hk:0<=k/\k<=Od.last)(v:V e k w)(n:Int):jI e t k w (ew w n).1:=by
 unfold ew;split
 ·exact cb v
 have Q:n.toNat<w.rs.length:=K1;have I:=Cr.YH v Q
 have hd:(Cr.due w n.toNat).mv=w.mv/\(Cr.due w n.toNat).b=w.b/\∀j,(at_ (Cr.due w n.toNat).rs j).pl=(at_ w.rs j).pl/\∀b,goal e b j (at_ (Cr.due w n.toNat).rs j)=goal e b j (at_ w.rs j):=by
  unfold Cr.due;split
  ·exact⟨rfl,rfl,fun j=>⟨rfl,fun _=>rfl⟩⟩
  refine⟨rfl,rfl,fun j=>?_⟩;grind [goal,Cr.gl]
 exact⟨I,lU M hk v I hd.1 fun Z=>⟨(hd.2.2 _).1,by rw[hd.2.1,(hd.2.2 _).2]⟩⟩
variable {t:Nat}
def FI.keeps{g:C}{f:F}(hc:Cf.check g=0)(h:FI g f)(ht:Pr g t)(I:jI (ev g (t:Int)) (t:Int) f.tk (ai f t) w):FI g (bL f t w):=h.set hc ht I.1 I.2
structure Ge(g:C)(t:Nat)(f fa:F):Prop where
 c:fa.cs.length=f.cs.length
 tk:fa.tk=f.tk
 cr:ai fa t=ai f t
 cl:fa.cl=f.cl.filter fun x=>decide (x.tn=(t:Int))
theorem iC{g:C}{u:Nat}(ht:Pr g t):Pr (Cf.only g (t:Int)) u↔u=t:=by
 unfold Pr;show ag (Cf.bV g.ts (t:Int) g.ts.length) (u:Int)=true↔_;rw[Cf.jY (show ag g.ts (t:Int)=true from ht),ax];omega
def Be(g:C)(t:Int):(Cf.only g t).ts.length=g.ts.length:=Cf.nG ..
theorem Ge.set{g:C}{t:Nat}{f fa:F}(s:Ge g t f fa)(ht:t<f.cs.length)(w:W):Ge g t (bL f t w) (bL fa t w):=by
 refine⟨by show(fa.cs.set t w).length=(f.cs.set t w).length;rw[aM,aM];exact s.c,s.tk,?_,s.cl⟩
 show(fa.cs.set t w).getD t W.z=(f.cs.set t w).getD t W.z;grind [c]
def Ge.other{g:C}{u:Nat}{f fa:F}(s:Ge g t f fa)(M:u<f.cs.length)(I:u≠t)(w:W):Ge g t (bL f u w) fa:=by
 refine⟨by show fa.cs.length=(f.cs.set u w).length;rw[aM];exact s.c,s.tk,?_,s.cl⟩
 show ai fa t=(f.cs.set u w).getD t W.z;rw[Od.fY M,ae I];exact s.cr
theorem Ge.step{g:C}{t:Nat}{f fa:F}(hc:Cf.check g=0)(ht:Pr g t)(h:FI g f)(ha:FI (Cf.only g (t:Int)) fa)(s:Ge g t f fa)(hk:f.tk<Od.last):
  Ge g t (Tr.step g f).1 (Tr.step (Cf.only g (t:Int)) fa).1/\(Tr.step (Cf.only g (t:Int)) fa).2=(Tr.step g f).2.filter fun x=>decide (x.1=(t:Int)):=by
 have M:=iF hc ht;have Q:=Cf.dP M.c M.p;have I:=Cr.xK M;have htl:t<f.cs.length:=by have:=jJ ht;have:=h.c;omega
 have Z:w1 (Cf.only g (t:Int)) fa t=w1 g f t:=by unfold w1;rw[I,s.tk,s.cr]
 have hc1:IP (Cf.only g (t:Int)) fa t=IP g f t:=by unfold IP;rw[I,s.tk,Z]
 have hK:K (Cf.only g (t:Int)) fa t↔K g f t:=by
  grind [K,iC]
 obtain⟨q1,q2⟩:=xT hc h;obtain⟨q3,q4⟩:=xT Q ha;refine⟨⟨(nu _ _ _).trans (s.c.trans (nu g f _).symm),by show fa.tk+1=f.tk+1;rw[s.tk],?_,?_⟩,?_⟩
 ·grind [kQ,c,iC,w3,tk]
 ·refine zm.ext q3 (List.Pairwise.filter _ q1) fun x=>?_;rw[q4,gN,q2,ax,s.tk];constructor
  ·rintro⟨u,h1,h2,h3⟩;have hu:u=t:=(iC ht).1 h1.1;grind [jO]
  rintro⟨⟨u,h1,h2,h3⟩,h4⟩;have:=(jO hc h h1.1 h2).1;grind
 have key:∀n,n<=f.cs.length->(aT (Cf.only g (t:Int)) fa n).2.2=(aT g f n).2.2.filter fun x=>decide (x.1=(t:Int)):=by
  intro n;induction n with
  |zero=>intro _;rfl
  |succ n ih=>
   intro hn;have hi:=ih K1;by_cases he:n=t
   ·subst he;unfold aT;rw[aa (show ag g.ts (n:Int)=true from ht),aa (show ag (Cf.only g (n:Int)).ts (n:Int)=true from(iC ht).2 rfl)];grind [tk,cr,List.filter_eq_self]
   have hna:¬ag (Cf.only g (t:Int)).ts (n:Int)=true:=fun hp=>he ((iC ht).1 hp);grind [aT,List.filter_eq_nil_iff]
 show(aT _ fa fa.cs.length).2.2=List.filter _ (aT g f f.cs.length).2.2;rw[s.c];grind
theorem Ge.new{g:C}{t:Nat}(hc:Cf.check g=0)(ht:Pr g t):Ge g t (Tr.new g) (Tr.new (Cf.only g (t:Int))):=by
 have M:=iF hc ht;have hl:=Be g (t:Int);have I:=jJ ht;refine⟨by simp[Tr.new,hl],rfl,?_,rfl⟩
 grind [ai,Tr.new,ag,Rt.bQ,Cf.mX,Rt.fB.p]
end Tr
namespace Gw
open Cf (C ag)
open Cr (Ev W R ev V)
open Tr (F FI Ge Pr ai bL jI)
structure Mt where
 role:Int
 exp:Int
 rev:Bool
 deriving DecidableEq
structure Rc where
 tk:Int
 kd:Int
 cd:Int
 lk:ap
 deriving DecidableEq
structure Lg where
 dF:Int
 lk:ap
 rs:List Rc
 deriving DecidableEq
structure Ac where
 ring:List Mt
 log:Lg
 fm:ap
 deriving DecidableEq
structure Tk where
 tn:Int
 role:Int
 exp:Int
 dM:Int
 tag:ap
 deriving DecidableEq
structure Rq where
 kd:Int
 tok:Tk
 pick:Int
 drop:Int
 num:Int
 deriving DecidableEq
structure Sg where
 pl:Int
 st:Int
 od:Int
 deriving DecidableEq
structure Rp where
 kd:Int
 cd:Int
 tk:Int
 od:Int
 st:Int
 dn:Int
 jb:List Sg
 qd:Int
 dF:Int
 kS:List Rc
 tok:Tk
 deriving DecidableEq
structure St where
 kd:Int
 tn:Int
 rb:Int
 role:Int
 aG:Int
 bs:ap
structure Ou where
 tn:Int
 tk:Int
 bs:ap
 deriving DecidableEq
def z32:ap:=List.replicate 32 0
def Tk.z:Tk:=⟨0,0,0,0,z32⟩
def Lg.z:Lg:=⟨0,z32,[]⟩
def Ac.z:Ac:=⟨[],Lg.z,[]⟩
def Rp.z:Rp:=⟨0,0,0,0,0,0,[],0,0,[],Tk.z⟩
structure zL where
 dec:ap->Rq×Int
 auth:List Mt->ap->Int->Tk->Int->Int->Int
 append:Lg->Int->Int->Int->ap->Lg×Int
 since:Lg->Int->List Rc×Int
 bT:List Mt->Int->List Mt×Int
 bX:List Mt->ap->Int->Int->Int->Int->List Mt×Tk×Int
 enc:Rp->ap
 split:ap->List (ap)×ap×Int
variable(o:zL)
def jZ(w:W):List Sg:=w.rs.map fun r=>⟨r.pl,r.st,r.od⟩
def aR(e:Ev)(k:Int)(w:W)(a:Ac)(q:Rq):W×List Mt×Rp×Int:=
 if q.kd=1 then((Tr.submW e k w q.pick q.drop).1,a.ring,{Rp.z with od:=if(Tr.submW e k w q.pick q.drop).2=0 then(Tr.submW e k w q.pick q.drop).1.b.os.length else 0},(Tr.submW e k w q.pick q.drop).2)
 else if q.kd=2 then((Tr.ee e w q.num).1,a.ring,Rp.z,(Tr.ee e w q.num).2)
 else if q.kd=3 then(w,a.ring,{Rp.z with st:=(Od.res Od.O.z (Od.kq e.m w.b q.num)).1.st,dn:=(Od.res Od.O.z (Od.kq e.m w.b q.num)).1.dn},(Od.res Od.O.z (Od.kq e.m w.b q.num)).2)
 else if q.kd=4 then(w,a.ring,{Rp.z with jb:=jZ w,qd:=w.b.q.length},0)
 else if q.kd=5 then(w,a.ring,{Rp.z with dF:=a.log.dF,kS:=(o.since a.log q.num).1},(o.since a.log q.num).2)
 else(w,if(o.bT a.ring q.num).2=0 then(o.bT a.ring q.num).1 else a.ring,Rp.z,(o.bT a.ring q.num).2)
def lQ(key:ap)(t k:Int)(a:Ac)(fr:ap):Int:=if(o.dec fr).2=0 then o.auth a.ring key t (o.dec fr).1.tok (o.dec fr).1.kd k else(o.dec fr).2
def VI(k:Int)(a:Ac)(r:Rp)(fr:ap):Ac:=if(o.append a.log k r.kd r.cd fr).2=0 then{a with log:=(o.append a.log k r.kd r.cd fr).1} else a
def answer(e:Ev)(key:ap)(t k:Int)(w:W)(a:Ac)(fr:ap):W×Ac×Rp:=
 if a.log.dF=4294967295 then(w,a,{Rp.z with cd:=9,tk:=k})
 else if lQ o key t k a fr=0 then
  ((aR o e k w a (o.dec fr).1).1,
   VI o k {a with ring:=(aR o e k w a (o.dec fr).1).2.1} {(if(aR o e k w a (o.dec fr).1).2.2.2=0 then(aR o e k w a (o.dec fr).1).2.2.1 else Rp.z) with kd:=(o.dec fr).1.kd,cd:=(aR o e k w a (o.dec fr).1).2.2.2,tk:=k} fr,
   {(if(aR o e k w a (o.dec fr).1).2.2.2=0 then(aR o e k w a (o.dec fr).1).2.2.1 else Rp.z) with kd:=(o.dec fr).1.kd,cd:=(aR o e k w a (o.dec fr).1).2.2.2,tk:=k})
 else(w,VI o k a {Rp.z with kd:=if(o.dec fr).2=0 then(o.dec fr).1.kd else 0,cd:=lQ o key t k a fr,tk:=k} fr,{Rp.z with kd:=if(o.dec fr).2=0 then(o.dec fr).1.kd else 0,cd:=lQ o key t k a fr,tk:=k})
def out(t:Int)(r:Rp):Ou:=⟨t,r.tk,o.enc r⟩
def answers(e:Ev)(key:ap)(t k:Int):W->Ac->List (ap)->W×Ac×List Ou
 |w,a,[]=>(w,a,[])
 |w,a,fr::rG=>((answers e key t k (answer o e key t k w a fr).1 (answer o e key t k w a fr).2.1 rG).1,(answers e key t k (answer o e key t k w a fr).1 (answer o e key t k w a fr).2.1 rG).2.1,
   out o t (answer o e key t k w a fr).2.2::(answers e key t k (answer o e key t k w a fr).1 (answer o e key t k w a fr).2.1 rG).2.2)
def iw(e:Ev)(key:ap)(t k:Int)(w:W)(a:Ac)(bs:ap):W×Ac×List Ou:=
 if bs.length<=4096 then
  (if(o.split (a.fm++bs)).2.2=0 then
   ((answers o e key t k w a (o.split (a.fm++bs)).1).1,{(answers o e key t k w a (o.split (a.fm++bs)).1).2.1 with fm:=(o.split (a.fm++bs)).2.1},(answers o e key t k w a (o.split (a.fm++bs)).1).2.2)
  else(w,a,[]))
 else(w,a,[])
def fM(key:ap)(t k:Int)(a:Ac)(role aG:Int):Ac×List Ou:=
 if(o.bX a.ring key t role aG k).2.2=0 then({a with ring:=(o.bX a.ring key t role aG k).1},[out o t {Rp.z with kd:=18,tk:=k,tok:=(o.bX a.ring key t role aG k).2.1}])
 else if(o.bX a.ring key t role aG k).2.2=9 then(a,[out o t {Rp.z with kd:=18,tk:=k,cd:=9}])
 else(a,[])
structure S where
 f:F
 ac:List Ac
 outs:List Ou
def ak(s:S)(t:Nat):Ac:=s.ac.getD t Ac.z
def ej(s:S)(t:Nat)(w:W)(a:Ac)(os:List Ou):S:=⟨bL s.f t w,s.ac.set t a,s.outs++os⟩
def halted(g:C):Nat->List Ou
 |0=>[]
 |t+1=>if ag g.ts (t:Int)=true then halted g t++[out o (t:Int) {Rp.z with kd:=17,cd:=280,tk:=Od.last}] else halted g t
noncomputable def tick(g:C)(s:S):S:=
 if s.f.tk=Od.last then{s with outs:=s.outs++halted o g s.ac.length}
 else⟨(Tr.step g s.f).1,s.ac,s.outs++(Tr.step g s.f).2.map fun x=>out o x.1 {Rp.z with kd:=16,tk:=s.f.tk+1,od:=x.2}⟩
noncomputable def step(g:C)(key:ap)(s:S)(x:St):S:=
 if x.kd=1 then tick o g s
 else if ag g.ts x.tn=true then
  (if x.kd=2 then ej s x.tn.toNat (iw o (ev g x.tn) key x.tn s.f.tk (ai s.f x.tn.toNat) (ak s x.tn.toNat) x.bs).1 (iw o (ev g x.tn) key x.tn s.f.tk (ai s.f x.tn.toNat) (ak s x.tn.toNat) x.bs).2.1 (iw o (ev g x.tn) key x.tn s.f.tk (ai s.f x.tn.toNat) (ak s x.tn.toNat) x.bs).2.2
  else if x.kd=3 then ej s x.tn.toNat (Tr.ew (ai s.f x.tn.toNat) x.rb).1 (ak s x.tn.toNat) []
  else if x.kd=4 then ej s x.tn.toNat (ai s.f x.tn.toNat) (fM o key x.tn s.f.tk (ak s x.tn.toNat) x.role x.aG).1 (fM o key x.tn s.f.tk (ak s x.tn.toNat) x.role x.aG).2
  else s)
 else s
noncomputable def run(g:C)(key:ap):S->List St->S
 |s,[]=>s
 |s,x::l=>run g key (step o g key s x) l
def new(g:C):S:=⟨Tr.new g,List.replicate g.ts.length Ac.z,[]⟩
def gS(t:Int)(x:St):Bool:=decide (x.kd=1)||(decide (x.tn=t)&&(decide (2<=x.kd)&&decide (x.kd<=4)))
def eA(l:List St)(t:Int):List St:=l.filter (gS t)
def port(l:List Ou)(t:Int):List Ou:=l.filter fun x=>decide (x.tn=t)
variable{o}
variable {a:Ac}{e:Ev}{g:C}{k t:Int}{key:ap}{s:S}{w:W}
theorem DO(I:e.EZ)(hk:0<=k/\k<=Od.last)(v:V e k w)(a:Ac)(q:Rq):jI e t k w (aR o e k w a q).1:=by
 grind [aR,Tr.P6,Tr.NQ,Tr.cb]
def IG(I:e.EZ)(hk:0<=k/\k<=Od.last)(v:V e k w)(a:Ac)(fr:ap):jI e t k w (answer o e key t k w a fr).1:=by
 grind [answer,Tr.cb,DO]
theorem FO(M:e.EZ)(hk:0<=k/\k<=Od.last):∀{rG:List (ap)} {w:W} {a:Ac},V e k w->jI e t k w (answers o e key t k w a rG).1:=by
 intro rG;induction rG with
 |nil=>intro w a v;exact Tr.cb v
 |cons fr rG Q=>
  intro w a v;have I:=IG (o:=o) (key:=key) (t:=t) M hk v a fr;exact Tr.C8 I (Q I.1)
def oG(I:e.EZ)(hk:0<=k/\k<=Od.last)(v:V e k w)(a:Ac)(bs:ap):jI e t k w (iw o e key t k w a bs).1:=by
 grind [iw,FO,Tr.cb]
def set_self(hc:Cf.check g=0)(h:FI g s.f){t:Nat}(ht:Pr g t):FI g (bL s.f t (ai s.f t)):=h.keeps hc ht (Tr.cb (h.cr t ht))
def Tg(hc:Cf.check g=0)(h:FI g s.f)(x:St):FI g (step o g key s x).f:=by
 unfold step;split
 ·unfold tick;split
  ·exact h
  rename_i hk;exact h.step hc (by have:=h.tk;omega)
 split
 ·rename_i hp;have Q:=Rt.dS hp;have ht:Pr g x.tn.toNat:=by unfold Pr;grind
  have I:=Tr.iF hc ht;have v:=h.cr _ ht;have M:((x.tn.toNat:Nat):Int)=x.tn:=af Q.1;split
  ·have:=oG (o:=o) (key:=key) (Cr.fy I) (t:=x.tn) h.tk v (ak s x.tn.toNat) x.bs;rw[M] at this;exact h.keeps hc ht (by rw[M];exact this)
  split
  ·exact h.keeps hc ht (Tr.qJ (Cr.fy I) h.tk v _)
  split
  ·exact set_self hc h ht
  exact h
 exact h
structure kD(g:C)(t:Nat)(s sa:S):Prop where
 f:Ge g t s.f sa.f
 l:sa.ac.length=s.ac.length
 a:ak sa t=ak s t
 o:sa.outs=port s.outs (t:Int)
 fi:FI g s.f
 fa:FI (Cf.only g (t:Int)) sa.f
 al:s.ac.length=g.ts.length
theorem kE(a b:List Ou)(t:Int):port (a++b) t=port a t++port b t:=j6 ..
def DA{l:List Ou}(h:∀x,x∈l->x.tn=t):port l t=l:=lE.2 fun x I=>bu (h x I)
theorem wP{l:List Ou}(h:∀x,x∈l->x.tn≠t):port l t=[]:=ry.2 fun x I M=>h x I (bf M)
theorem E9:∀{rG:List (ap)} {w:W} {a:Ac} {x:Ou},x∈(answers o e key t k w a rG).2.2->x.tn=t:=by
 intro rG;induction rG with
 |nil=>intro w a x I;cases I
 |cons fr rG M=>
  intro w a x I;rcases er.1 I with h|h
  ·rw[h];rfl
  exact M h
def tS{bs:ap}{x:Ou}(I:x∈(iw o e key t k w a bs).2.2):x.tn=t:=by
 grind [iw,E9]
def GS{role aG:Int}{x:Ou}(I:x∈(fM o key t k a role aG).2):x.tn=t:=by
 unfold fM at I;split at I
 ·rw[bw.1 I];rfl
 split at I
 ·rw[bw.1 I];rfl
 cases I
variable {t:Nat}
theorem Da(ht:Pr g t):∀n,halted o (Cf.only g (t:Int)) n=port (halted o g n) (t:Int):=by
 intro n;induction n with
 |zero=>rfl
 |succ n M=>
  unfold halted;by_cases he:n=t
  ·subst he;rw[aa (show ag (Cf.only g (n:Int)).ts (n:Int)=true from(Tr.iC ht).2 rfl),aa (show ag g.ts (n:Int)=true from ht),kE,M];congr 1;exact(DA fun x I=>by rw[bw.1 I];rfl).symm
  rw[ae (show¬ag (Cf.only g (t:Int)).ts (n:Int)=true from fun hp=>he ((Tr.iC ht).1 hp)),M];split
  ·rw[kE,wP (l:=[_]) fun x I=>by rw[bw.1 I];show(n:Int)≠(t:Int);omega,bp]
  rfl
def qw{u:Nat}{os:List Ou}(ht:t<s.ac.length):ak (ej s t w a os) u=if t=u then a else ak s u:=Od.fY ht
def kD.both(hc:Cf.check g=0)(ht:Pr g t){sa:S}(h:kD g t s sa){os:List Ou}(hw:jI (ev g (t:Int)) (t:Int) s.f.tk (ai s.f t) w)(ho:∀x,x∈os->x.tn=(t:Int)):kD g t (ej s t w a os) (ej sa t w a os):=by
 have M:t<s.f.cs.length:=by rw[h.fi.c];exact Tr.jJ ht
 have I:t<s.ac.length:=by rw[h.al];exact Tr.jJ ht
 have Q:=Tr.iF hc ht;have Z:=(Tr.iC (u:=t) ht).2 rfl;refine⟨h.f.set M w,by show(sa.ac.set t a).length=(s.ac.set t a).length;rw[aM,aM];exact h.l,?_,?_,h.fi.keeps hc ht hw,?_,by show(s.ac.set t a).length=_;rw[aM];exact h.al⟩
 ·rw[qw I,qw (by rw[h.l];exact I),aa rfl,aa rfl]
 ·show sa.outs++os=port (s.outs++os) (t:Int);rw[kE,h.o,DA ho]
 refine h.fa.keeps (Cf.dP Q.c Q.p) Z ?_;rw[Cr.xK Q,h.f.tk,h.f.cr];exact hw
theorem kD.other{g:C}(hc:Cf.check g=0){t u:Nat}(ht:Pr g t)(M:Pr g u)(I:u≠t){s sa:S}(h:kD g t s sa){w:W}{a:Ac}{os:List Ou}(hw:jI (ev g (u:Int)) (u:Int) s.f.tk (ai s.f u) w)(ho:∀x,x∈os->x.tn=(u:Int)):kD g t (ej s u w a os) sa:=by
 have Q:u<s.f.cs.length:=by rw[h.fi.c];exact Tr.jJ M
 have Z:u<s.ac.length:=by rw[h.al];exact Tr.jJ M
 refine⟨h.f.other Q I w,by show sa.ac.length=(s.ac.set u a).length;rw[aM];exact h.l,?_,?_,h.fi.keeps hc M hw,h.fa,by show(s.ac.set u a).length=_;rw[aM];exact h.al⟩
 ·rw[qw Z,ae I];exact h.a
 show sa.outs=port (s.outs++os) (t:Int);grind [kE,o,wP]
theorem kD.tick{g:C}(hc:Cf.check g=0){t:Nat}(ht:Pr g t){s sa:S}(h:kD g t s sa):kD g t (tick o g s) (tick o (Cf.only g (t:Int)) sa):=by
 have Q:=Tr.iF hc ht;have M:=Cf.dP Q.c Q.p;unfold Gw.tick;rw[h.f.tk];by_cases hk:s.f.tk=Od.last
 ·rw[aa hk,aa hk];refine⟨h.f,h.l,h.a,?_,h.fi,h.fa,h.al⟩;grind [kE,o,Da,l]
 rw[ae hk,ae hk];have I:s.f.tk<Od.last:=by have:=h.fi.tk;omega
 obtain⟨Z,h2⟩:=h.f.step hc ht h.fi h.fa I;refine⟨Z,h.l,h.a,?_,h.fi.step hc I,h.fa.step M (by rw[h.f.tk];exact I),h.al⟩
 show sa.outs++((Tr.step (Cf.only g (t:Int)) sa.f).2.map _)=port (s.outs++((Tr.step g s.f).2.map _)) (t:Int);rw[kE,h.o,h2];congr 1;unfold port;rw[sO];rfl
theorem kD.step{g:C}(hc:Cf.check g=0){t:Nat}(ht:Pr g t){key:ap}{s sa:S}(h:kD g t s sa)(x:St):
  (gS (t:Int) x=true->kD g t (step o g key s x) (step o (Cf.only g (t:Int)) key sa x))/\(gS (t:Int) x=false->kD g t (step o g key s x) sa):=by
 have hT:=Tr.iF hc ht;constructor
 ·intro Q;unfold gS at Q;simp only[dI,ay,ax] at Q;unfold Gw.step;by_cases h1:x.kd=1
  ·rw[aa h1,aa h1];exact h.tick hc ht
  rw[ae h1,ae h1];have hm2:=Q.resolve_left h1;have e1:x.tn.toNat=t:=K1;rw[hm2.1,aa (show ag g.ts (t:Int)=true from ht),aa (show ag (Cf.only g (t:Int)).ts (t:Int)=true from(Tr.iC ht).2 rfl),j3,Cr.xK hT,h.f.tk,h.f.cr,h.a];by_cases h2:x.kd=2
  ·rw[aa h2,aa h2];exact h.both hc ht (oG (Cr.fy hT) h.fi.tk (h.fi.cr t ht) _ _) (fun y I=>tS I)
  rw[ae h2,ae h2];by_cases h3:x.kd=3
  ·rw[aa h3,aa h3];exact h.both hc ht (Tr.qJ (Cr.fy hT) h.fi.tk (h.fi.cr t ht) _) (fun y I=>by cases I)
  rw[ae h3,ae h3];have h4:x.kd=4:=K1;rw[aa h4,aa h4];exact h.both hc ht (Tr.cb (h.fi.cr t ht)) (fun y I=>GS I)
 intro Q;unfold gS at Q;simp only[iQ,lp,decide_eq_false_iff_not] at Q;unfold Gw.step;rw[ae Q.1];by_cases hp:ag g.ts x.tn=true
 ·rw[aa hp];have hb:=Rt.dS hp;have Z:Pr g x.tn.toNat:=by unfold Pr;grind
  have eu:((x.tn.toNat:Nat):Int)=x.tn:=af hb.1;have hTu:=Tr.iF hc Z;by_cases hne:x.tn=(t:Int)
  ·grind
  have M:x.tn.toNat≠t:=K1;have v:=h.fi.cr _ Z;by_cases h2:x.kd=2
  ·rw[aa h2];have hw:=oG (o:=o) (key:=key) (Cr.fy hTu) (t:=((x.tn.toNat:Nat):Int)) h.fi.tk v (ak s x.tn.toNat) x.bs;have ho:∀y,y∈(iw o (ev g x.tn) key x.tn s.f.tk (ai s.f x.tn.toNat) (ak s x.tn.toNat) x.bs).2.2->y.tn=((x.tn.toNat:Nat):Int):=fun y I=>by rw[eu];exact tS I
   rw[eu] at hw;exact h.other hc ht Z M (by rw[eu];exact hw) ho
  rw[ae h2];by_cases h3:x.kd=3
  ·rw[aa h3];exact h.other hc ht Z M (Tr.qJ (Cr.fy hTu) h.fi.tk v _) (fun y I=>by cases I)
  rw[ae h3];by_cases h4:x.kd=4
  ·rw[aa h4];exact h.other hc ht Z M (Tr.cb v) (fun y I=>by rw[eu];exact GS I)
  grind
 grind
theorem kD.run{g:C}(hc:Cf.check g=0){t:Nat}(ht:Pr g t){key:ap}:∀{l:List St} {s sa:S},kD g t s sa->kD g t (run o g key s l) (run o (Cf.only g (t:Int)) key sa (eA l (t:Int))):=by
 intro l;induction l with
 |nil=>intro s sa h;exact h
 |cons x l I=>
  intro s sa h;obtain⟨M,Q⟩:=h.step (o:=o) (key:=key) hc ht x;unfold eA;rw[sP];cases hm:gS (t:Int) x with
  |true=>exact I (M hm)
  |false=>exact I (Q hm)
theorem kD.new{g:C}(hc:Cf.check g=0){t:Nat}(ht:Pr g t)(I:0<=g.st/\g.st<=Od.last):kD g t (new g) (new (Cf.only g (t:Int))):=by
 have Q:=Tr.iF hc ht;have hl:=Tr.Be g (t:Int);have M:=Cf.dP Q.c Q.p;refine⟨Ge.new hc ht,by show(List.replicate _ _).length=(List.replicate _ _).length;grind,?_,rfl,FI.new hc I,FI.new M I,eZ ..⟩
 show(List.replicate _ Ac.z).getD t Ac.z=(List.replicate _ Ac.z).getD t Ac.z;rw[hl]
def alone(hc:Cf.check g=0)(ht:Pr g t)(I:0<=g.st/\g.st<=Od.last)(key:ap)(l:List St):
  (run o (Cf.only g (t:Int)) key (new (Cf.only g (t:Int))) (eA l (t:Int))).outs=port (run o g key (new g) l).outs (t:Int):=(kD.run (o:=o) hc ht (kD.new hc ht I)).o
end Gw
namespace Gw
def Sg.z:Sg:=⟨0,0,0⟩
def Sg.cs(s:Sg):bi:=[.int .i64 s.pl,.int .u8 s.st,.int .i64 s.od]
def Sg.fx:E.Fx Sg.cs 3:=⟨fun _=>rfl,fun x u I=>by simp[Sg.cs] at I;rcases I with rfl|rfl|rfl<;>rfl,K1⟩
def VE(rs:List Cr.R):List Sg:=rs.map fun r=>⟨r.pl,r.st,r.od⟩
def LS{rs:List Cr.R}{k:Nat}(h:k<rs.length):VE (rs.take (k+1))=VE (rs.take k)++[⟨(Cr.at_ rs k).pl,(Cr.at_ rs k).st,(Cr.at_ rs k).od⟩]:=by
 grind [VE,Cr.gu]
def TO(rs:List Cr.R):(VE rs).length=rs.length:=bZ ..
def home(p:Int):Cr.R:=⟨p,0,0,0,0,false⟩
def homes(l:bv):List Cr.R:=l.map home
def Fs{l:bv}{k:Nat}(h:k<l.length):homes (l.take (k+1))=homes (l.take k)++[home (l.getD k 0)]:=by
 grind [homes,List.take_add_one]
def JL(l:bv):(homes l).length=l.length:=bZ ..
end Gw
namespace Tr
def Cl.cs(x:Cl):bi:=[.int .u64 x.tk,.int .i64 x.pl,.int .i64 x.tn,.int .i64 x.rb]
def Cl.v(x:Cl):Value:=.agg x.cs.toArray
def Cl.fx:E.Fx Cl.cs 4:=⟨fun _=>rfl,fun x u I=>by simp[Cl.cs] at I;rcases I with rfl|rfl|rfl|rfl<;>rfl,K1⟩
def cmp(a b:Int):Int:=if a<b then-1 else if b<a then 1 else 0
def N3(l:bv):Int:=match l.find? (fun x=> !decide (x=0)) with|some x=>x|none=>0
def Mf{l:bv}{k:Nat}(hk:k<l.length)(I:∀j,j<k->l.getD j 0=0)(M:¬l.getD k 0=0):N3 l=l.getD k 0:=by
 have h:∀{l:bv} {k:Nat},k<l.length->(∀j,j<k->l.getD j 0=0)->¬l.getD k 0=0->l.find? (fun x=> !decide (x=0))=some (l.getD k 0):=by
  intro l;induction l with
  |nil=>intro k hk;simp at hk
  |cons a r Q=>
   intro k hk I M;cases k with
   |zero=>grind
   |succ k=>
    have ha:=I 0 K1;grind
 unfold N3;rw[h hk I M]
def NB{l:bv}(h:∀j,j<l.length->l.getD j 0=0):N3 l=0:=by
 unfold N3
 rw[List.find?_eq_none.2 fun x I=>by
  obtain⟨i,hi,rfl⟩:=eC I;have:=h i hi
  simpa[List.getD,hi] using this]
def xY(x y:Cl):Int:=N3 [cmp x.tk y.tk,cmp x.pl y.pl]
def HJ{x y:Cl}:xY x y<0↔lt x y:=by
 grind [xY,N3,cmp,lt]
end Tr
namespace E
open Go Go.RowKit Go.MapKept Go.ChangeShapes Go.WideShapes Go.ChangeMaps
section
variable{α:Type}
structure Mw(P:Program)(t k e:Nat)(kk:α->Value)(lit:α->Lit)(ok:α->Prop):Prop where
 K:WideMaps.KeyLaw P k
 ht:P.underlying t=some (.map k e)
 key:∀a,ok a->keyOf P k (kk a)=some (lit a)
 val:∀a b,kk a=kk b->a=b
variable{P:Program}{t k e:Nat}{kk:α->Value}{lit:α->Lit}{ok:α->Prop}{f:α->Option Value}
theorem Mw.inj(I:Mw P t k e kk lit ok){a b:α}(ha:ok a)(M:ok b)(h:lit a=lit b):a=b:=I.val _ _ (I.K.inj (I.key a ha) (h▸I.key b M))
def Mw.kd(I:Mw P t k e kk lit ok):Maps.Keyed P k:=Maps.Keyed.of_law I.K
def VY(w:World)(P:Program)(k B m:Nat)(lit:α->Lit)(ok:α->Prop)(f:α->Option Value):Prop:=
 ∃D,w.ownsMap P k vR B m D/\(∀a z,ok a->D.atKey (lit a) z=Rv (f a) z)/\(∀a,ok a->Maps.has D (lit a)=(f a).isSome)/\∀kl,Maps.has D kl=true->∃a,ok a/\kl=lit a
variable {B m:Nat}{w:World}
theorem HL{w':World}(h:w'.heap[B]? =w.heap[B]?)(hc:VY w P k B m lit ok f):VY w' P k B m lit ok f:=by
 obtain⟨D,⟨M,I,Q,r⟩,Z⟩:=hc;exact⟨D,⟨M,I,by rw[h];exact Q,r⟩,Z⟩
def HP.mw(P:Program)(k B m:Nat)(lit:α->Lit)(ok:α->Prop)(f:α->Option Value):HP where
 bA S w:=(∀q,S q↔q=B)/\VY w P k B m lit ok f
 loc:=fun _ _ _ h ⟨I,M⟩=>⟨I,HL (h B ((I B).2 rfl)) M⟩
def HP.me[DecidableEq α](P:Program)(t k B m:Nat)(lit:α->Lit)(ok:α->Prop)(f:α->Option Value)(a:α)(st:Nat):HP where
 bA S w:=(∀q,S q↔q=B)/\∃Q I,w.heap[B]? =some (.map Q I)/\∀(w2:World) (val:Value),w2.heap[B]? =some (.map Q I)->
  ∃Z M,(Instr.entryStore t (.map (some B)) (goInt st) val).run P w2=.ok () (setBlock w2 B (.map Z M))/\VY (setBlock w2 B (.map Z M)) P k B (m+1) lit ok (eh f a val)
 loc:=fun _ _ _ h ⟨h1,Q,I,hb,r⟩=>⟨h1,Q,I,by rw[h B ((h1 B).2 rfl)];exact hb,r⟩
variable{n:Fr}{w0:World}{F:Nat->Prop}{K:Kt}{l:Env}{H:List HP}{o:Oper}
variable {H':List HP}{a:α}{bytes i sz:Nat}{ops:Array Oper}{rest:List Oper}{x y:Operand}{z:Value}
def OW.M5{d:Nat}(hM:Mw P t k e kk lit ok)(ho:o.op=.makeMap t none)(hg:gd ops l o.guard=some true)(hd:o.dst=some d)(I:Nat.blt d n.sz=true)(kt:∀B,OW P n w0 F ops K rest ((d,.map (some B))::l) (HP.mw P k B 0 lit ok (fun _=>none)::H)):OW P n w0 F ops K (o::rest) l H:=
 OW.step hg hd I (fun v H'=>∃B,v=.map (some B)/\H'=HP.mw P k B 0 lit ok (fun _=>none)::H)
  (fun a w ha M=>⟨_,w.alloc (.map #[] 0),_,by simp[execOp,ho,run_makeMap],⟨w.heap.size,rfl,rfl⟩,
   M.new (.map #[] 0) (Hn:=[HP.mw P k w.heap.size 0 lit ok (fun _=>none)]) ⟨fun k=>k=w.heap.size,⟨fun _=>Iff.rfl,.map [],World.ownsMap_made w P k vR,fun _ _ _=>rfl,fun _ _=>rfl,fun _ h=>by cases h⟩,fun k hk=>by subst hk;simp,trivial⟩⟩)
  (fun v H' ⟨B,Q,Z⟩=>by subst Q Z;exact kt B)
theorem HA.mw(h:HA w0 F H w)(hi:E.sel H i=some (HP.mw P k B m lit ok f,H')):VY w P k B m lit ok f:=by
 obtain⟨S,I,_⟩:=(h.sel hi).chunks;exact I.2
def PV.DC(Q:Mw P t k e kk lit ok)(hI:In P e z sz bytes)(ho:o.op=.lookup t x y true)(hx:ev l x=some (.map (some B)))(hy:ev l y=some (kk a))(hi:E.sel H i=some (HP.mw P k B m lit ok f,H'))(I:ok a):PV P n w0 F l H o (.tuple #[(f a).getD z,.bool (f a).isSome]):=fun ac w ha hw=>by
 obtain⟨D,h1,h2,h3,h4⟩:=hw.mw hi
 obtain⟨v,ps,M,Z⟩:=h1.look_ok Q.kd Q.ht (hI.zr w) (zd:=.held z) (zp:=[]) rfl (Q.key a I)
 rw[h2 a _ I] at Z
 rw[<-sJ Z,<-h3 a I]
 simp[execOp,ho,ha.ev hx,ha.ev hy,M]
def PV.W6(Q:Mw P t k e kk lit ok)(hI:In P e z sz bytes)(ho:o.op=.lookup t x y false)(hx:ev l x=some (.map (some B)))(hy:ev l y=some (kk a))(hi:E.sel H i=some (HP.mw P k B m lit ok f,H'))(I:ok a):PV P n w0 F l H o ((f a).getD z):=fun ac w ha hw=>by
 obtain⟨D,h1,h2,h3,h4⟩:=hw.mw hi
 obtain⟨v,ps,M,Z⟩:=h1.lookup Q.kd Q.ht (hI.zr w) (zd:=.held z) (zp:=[]) rfl (Q.key a I)
 rw[h2 a _ I] at Z
 rw[<-sJ Z]
 simp[execOp,ho,ha.ev hx,ha.ev hy,M]
variable[DecidableEq α]
theorem Sn(Q:Mw P t k e kk lit ok){w':World}{D:DataW Value}{v:Value}(h1:w.ownsMap P k vR B m D)(h2:∀a z,ok a->D.atKey (lit a) z=Rv (f a) z)(h3:∀a,ok a->Maps.has D (lit a)=(f a).isSome)(h4:∀kl,Maps.has D kl=true->∃a,ok a/\kl=lit a)(I:ok a)(g:w'.ownsMap P k vR B (m+1) (D.put (lit a) (.held v))):VY w' P k B (m+1) lit ok (eh f a v):=by
 have Z:=Q.kd.key (Q.key a I);refine⟨_,g,?_,?_,?_⟩
 ·intro b z M;unfold eh;by_cases he:b=a
  ·subst he;rw[aa rfl,Maps.atKey_put_same h1.isMap Z];rfl
  rw[ae he,Maps.atKey_put_other (fun h=>he (Q.inj M I h)),h2 b z M]
 ·intro b M;unfold eh;by_cases he:b=a
  ·grind [Maps.has_put_same,World.ownsMap.isMap]
  rw[ae he,Maps.has_put_other (fun h=>he (Q.inj M I h)),h3 b M]
 grind [Maps.has_put_other]
def OW.GH{d:Nat}(hM:Mw P t k e kk lit ok)(hI:In P e z sz bytes)(ho:o.op=.mapEntry t x y)(hg:gd ops l o.guard=some true)(hd:o.dst=some d)(hn:Nat.blt d n.sz=true)(hx:ev l x=some (.map (some B)))(hy:ev l y=some (kk a))(hi:sel H i=some (HP.mw P k B m lit ok f,H'))(hok:ok a)(hm:m<maxLen)(kt:∀v0 (st:Nat),OW P n w0 F ops K rest ((d,.tuple #[v0,.int .i64 st])::l) (HP.me P t k B m lit ok f a st::H')):OW P n w0 F ops K (o::rest) l H:=
 OW.step hg hd hn (fun v H1=>∃v0,∃st:Nat,v=.tuple #[v0,.int .i64 st]/\H1=HP.me P t k B m lit ok f a st::H')
  (fun ac w ha hw=>by
   obtain⟨D,h1,h2,h3,h4⟩:=hw.mw hi
   have h0:=h1
   obtain⟨es,clock,hb,Ft,hs,hD⟩:=h1
   have Z:=hM.key a hok
   obtain⟨v0,st,M,I,hrun,_,hst⟩:=WideElems.entry_then_store hM.K hM.ht (fun u=>hI.zr u) hb Ft Z
   have hturn:w.mapTurned (setBlock w B (.map M I)) B:=⟨es,clock,M,I,hb,rfl⟩
   have g3:=hturn.grown
   have hg9:goInt (st:Int)=.int .i64 st:=rfl
   rw[hg9] at hrun
   refine⟨.tuple #[v0,.int .i64 st],setBlock w B (.map M I),HP.me P t k B m lit ok f a st::H',by simp[execOp,ho,ha.ev hx,ha.ev hy,hrun],⟨v0,st,rfl,rfl⟩,?_⟩
   refine(hw.sel hi).write (Hn:=[HP.me P t k B m lit ok f a st]) fun S hS hB=>⟨g3.os,g3.tape,g3.output,g3.size,fun q hq hn=>g3.block q hq (fun e=>hn ((hS.1 q).2 (by injection e))),S,⟨hS.1,M,I,heap_setBlock_same hb _,fun w2 val hw2=>?_⟩,fun q hq=>⟨br (hB q hq).1 g3.size,fun hh=>hh.2 hq⟩,trivial⟩
   obtain⟨es',Q,r1,r2⟩:=hst w2 val hw2
   refine⟨es',Q,r1,?_⟩
   obtain⟨w',q1,q2,q3⟩:=h0.store hM.kd hM.ht hm Z (val:=val) (d:=.held val) (ps:=[]) rfl
   grind [Sn,HL,heap_setBlock_same])
  (fun v H1 ⟨v0,st,hv,hH⟩=>by grind)
def OW.Hf{st:Nat}{s:Operand}{v:Value}(ho:o.op=.entryStore t x s y)(hg:gd ops l o.guard=some true)(hd:o.dst=none)(hx:ev l x=some (.map (some B)))(hs:ev l s=some (.int .i64 st))(hy:ev l y=some v)(hi:sel H i=some (HP.me P t k B m lit ok f a st,H'))(kt:OW P n w0 F ops K rest l (HP.mw P k B (m+1) lit ok (eh f a v)::H')):OW P n w0 F ops K (o::rest) l H:=
 OW.act hg hd (fun ac w ha hw=>by
  obtain⟨S0,h0,_⟩:=(hw.sel hi).chunks
  obtain⟨_,es1,M,hb,hst⟩:=h0
  obtain⟨Q,I,r1,r2⟩:=hst w v hb
  have Z:w.mapTurned (setBlock w B (.map Q I)) B:=⟨es1,M,Q,I,hb,rfl⟩
  have g3:=Z.grown
  have r1':(Instr.entryStore t (.map (some B)) (.int .i64 st) v).run P w=.ok () (setBlock w B (.map Q I)):=r1
  refine⟨setBlock w B (.map Q I),by simp[execOp,ho,ha.ev hx,ha.ev hs,ha.ev hy,r1',Result.andThen],?_⟩
  exact(hw.sel hi).write (Hn:=[HP.mw P k B (m+1) lit ok (eh f a v)]) fun S hS hB=>⟨g3.os,g3.tape,g3.output,g3.size,fun q hq hn=>g3.block q hq (fun e=>hn ((hS.1 q).2 (by injection e))),S,⟨hS.1,r2⟩,fun q hq=>⟨br (hB q hq).1 g3.size,fun hh=>hh.2 hq⟩,trivial⟩) kt
end
end E
namespace Tr
def k2(k:Int×Int):Value:=.agg #[.int .u64 k.1,.int .i64 k.2]
def k3(k:Int×Int×Int):Value:=.agg #[.int .u64 k.1,.int .i64 k.2.1,.int .i64 k.2.2]
def l2(P:Program)(k:Int×Int):Lit:=(keyOf P 299 (k2 k)).getD (.bool false)
def l3(P:Program)(k:Int×Int×Int):Lit:=(keyOf P 305 (k3 k)).getD (.bool false)
def rM(n:Int):Prop:=0<=n/\n<18446744073709551616
def o2(k:Int×Int):Prop:=rM k.1/\E.gE k.2
def o3(k:Int×Int×Int):Prop:=rM k.1/\E.gE k.2.1/\E.gE k.2.2
theorem AY{n:Int}(h:rM n):(Lit.int .u64 n).wf=true:=by
 grind [rM,Lit.wf,IntKind.min,IntKind.max,IntKind.signed,IntKind.bits]
theorem I9{n:Int}(h:E.gE n):(Lit.int .i64 n).wf=true:=E.Gl h
theorem mw2{P:Program}{t e:Nat}(K:WideMaps.KeyLaw P 299)(ht:P.underlying t=some (.map 299 e))(hk:∀a b,(Lit.int .u64 a).wf=true->(Lit.int .i64 b).wf=true->∃l,keyOf P 299 (.agg #[.int .u64 a,.int .i64 b])=some l):E.Mw P t 299 e k2 (l2 P) o2:=
 ⟨K,ht,fun a ha=>by
  obtain⟨l,h⟩:=hk a.1 a.2 (AY ha.1) (I9 ha.2)
  grind [k2,l2],fun a b h=>by
  grind [k2]⟩
theorem mw3{P:Program}{t e:Nat}(K:WideMaps.KeyLaw P 305)(ht:P.underlying t=some (.map 305 e))(hk:∀a b c,(Lit.int .u64 a).wf=true->(Lit.int .i64 b).wf=true->(Lit.int .i64 c).wf=true->∃l,keyOf P 305 (.agg #[.int .u64 a,.int .i64 b,.int .i64 c])=some l):E.Mw P t 305 e k3 (l3 P) o3:=
 ⟨K,ht,fun a ha=>by
  obtain⟨l,h⟩:=hk a.1 a.2.1 a.2.2 (AY ha.1) (I9 ha.2.1) (I9 ha.2.2)
  grind [k3,l3],fun a b h=>by
  grind [k3]⟩
def TY(k:Int×Int)(x:Cl):Bool:=decide (x.tk=k.1)&&decide (x.pl=k.2)
def Vw(k:Int×Int×Int)(x:Cl):Bool:=decide (x.tk=k.1)&&(decide (x.tn=k.2.1)&&decide (x.rb=k.2.2))
def gV(L:List Cl)(k:Int×Int):Option Value:=(L.find? (TY k)).map Cl.v
def ko(L:List Cl)(k:Int×Int×Int):Option Value:=(L.find? (Vw k)).map fun x=>.int .i64 x.pl
def oO(x:Cl):Int×Int:=(x.tk,x.pl)
def GV(x:Cl):Int×Int×Int:=(x.tk,x.tn,x.rb)
variable {L:List Cl}
theorem pV{p:Cl->Bool}:(L.find? p).isSome=L.any p:=by rw[de,List.find?_isSome,ik]
theorem ac2(L:List Cl)(x:Cl):(gV L (x.tk,x.pl)).isSome=L.any fun y=>decide (y.tk=x.tk)&&decide (y.pl=x.pl):=by
 unfold gV;rw[Option.isSome_map,pV];rfl
theorem abR(L:List Cl)(x:Cl):(ko L (x.tk,x.tn,x.rb)).isSome=L.any fun y=>decide (y.tk=x.tk)&&(decide (y.tn=x.tn)&&decide (y.rb=x.rb)):=by
 unfold ko;rw[Option.isSome_map,pV];rfl
theorem tN(L:List Cl)(x:Cl):taken L x=((gV L (x.tk,x.pl)).isSome||(ko L (x.tk,x.tn,x.rb)).isSome):=by rw[ac2,abR];rfl
variable {x:Cl}
theorem nJ{p:Cl->Bool}:(L++[x]).find? p=(L.find? p).or (if p x then some x else none):=by
 simp_all
theorem BV(h:(gV L (x.tk,x.pl)).isSome=false):E.eh (gV L) (x.tk,x.pl) x.v=gV (L++[x]):=by
 grind [E.eh,gV,TY]
theorem NM(h:(ko L (x.tk,x.tn,x.rb)).isSome=false):E.eh (ko L) (x.tk,x.tn,x.rb) (.int .i64 x.pl)=ko (L++[x]):=by
 grind [E.eh,ko,Vw]
theorem RU(L:List Cl)(k:Int×Int):∃y:Cl,(gV L k).getD (.agg #[.int .u64 0,.int .i64 0,.int .i64 0,.int .i64 0])=.agg #[.int .u64 y.tk,.int .i64 y.pl,.int .i64 y.tn,.int .i64 y.rb]:=by
 unfold gV;cases L.find? (TY k) with
 |none=>exact⟨Cl.z,rfl⟩
 |some y=>exact⟨y,rfl⟩
def Cl.fit(x:Cl):Prop:=rM x.tk/\E.gE x.pl/\E.gE x.tn/\E.gE x.rb
theorem Cl.fit.a(h:x.fit):o2 (x.tk,x.pl):=⟨h.1,h.2.1⟩
theorem Cl.fit.r(h:x.fit):o3 (x.tk,x.tn,x.rb):=⟨h.1,h.2.2.1,h.2.2.2⟩
theorem IM{y:Cl}(h:lt x y):¬0<=xY x y:=by have:=HJ.2 h;omega
variable {l:List Cl}
theorem tY(h:gQ l=true){k:Nat}(hk:k<l.length):kV (l.getD k Cl.z)=true/\(¬k=0->lt (l.getD (k-1) Cl.z) (l.getD k Cl.z))/\taken (l.take k) (l.getD k Cl.z)=false:=by
 unfold gQ at h;simp only[ay,aJ,cu] at h;grind [XS]
theorem w5(h:kV x=true)(I:0<=x.tk):x.fit:=by
 grind [kV,Cl.fit,rM,E.gE]
theorem UE{k:Nat}(h:k<l.length):l.take (k+1)=l.take k++[l.getD k Cl.z]:=by
 simp_all
theorem Yw(h:taken l x=false):put l x=l++[x]:=ae (by rw[h];simp)
end Tr
namespace E
open Go Go.RowKit Go.MapKept Go.ChangeShapes Go.WideShapes Go.ChangeMaps
section
variable{α:Type}
variable {B:Nat}
def IT{P:Program}{w w':World}{r s c:Nat}{seen:Array Nat}{es:Array MapEntry}{M:Nat}{u:Value}(hr:w.heap[r]? =some (.mapIter (some B) s seen c))(hB:w.heap[B]? =some (.map es M))(Q:w'.heap[r]? =w.heap[r]?)(Z:w'.heap[B]? =w.heap[B]?)(h:(Instr.entry (.pointer (some ⟨r,0,none⟩))).run P w=.ok u w):(Instr.entry (.pointer (some ⟨r,0,none⟩))).run P w'=.ok u w':=by
 rw[hr] at Q;rw[hB] at Z;simp only[Instr.entry,getObj,Sem.run_bind,Sem.run,hr,Q,Result.andThen] at h⊢;split at h
 ·rename_i st _;simp only[getObj,Sem.run_bind,Sem.run,hB,Z,Result.andThen] at h⊢;by_cases hc:(M !=c)=true
  ·simp_all
  rw[ae hc] at h;rw[ae hc];cases hf:Array.find? (fun x=>x.born==st) es with
  |none=>simp_all
  |some e=>
   simp_all
 simp_all
structure CN(D:DataW Value)(lit:α->Lit)(ok:α->Prop)(f:α->Option Value):Prop where
 at_:∀a z,ok a->D.atKey (lit a) z=Rv (f a) z
 has:∀a,ok a->Maps.has D (lit a)=(f a).isSome
 key:∀kl,Maps.has D kl=true->∃a,ok a/\kl=lit a
def HP.mr(P:Program)(k B R m:Nat)(lit:α->Lit)(ok:α->Prop)(f:α->Option Value)(left:α->Bool)(dF:Nat)(cur:Option Value):HP where
 bA S w:=(∀q,S q↔q=B\/q=R)/\∃D lf,w.ranges P k vR B R m D lf dF/\CN D lit ok f/\(∀a,ok a->lf (lit a)=left a)/\(∀kl,lf kl=true->∃a,ok a/\kl=lit a)/\
  ∀u,cur=some u->(Instr.entry (.pointer (some ⟨R,0,.none⟩))).run P w=.ok u w
 loc:=fun S w w' h ⟨Q,D,lf,h2,h3,h4,h5,h6⟩=>by
  have Z:w'.heap[B]? =w.heap[B]? :=h B ((Q B).2 (.inl rfl))
  have hR:w'.heap[R]? =w.heap[R]? :=h R ((Q R).2 (.inr rfl))
  obtain⟨es,M,since,seen,c0,g1,g2,g3,g4,g5,g6⟩:=h2
  exact⟨Q,D,lf,⟨es,M,since,seen,c0,Z.trans g1,g2,g3,g4,hR.trans g5,g6⟩,h3,h4,h5,fun u hu=>IT g5 g1 hR Z (h6 u hu)⟩
variable{P:Program}{t k e:Nat}{kk:α->Value}{lit:α->Lit}{ok:α->Prop}{f:α->Option Value}{left:α->Bool}{cur:Option Value}
variable{n:Fr}{w0:World}{F:Nat->Prop}{K:Kt}{l:Env}{H:List HP}{o:Oper}
variable {H':List HP}{R dF d i m:Nat}{a:α}{ops:Array Oper}{rest:List Oper}{x:Operand}
theorem HA.mr{w:World}(h:HA w0 F H w)(hi:E.sel H i=some (HP.mr P k B R m lit ok f left dF cur,H')):
  ∃D lf,w.ranges P k vR B R m D lf dF/\CN D lit ok f/\(∀a,ok a->lf (lit a)=left a)/\(∀kl,lf kl=true->∃a,ok a/\kl=lit a)/\
  ∀u,cur=some u->(Instr.entry (.pointer (some ⟨R,0,.none⟩))).run P w=.ok u w:=by
 obtain⟨S,M,_⟩:=(h.sel hi).chunks;exact M.2
def OW.zO(hM:Mw P t k e kk lit ok)(ho:o.op=.range t x)(hg:gd ops l o.guard=some true)(hd:o.dst=some d)(hn:Nat.blt d n.sz=true)(hx:ev l x=some (.map (some B)))(hi:sel H i=some (HP.mw P k B m lit ok f,H'))(kt:∀R dF,dF<=m->OW P n w0 F ops K rest ((d,.pointer (some ⟨R,0,.none⟩))::l) (HP.mr P k B R m lit ok f (fun a=>(f a).isSome) dF none::H')):OW P n w0 F ops K (o::rest) l H:=
 OW.step hg hd hn (fun v H1=>∃R dF,dF<=m/\v=.pointer (some ⟨R,0,.none⟩)/\H1=HP.mr P k B R m lit ok f (fun a=>(f a).isSome) dF none::H')
  (fun ac w ha hw=>by
   obtain⟨D,h1,h2,h3,h4⟩:=hw.mw hi
   obtain⟨w',M,r1,Q,r3⟩:=h1.range hM.kd hM.ht
   refine⟨_,w',_,by simp[execOp,ho,ha.ev hx,M],⟨w.heap.size,Maps.size D,h1.size_le,rfl,rfl⟩,?_⟩
   refine(hw.sel hi).write (Hn:=[HP.mr P k B w.heap.size m lit ok f (fun a=>(f a).isSome) (Maps.size D) none]) fun S hS hB=>⟨Q.os,Q.tape,Q.output,Q.size,fun q Z hn=>Q.block q Z (by simp),fun q=>q=B\/q=w.heap.size,⟨fun _=>Iff.rfl,D,Maps.has D,r1,⟨h2,h3,h4⟩,fun a ha=>h3 a ha,h4,fun u hu=>by cases hu⟩,fun q Z=>?_,trivial⟩
   rcases Z with rfl|rfl
   ·have hb:=(hB _ ((hS.1 _).2 rfl)).1
    exact⟨K1,fun hh=>hh.2 ((hS.1 _).2 rfl)⟩
   omega)
  (fun v H1 ⟨R,dF,hc,hv,hH⟩=>by grind)
def Mw.same(M:Mw P t k e kk lit ok)[DecidableEq α]{b:α}(ha:ok a)(Q:ok b):(lit b).sameKey (lit a)=decide (b=a):=by
 by_cases h:b=a
 ·subst h;rw[WideAt.sameKey_self (M.kd.key (M.key b Q))];simp
 rw[aV h];cases hs:(lit b).sameKey (lit a)
 ·rfl
 exact absurd (M.inj Q ha (WideAt.sameKey_eq hs)) h
def rd_some{r:Option Value}{v:Value}(h:∀z,Rv r z=.held v):r=some v:=by
 have:=h .nil;cases r with
 |none=>cases this
 |some u=>grind [Rv]
def OW.FV[DecidableEq α](hM:Mw P t k e kk lit ok)(ho:o.op=.next x false)(hg:gd ops l o.guard=some true)(hd:o.dst=some d)(hn:Nat.blt d n.sz=true)(hx:ev l x=some (.pointer (some ⟨R,0,none⟩)))(hi:sel H i=some (HP.mr P k B R m lit ok f left dF cur,H'))(k0:(∀a,ok a->left a=false)->OW P n w0 F ops K rest ((d,.tuple #[.bool false])::l) (HP.mr P k B R m lit ok f left dF cur::H'))(k1:∀a v M,ok a->left a=true->f a=some v->M<dF->OW P n w0 F ops K rest ((d,.tuple #[.bool true,kk a,v])::l) (HP.mr P k B R m lit ok f (fun b=>left b&& !decide (b=a)) M (some (.tuple #[kk a,v]))::H')):
  OW P n w0 F ops K (o::rest) l H:=
 OW.step hg hd hn (fun v H1=>((∀a,ok a->left a=false)/\v=.tuple #[.bool false]/\H1=HP.mr P k B R m lit ok f left dF cur::H')\/
   ∃a u M,ok a/\left a=true/\f a=some u/\M<dF/\v=.tuple #[.bool true,kk a,u]/\H1=HP.mr P k B R m lit ok f (fun b=>left b&& !decide (b=a)) M (some (.tuple #[kk a,u]))::H')
  (fun ac w ha hw=>by
   obtain⟨D,lf,h1,h2,h3,h4,h5⟩:=hw.mr hi
   rcases h1.next hM.kd o.type with⟨h0,hl,Q⟩|⟨key,v,kl,y,w',M,hkey,hlk,hR,hat,Q,r1,r2,r3,r4,r5⟩
   ·exact⟨_,w,_,by simp[execOp,ho,ha.ev hx,Q],.inl ⟨fun a Z=>by grind,rfl,rfl⟩,hw.sel hi⟩
   ·obtain⟨a,Z,hka⟩:=h4 kl hlk
    subst hka
    have hkk:key=kk a:=hM.K.inj hkey (hM.key a Z)
    subst hkk
    have hfa:f a=some v:=by
     refine rd_some fun z=>?_;rw[<-h2.at_ a z Z,hat];unfold vR at hR;grind
    refine⟨_,w',_,by simp[execOp,ho,ha.ev hx,Q],.inr ⟨a,v,M,Z,by grind,hfa,r2,rfl,rfl⟩,?_⟩
    refine(hw.sel hi).write (Hn:=[_]) fun S hS hB=>⟨r3.os,r3.tape,r3.output,r3.size,fun q hq hn=>r3.block q hq (fun e=>hn ((hS.1 q).2 (.inr (by injection e)))),S,⟨hS.1,D,_,r1,h2,fun b hb=>?_,fun kl hkl=>h4 kl (by simp at hkl;exact hkl.1),fun u hu=>by cases hu;exact r5⟩,fun q hq=>⟨br (hB q hq).1 r3.size,fun hh=>hh.2 hq⟩,trivial⟩
    show(lf (lit b)&& !(lit b).sameKey (lit a))=_
    rw[h3 b hb,hM.same Z hb])
  (fun v H1 hh=>by
   grind)
def OW.aaN{u:Value}(ho:o.op=.entry x)(hg:gd ops l o.guard=some true)(hd:o.dst=some d)(hn:Nat.blt d n.sz=true)(hx:ev l x=some (.pointer (some ⟨R,0,none⟩)))(hi:sel H i=some (HP.mr P k B R m lit ok f left dF (some u),H'))(kt:OW P n w0 F ops K rest ((d,u)::l) (HP.mr P k B R m lit ok f left dF none::H')):OW P n w0 F ops K (o::rest) l H:=
 OW.step hg hd hn (fun v Q=>v=u/\Q=HP.mr P k B R m lit ok f left dF none::H')
  (fun ac w ha Z=>by
   obtain⟨D,lf,h1,h2,h3,h4,h5⟩:=Z.mr hi
   have M:=h5 u rfl
   refine⟨u,w,_,by simp[execOp,ho,ha.ev hx,M],⟨rfl,rfl⟩,?_⟩
   have h7:=Z.sel hi
   obtain⟨S,⟨g1,D,lf,g2,g3,g4,g5,g6⟩,g7,g8⟩:=h7.chunks
   exact{h7 with chunks:=⟨S,⟨g1,D,lf,g2,g3,g4,g5,fun u hu=>by cases hu⟩,g7,g8⟩})
  (fun v Q ⟨hv,hH⟩=>by subst hv hH;exact kt)
def CW.H5{c:Code}(hi:sel H i=some (HP.mr P k B R m lit ok f left dF cur,H'))(kt:CW P n w0 F c K l (HP.mw P k B m lit ok f::H')):CW P n w0 F c K l H:=fun ac w ha hw=>by
 refine kt ac w ha ?_
 have Z:=hw.sel hi
 obtain⟨S,⟨g1,D,lf,g2,Q,g4,g5,g6⟩,g7,g8⟩:=Z.chunks
 have g9:=g2.owns
 exact{Z with chunks:=⟨fun q=>q=B,⟨fun _=>Iff.rfl,D,g9,Q.at_,Q.has,Q.key⟩,fun q M=>g7 q ((g1 q).2 (.inl M)),g8.mono fun q M=>M.elim .inl fun M=>.inr ((g1 q).2 (.inl M))⟩}
def wY[DecidableEq α](hM:Mw P t k e kk lit ok){D:DataW Value}(h:CN D lit ok f)(M:ok a):CN (D.del (lit a)) lit ok (N0 f a):=by
 refine⟨fun b z Q=>?_,fun b Q=>?_,fun kl Z=>?_⟩
 ·unfold N0;by_cases hba:b=a
  ·subst hba;rw[aa rfl,Maps.atKey_del_same];rfl
  rw[ae hba,Maps.atKey_del_other (fun he=>hba (hM.inj Q M he)),h.at_ b z Q]
 ·unfold N0;by_cases hba:b=a
  ·subst hba;rw[aa rfl,Maps.has_del_same];rfl
  rw[ae hba,Maps.has_del_other (fun he=>hba (hM.inj Q M he)),h.has b Q]
 by_cases hka:kl=lit a
 ·exact⟨a,M,hka⟩
 rw[Maps.has_del_other hka] at Z;exact h.key kl Z
def OW.acq[DecidableEq α]{y:Operand}(hM:Mw P t k e kk lit ok)(ho:o.op=.call {callee:=.builtin .delete,args:= #[x,y],argTypes:= #[t,k]})(hg:gd ops l o.guard=some true)(hd:o.dst=none)(hx:ev l x=some (.map (some B)))(hy:ev l y=some (kk a))(hi:sel H i=some (HP.mw P k B m lit ok f,H'))(Q:ok a)(kt:OW P n w0 F ops K rest l (HP.mw P k B m lit ok (N0 f a)::H')):OW P n w0 F ops K (o::rest) l H:=
 OW.U8 hg hd (fun ac w ha hw=>by
  obtain⟨D,h1,h2,h3,h4⟩:=hw.mw hi
  obtain⟨w',Z,g1,g2⟩:=h1.drop hM.kd hM.ht (hM.key a Q) o.type
  have M:=g2.grown
  have g4:=wY hM (⟨h2,h3,h4⟩:CN D lit ok f) Q
  refine⟨.tuple #[],w',by simp[execOp,ho,resolve,invoke,builtin,ha.ev hx,ha.ev hy,Z,Result.andThen],?_⟩
  exact(hw.sel hi).write (Hn:=[HP.mw P k B m lit ok (N0 f a)]) fun S hS hB=>⟨M.os,M.tape,M.output,M.size,fun q hq hn=>M.block q hq (fun e=>hn ((hS.1 q).2 (by injection e))),S,⟨hS.1,_,g1,g4.at_,g4.has,g4.key⟩,fun q hq=>⟨br (hB q hq).1 M.size,fun hh=>hh.2 hq⟩,trivial⟩) kt
def OW.acv[DecidableEq α]{y:Operand}(hM:Mw P t k e kk lit ok)(ho:o.op=.call {callee:=.builtin .delete,args:= #[x,y],argTypes:= #[t,k]})(hg:gd ops l o.guard=some true)(hd:o.dst=none)(hx:ev l x=some (.map (some B)))(hy:ev l y=some (kk a))(hi:sel H i=some (HP.mr P k B R m lit ok f left dF none,H'))(Z:ok a)(hla:left a=false)(kt:∀c,c<=dF->OW P n w0 F ops K rest l (HP.mr P k B R m lit ok (N0 f a) left c none::H')):OW P n w0 F ops K (o::rest) l H:=fun ac0 w0' M hw0=>by
 refine wpListIn_step fun K' hK'=>?_
 rw[aa (M.wanted hg)]
 obtain⟨D,lf,h1,h2,h3,h4,h5⟩:=hw0.mr hi
 obtain⟨w',Q,hrun,g1,gc,g2⟩:=h1.drop hM.kd hM.ht (hM.key a Z) o.type
 have g3:=g2.grown
 have hr:(execOp ac0.eval o).run P w0'=.ok (.value (.tuple #[])) w':=by simp[execOp,ho,resolve,invoke,builtin,M.ev hx,M.ev hy,hrun,Result.andThen]
 refine lZ hr ?_
 rw[hd]
 refine hK' _ _ (kt Q gc _ _ (M.lW _) ?_)
 refine(hw0.sel hi).write (Hn:=[HP.mr P k B R m lit ok (N0 f a) left Q none]) fun S hS hB=>⟨g3.os,g3.tape,g3.output,g3.size,fun q hq hn=>g3.block q hq (fun e=>hn ((hS.1 q).2 (.inl (by injection e)))),S,⟨hS.1,_,_,g1,wY hM h2 Z,fun b hb=>?_,fun kl hkl=>h4 kl (by simp at hkl;exact hkl.1),fun u hu=>by cases hu⟩,fun q hq=>⟨br (hB q hq).1 g3.size,fun hh=>hh.2 hq⟩,trivial⟩
 show(lf (lit b)&& !(lit b).sameKey (lit a))=left b
 rw[h3 b hb,hM.same Z hb]
 by_cases hba:b=a
 ·subst hba;rw[hla];rfl
 grind
variable{β:Type}
def YW(P:Program)(L:Nat)(vl:β->Value)(I:List β->β->Prop)(p:List β->HP):Prop:=
 ∀pre x (w:World) (S:Nat->Prop),I pre x->(p pre).bA S w->(∀k,S k->k<w.heap.size)->
  YieldAt Fence.wide 0 P L #[vl x] w fun e w'=>e=.returned (.bool true)/\HA w (fun k=>k<w.heap.size/\¬S k) [p (pre++[x])] w'
variable {I:List β->β->Prop}{p:List β->HP}
def OW.Wh{L:Nat}{fo xo:Operand}{ts:Array TypeId}{vl:β->Value}{pre:List β}{x:β}(hg:gd ops l o.guard=some true)(hd:o.dst=some d)(hn:Nat.blt d n.sz=true)(ho:o.op=.call {callee:=.value fo,args:= #[xo],argTypes:=ts})(Z:ev l fo=some (.func (.yield L) #[] #[]))(hx:ev l xo=some (vl x))(hY:YW P L vl I p)(i:Nat)(hi:sel H i=some (p pre,H'))(hI:I pre x)(k:OW P n w0 F ops K rest ((d,.bool true)::l) (p (pre++[x])::H')):OW P n w0 F ops K (o::rest) l H:=fun a w ha hw=>by
 refine wpListIn_step fun K' hK'=>?_
 rw[aa (ha.wanted hg)]
 have hw1:=hw.perm (an hi)
 obtain⟨S,h1,h2,h3,h4,h5⟩:=hw1.focus
 obtain⟨f,tmps,assign,M,hy,hr⟩:=hY pre x w S hI h1 fun k hk=>(h2 k hk).1
 have Q:(execOp a.eval o).run P w=.ok (.round L f tmps assign M) w:=by
  simp[execOp,ho,resolve,Deferred.ofValue,invoke,Sem.run_bind,ha.ev Z,ha.ev hx,hy]
 refine⟨fun _ _=>trivial,?_⟩;rw[jg Q (by simp)]
 refine⟨(fun h=>by cases h),RoundIn.mono hr fun e w' he=>?_⟩
 obtain⟨rfl,hw'⟩:=he;show K' (a.put o.dst (.bool true)) w';rw[hd];exact hK' _ _ (k _ _ (ha.put hn _) (h5 _ _ hw'))
def CW.X0{g:Operand}{t:Nat}{assign body:Code}{gf:Nat}{aE:bi}{vl:β->Value}{Q:List β->HP->Prop}{A:HP}{ds:List Nat}{lb:Env}{H1 H2:List HP}(ks:List Nat)(hk:pick l ks=some lb)(hno:lk lb 9999=none)(hm:n.mm=true)(hr:n.rd=none)(ht:Nat.blt t n.sz=true)(hf:Nm P gf)(hg:ev l g=some (.func (.func gf) #[] aE.toArray))(fZ:lk l 9999=some (marks ds))(i j u:Nat)(hi:sel H i=some (p [],H1))(hj:sel H1 j=some (HP.marks ds,H2)){Z:List HP}(hu:sel H2 u=some (A,Z))(it:∀w S L q,HA w0 F Z w->YW P L vl I q->(HP.dj [q [],A]).bA S w->(∀k,S k->k<w.heap.size/\¬F k)->
   Calls P gf ((.func (.yield L) #[] #[]::aE).toArray) w (bK w (fun k=>k<w.heap.size/\¬S k) fun _ Hn=>∃xs A',Q xs A'/\Hn=[HP.dj [q xs,A']]))(hb:∀L pre x,I pre x->∀W F',CW P ⟨n.sz,some L,false⟩ W F' assign (fun e l' H'=>e=.normal/\∃g,(∀w U,ah w U H'->ah w U [g])/\
   ∀W F',CW P ⟨n.sz,some L,false⟩ W F' body (fun e l2 H2=>e=.normal/\∃is,E.sels H2 is=some [p (pre++[x])]) l' [g]) ((t,vl x)::lb) [p pre])(k:∀D xs A',Q xs A'->K .normal ((9999,marks (D::ds))::l) (HP.marks (D::ds)::p xs::A'::Z)):CW P n w0 F (.rangeFunc g #[t] assign body) K l H:=fun a w ha hw=>by
 refine wpIn_rangeFunc fun fn hfn=>?_
 obtain⟨rec,M⟩:∃rec:LoopState->Loop,rec=fun st=>{state:=st,pending:=none,fn,tmps:=a.tmps,params:= #[t],assign,body,defers:=w.heap.size}:=⟨_,rfl⟩
 obtain⟨W1,hW1⟩:∃W1,(w.alloc (.deferred (some []))).alloc (.loop (rec .ready))=W1:=⟨_,rfl⟩
 obtain⟨q,hq⟩:∃q:List β->HP,q=fun pre=>HP.dj [HP.obj (w.heap.size+1) (.loop (rec .ready)),p pre]:=⟨_,rfl⟩
 have hsz:(w.alloc (.deferred (some []))).heap.size=w.heap.size+1:=by rw[World.size_alloc]
 have hA:HA w0 F (HP.obj (w.heap.size+1) (.loop (rec .ready))::HP.obj w.heap.size (.deferred (some []))::H) W1:=by
  rw[<-hW1,<-hsz];exact(hw.newObj _).newObj _
 have hperm:HA w0 F (HP.dj [q [],A]::HP.obj w.heap.size (.deferred (some []))::HP.marks ds::Z) W1:=by
  have h1:HA w0 F (HP.obj (w.heap.size+1) (.loop (rec .ready))::p []::A::HP.obj w.heap.size (.deferred (some []))::HP.marks ds::Z) W1:=by
   refine hA.perm (List.Perm.cons _ ?_);have e1:=(an hi).trans (((an hj).trans ((an hu).cons _)).cons _);refine(e1.cons _).trans ?_;refine(List.Perm.swap _ _ _).trans (List.Perm.cons _ ?_);refine((List.Perm.swap _ _ _).cons _).trans ?_;exact(List.Perm.swap _ _ _)
  have h2:HA w0 F (q []::A::HP.obj w.heap.size (.deferred (some []))::HP.marks ds::Z) W1:=by
   rw[hq];exact{h1 with chunks:=ah.aX (ps:=[_,_]) h1.chunks}
  exact{h2 with chunks:=ah.aX (ps:=[_,_]) h2.chunks}
 obtain⟨S,h1,h2,h3,h4,h5⟩:=hperm.focus;have hH2:HA w0 F Z W1:=hperm.drop.drop.drop
 have hy:YW P (w.heap.size+1) vl I q:=by
  intro pre x v T hxs hs hlt;have e0:HA v (fun k=>k<v.heap.size/\¬T k) [q pre] v:=⟨rfl,rfl,rfl,bb _,fun _ hk=>hk.1,fun _ _=>rfl,T,hs,fun k hk=>⟨hlt k hk,fun hn=>hn.2 hk⟩,trivial⟩;rw[hq] at e0;have e1:HA v (fun k=>k<v.heap.size/\¬T k) (HP.obj (w.heap.size+1) (.loop (rec .ready))::p pre::[]) v:={e0 with chunks:=by simpa using e0.chunks.open}
  have hl:=e1.lH;have hy:=run_yield (P:=P) (args:= #[vl x]) hl (by rw[M];rfl)
  rw[M] at hy;refine⟨fn,_,assign,body,hy,roundIn_of_wpIn hfn ?_⟩;have ha1:=hb (w.heap.size+1) pre x hxs
  have hag:Ag ⟨n.sz,some (w.heap.size+1),false⟩ ((t,vl x)::lb) {tmps:=(#[t].zip #[vl x]).foldl (fun tm (t,a)=>tm.setIfInBounds t a) a.tmps,defers:=[]}:=by
   have hag0:Ag ⟨n.sz,some (w.heap.size+1),false⟩ lb {tmps:=a.tmps,defers:=[]}:=by
    refine⟨ha.size,ha.small,fun _=>rfl,fun s v hv=>?_⟩;have h1:=ha.at_ s v ((uh hk).lk s v hv);grind [At,Nat.eq_of_beq_eq_true]
   have:=hag0.put (d:=t) ht (vl x);simpa[Act.put] using this
  obtain⟨T2,t1,t2,t3,t4,t5⟩:=(e1.perm (List.Perm.swap _ _ _)).focus;refine wpIn_mono (ha1 _ _ _ _ hag t4) fun e a1 v1 ⟨l',H',g1,g2,g3,g,g4,hb1⟩=>?_;subst g3;have g2':={g2 with chunks:=g4 _ _ g2.chunks}
  have e2:=(t5 _ _ g2').perm (List.Perm.swap _ _ _);have hl2:=e2.lH;refine⟨_,run_beginRound hl2 (by rw[M]),?_⟩
  have e3:=e2.putObj (o':=.loop {rec .ready with state:=.busy})
  obtain⟨T3,u1,u2,u3,u4,u5⟩:=(e3.perm (List.Perm.swap _ _ _)).focus;refine wpIn_mono (hb1 _ _ _ _ g1 u4) fun e a2 v2 ⟨l2,Z,m1,m2,m3,is,m4⟩=>?_;subst m3;have e4:=(u5 _ _ (m2.sels m4)).perm (List.Perm.swap _ _ _);have hl3:=e4.lH;have hend:=run_endRound (P:=P) none hl3;refine⟨_,_,hend,rfl,?_⟩;have e5:=e4.putObj (o':=.loop {{rec .ready with state:=.busy} with state:=if(none:Option Code).isNone then .ready else .done,pending:=none})
  rw[hq];have:(Obj.loop {{rec .ready with state:=.busy} with state:=if(none:Option Code).isNone then .ready else .done,pending:=none})=.loop (rec .ready):=by rw[M];rfl
  rw[this] at e5⊢;exact{e5 with chunks:=ah.aX (ps:=[_,_]) e5.chunks}
 refine⟨w.heap.size+1,[{target:=.collected w.heap.size,args:= #[]}],W1,{target:=.fn (.func gf) aE.toArray,args:= #[.func (.yield (w.heap.size+1)) #[] #[]]},W1,gf,
  #[.func (.yield (w.heap.size+1)) #[] #[]]++aE.toArray,W1,?_,?_,fun _ _=>trivial,?_,(fun h=>by cases h),?_⟩
 ·grind [run_enterLoop_outer]
 ·have hev:=ha.ev hg;simp only[resolve,hev];simp[go_sem]
 ·obtain⟨gn,f1,f2,f3⟩:=hf;have hb:gn.body≠none:=by intro h;rw[h] at f2;cases f2
  have hn:gn.name≠ "runtime.NumGoroutine" :=by simpa using f3
  simp[invoke,callFunc,program,Sem.run,f1,hn,hb]
 have hc:=it W1 S (w.heap.size+1) q hH2 hy h1 h2;have harr:(#[.func (.yield (w.heap.size+1)) #[] #[]]++aE.toArray:Array Value)=(.func (.yield (w.heap.size+1)) #[] #[]::aE).toArray:=by simp
 rw[harr];refine CallsIn.mono (qo hc) fun e w3 ⟨v,Hn,he,hR,hw3⟩=>?_;subst he;obtain⟨xs,A',hQ,hR⟩:=hR;subst hR;have e6:=h5 _ _ hw3;rw[hq] at e6;have e7a:HA w0 F (HP.dj [HP.obj (w.heap.size+1) (.loop (rec .ready)),p xs]::A'::HP.obj w.heap.size (.deferred (some []))::HP.marks ds::Z) w3:={e6 with chunks:=by simpa using e6.chunks.open}
 have e7:HA w0 F (HP.obj (w.heap.size+1) (.loop (rec .ready))::p xs::A'::HP.obj w.heap.size (.deferred (some []))::HP.marks ds::Z) w3:={e7a with chunks:=by simpa using e7a.chunks.open}
 have hl4:=e7.lH;obtain⟨o4,ho4⟩:∃o4,o4=Obj.loop {rec .ready with state:=.exhausted}:=⟨_,rfl⟩
 have hend:(Instr.endLoop (w.heap.size+1)).run P w3=.ok none (w3.putObj (w.heap.size+1) o4):=by
  grind [run_endLoop]
 refine⟨none,_,hend,?_⟩;have e8:=(e7.putObj (o':=o4)).drop;refine⟨_,_,ha.mark hm fZ w.heap.size,?_,k w.heap.size xs A' hQ⟩
 have e9:HA w0 F (HP.obj w.heap.size (.deferred (some []))::HP.marks ds::p xs::A'::Z) (w3.putObj (w.heap.size+1) o4):=by
  refine e8.perm ?_;exact(((List.Perm.swap _ _ _).cons _).trans (List.Perm.swap _ _ _)).trans ((((List.Perm.swap _ _ _).cons _).trans (List.Perm.swap _ _ _)).cons _)
 exact{e9 with chunks:=ah.mB e9.chunks}
end
end E
namespace Tr
structure Uq(L:List Cl):Prop where
 a:∀x∈L,∀y∈L,oO x=oO y->x=y
 b:∀x∈L,∀y∈L,GV x=GV y->x=y
 f:∀x∈L,x.fit
variable {L:List Cl}{k:Int×Int×Int}{lf:Int×Int->Bool}{p q:Cl->Bool}{r t:Int}{v:Value}{x:Cl}
theorem Uq.sub{M:List Cl}(h:Uq L)(hs:∀x∈M,x∈L):Uq M:=⟨fun x I y Q=>h.a x (hs x I) y (hs y Q),fun x I y Q=>h.b x (hs x I) y (hs y Q),fun x I=>h.f x (hs x I)⟩
theorem Uq.filter{L:List Cl}(h:Uq L)(p:Cl->Bool):Uq (L.filter p):=h.sub fun _ I=>(gN.1 I).1
theorem nt{k:Int×Int}:TY k x=true↔oO x=k:=by
 grind [TY,oO]
theorem sZ:Vw k x=true↔GV x=k:=by
 grind [Vw,GV]
theorem Uu(I:x∈L)(hp:p x=true)(M:∀y∈L,p y=true->y=x):L.find? p=some x:=by
 cases hf:L.find? p with
 |none=>grind
 |some y=>grind
theorem GU(I:∀y∈L,p y=false):L.find? p=none:=List.find?_eq_none.2 fun y M=>by rw[I y M];simp
theorem Uq.abu(h:Uq L)(I:x∈L):gV L (oO x)=some x.v:=by
 unfold gV;rw[Uu I (nt.2 rfl) fun y M hp=>h.a y M x I (nt.1 hp)];rfl
theorem Vf{k:Int×Int}(h:gV L k=some v):∃x∈L,k=oO x/\v=x.v:=by
 unfold gV at h;cases hf:L.find? (TY k) with
 |none=>rw[hf] at h;cases h
 |some x=>
  grind [nt]
theorem acU(h:ko L k=some v):∃x∈L,k=GV x/\v=.int .i64 x.pl:=by
 unfold ko at h;cases hf:L.find? (Vw k) with
 |none=>rw[hf] at h;cases h
 |some x=>
  grind [sZ]
theorem acm(I:x∈L):(ko L (GV x)).isSome=true:=by
 grind [ko,sZ]
theorem ui(I:x∈L):(gV L (oO x)).isSome=true:=by
 grind [gV,nt]
def wo(p:Cl->Bool)(x y:Cl):Bool:=p y&& !decide (y=x)
theorem lX{r:Cl->Bool}(I:r x=false):(L.filter (wo p x)).find? r=(L.filter p).find? r:=by
 induction L with
 |nil=>rfl
 |cons y l M=>
  grind [wo]
theorem WI(h:Uq L)(I:x∈L.filter p):E.N0 (gV (L.filter p)) (oO x)=gV (L.filter (wo p x)):=by
 funext k;unfold E.N0;by_cases hk:k=oO x
 ·subst hk;rw[aa rfl];unfold gV;rw[GU fun y M=>?_];rfl;obtain⟨Q,Z⟩:=gN.1 M;rw[<-kT,nt];intro he;have:=h.a y Q x (gN.1 I).1 he;subst this;simp[wo] at Z
 grind [gV,lX,nt]
theorem XW(h:Uq L)(I:x∈L.filter p):E.N0 (ko (L.filter p)) (GV x)=ko (L.filter (wo p x)):=by
 funext k;unfold E.N0;by_cases hk:k=GV x
 ·subst hk;rw[aa rfl];unfold ko;rw[GU fun y M=>?_];rfl;obtain⟨Q,Z⟩:=gN.1 M;rw[<-kT,sZ];intro he;have:=h.b y Q x (gN.1 I).1 he;subst this;simp[wo] at Z
 grind [ko,lX,sZ]
structure Dr(L:List Cl)(q p:Cl->Bool)(lf:Int×Int->Bool):Prop where
 d:∀x∈L,lf (oO x)=false->p x= !q x
 o:∀x∈L,lf (oO x)=true->p x=true
theorem Dr.start(L:List Cl)(q:Cl->Bool):Dr L q (fun _=>true) fun a=>(gV L a).isSome:=⟨fun x I h=>absurd ((ui I).symm.trans h) (by simp),fun _ _ _=>rfl⟩
theorem Dr.fS(h:Dr L q p lf)(Z:Uq L)(hx:x∈L.filter p)(hq:q x=false):Dr L q p fun b=>lf b&& !decide (b=oO x):=by
 obtain⟨M,Q⟩:=gN.1 hx;refine⟨fun y I hl=>?_,fun y I hl=>?_⟩
 ·by_cases he:oO y=oO x
  ·rw[Z.a y I x M he,Q,hq];rfl
  rw[aV he,rm,oT] at hl;exact h.d y I hl
 simp only[ay] at hl;exact h.o y I hl.1
theorem Dr.drop(h:Dr L q p lf)(Z:Uq L)(hx:x∈L.filter p)(hq:q x=true):Dr L q (wo p x) fun b=>lf b&& !decide (b=oO x):=by
 obtain⟨Q,hx2⟩:=gN.1 hx;refine⟨fun y M hl=>?_,fun y M hl=>?_⟩
 ·by_cases I:y=x
  ·subst I;unfold wo;simp[hq]
  have hk:¬oO y=oO x:=fun hk=>I (Z.a y M x Q hk);rw[aV hk,rm,oT] at hl;unfold wo;rw[aV I,h.d y M hl];simp
 simp only[ay,dG,decide_eq_false_iff_not] at hl;unfold wo;rw[h.o y M hl.1,aV fun I=>hl.2 (by rw[I])];rfl
theorem Dr.done(h:Dr L q p lf)(M:Uq L)(hl:∀a,o2 a->lf a=false):L.filter p=L.filter fun x=> !q x:=
 sQ fun x I=>h.d x I (hl _ (M.f x I).a)
theorem Df(L:List Cl):L.filter (fun _=>true)=L:=lE.2 fun _ _=>rfl
theorem SL{a:Int×Int×Int}(h:ko L a=some v)(ht:a.2.1=t)(I:a.2.2=r):has L t r=true:=by
 obtain⟨x,M,rfl,_⟩:=acU h;unfold has;rw[ik];exact⟨x,M,by simp only[ay,ax];exact⟨ht,I⟩⟩
theorem Y9{lf:Int×Int×Int->Bool}(Q:∀x∈L,x.fit)(h:∀a,(ko L a).isSome=true->lf a=false->¬(a.2.1=t/\a.2.2=r))(hl:∀a,o3 a->lf a=false):has L t r=false:=by
 unfold has;rw[mO];intro x I M;simp only[ay,ax] at M;exact h (GV x) (acm I) (hl _ (Q x I).r) M
structure Vs(L pre:List Cl)(lf:Int×Int->Bool):Prop where
 nd:pre.Nodup
 sub:∀x∈pre,x∈L
 out:∀x∈pre,lf (oO x)=false
 all:∀x∈L,lf (oO x)=false->x∈pre
theorem Vs.start(L:List Cl):Vs L [] fun a=>(gV L a).isSome:=⟨List.nodup_nil,fun _ h=>absurd h bg,fun _ h=>absurd h bg,fun x I h=>absurd ((ui I).symm.trans h) (by simp)⟩
theorem Vs.next{pre:List Cl}(h:Vs L pre lf)(hU:Uq L)(hx:x∈L)(hl:lf (oO x)=true):Vs L (pre++[x]) fun b=>lf b&& !decide (b=oO x):=by
 have hn:x∉pre:=fun hp=>by rw[h.out x hp] at hl;cases hl
 refine⟨jc.2 ⟨h.nd,List.pairwise_singleton _ _,fun a ha b hb Z=>hn (by grind)⟩,fun y I=>?_,fun y I=>?_,fun y I M=>?_⟩
 ·rcases aN.1 I with Q|Q
  ·exact h.sub y Q
  grind
 ·rcases aN.1 I with Q|Q
  ·simp only[h.out y Q,yN]
  grind
 by_cases Z:oO y=oO x
 ·rw[hU.a y I x hx Z];grind
 rw[aV Z,rm,oT] at M;exact aN.2 (.inl (h.all y I M))
theorem Vs.done{pre:List Cl}(h:Vs L pre lf)(M:Uq L)(Q:L.Nodup)(hl:∀a,o2 a->lf a=false):pre.Perm L:=
 (List.perm_ext_iff_of_nodup h.nd Q).2 fun x=>⟨h.sub x,fun I=>h.all x I (hl _ (M.f x I).a)⟩
theorem Rj{lf:Int×Int×Int->Bool}(h:∀a,(ko L a).isSome=true->lf a=false->¬(a.2.1=t/\a.2.2=r))(hk:¬(k.2.1=t/\k.2.2=r)):
  ∀a,(ko L a).isSome=true->(lf a&& !decide (a=k))=false->¬(a.2.1=t/\a.2.2=r):=fun a I M=>by
 grind
end Tr
namespace E
open Go Go.RowKit Go.Sort
section
variable{α:Type}[Inhabited α]{f:α->bi}{sz:Nat}
def Hv(h:Fx f sz)(d:Array α):(flatK f sz d).toList=fl f d.toList:=by
 apply nB;intro t;by_cases ht:t<d.size*sz
 ·have hs:=h.pos;have hk:t/sz<d.size:=tE (by grind)
  have M:t%sz<sz:=gk _ hs;have e:t/sz*sz+t%sz=t:=by rw[Nat.mul_comm];exact Nat.div_add_mod t sz
  have hl:(f d[t/sz]!).length=sz:=h.len _
  have I:(fl f d.toList)[t/sz*sz+t%sz]? =some (f d[t/sz]!)[t%sz]! :=by
   refine h.get (z:=default) (by simpa using hk) ?_
   simp_all
  rw[e] at I;rw[I];simp[flatK,ht]
 grind [flatK,Fx.ct]
def KA(h:Fx f sz){w:World}{B n c Et:Nat}{l:List α}(Z:w.ownsRow 0 Et sz (.slice (some ⟨B,0,.none⟩) n c) n (fl f l))(hl:l.length=n):HoldsK f sz w B 0 l.toArray:=by
 rcases Z.2 with⟨M,_⟩|⟨g,cap,cur,M,_,hg,h1,h2,h3,h4⟩
 ·cases M
 injection M with I e2 e3
 injection I with I
 injection I with I
 subst I;intro j Q;rw[size_flatK] at Q;have hj2:j<n*sz:=by simpa[hl] using Q
 have hc:cur[j]? =some (flatK f sz l.toArray)[j]! :=by
  have e2:(flatK f sz l.toArray).toList=fl f l:=by rw[Hv h]
  have e3:cur.toList[j]? =(fl f l)[j]? :=by grind
  grind [size_flatK]
 grind [World.cell?,World.frozen?]
def FR(h:Fx f sz){w:World}{S:Nat->Prop}{B n c Et m:Nat}{l:List α}{d:Array α}{os:Array Obj}(hS:(HP.row Et sz (some ⟨B,0,.none⟩) n c (fl f l)).bA S w)(hb:∀k,S k->k<w.heap.size)(hl:l.length=n)(hd:d.size=l.length):
  HA w (Fm w S) [HP.row Et sz (some ⟨B,0,.none⟩) n c (fl f d.toList)] (sortWorldK f sz w B 0 m d os):=by
 obtain⟨Q,hw⟩:=hS;have Z:∀k,S k↔k=B:=fun k=>by rw[Q k];simp[Value.ownBlock,eq_comm]
 rcases hw.2 with⟨hv,_⟩|⟨g,cap,cur,hv,_,hg,h1,h2,h3,h4⟩
 ·cases hv
 injection hv with e1 e2 e3
 injection e1 with e1
 injection e1 with e1
 subst e1;subst e3;have hB:B<w.heap.size:=hb B ((Z B).2 rfl)
 have I:∀k,k<w.heap.size->(sortWorldK f sz w B 0 m d os).heap[k]? =if B=k then(w.heap[k]?).map (onCells (putCells id 0 (flatK f sz d))) else w.heap[k]? :=fun k hk=>by
  show(w.heap.modify B _++os)[k]? =_;grind
 have M:(sortWorldK f sz w B 0 m d os).heap.size=w.heap.size+os.size:=by
  show(w.heap.modify B _++os).size=_;simp
 have hBh:(sortWorldK f sz w B 0 m d os).heap[B]? =some (.cells (putCells id 0 (flatK f sz d) cur) Et (0,0)):=by rw[I B hB,aa rfl,hg];rfl
 refine⟨rfl,rfl,rfl,by rw[M];omega,fun k hk=>hk.1,fun k hk=>?_,S,⟨Q,?_⟩,fun k hk=>⟨by grind,fun hn=>hn.2 hk⟩,trivial⟩
 ·rw[I k hk.1,ae fun he=>hk.2 ((Z k).2 he.symm)]
 refine⟨by rw[h.ct];simp[hd,hl],.inr ⟨B,c,_,rfl,bF _,hBh,h1,h2,by simp[putCells,h3],?_⟩⟩
 have hfl:(flatK f sz d).size=n*sz:=by rw[size_flatK,hd,hl]
 have hle:n*sz<=cur.size:=by rw[h3];exact qp _ h1
 rw[<-Hv h];apply nB;intro t;grind [putCells]
end
end E
namespace Tr
open Go Go.Sort
instance:Inhabited Cl:=⟨Cl.z⟩
theorem pB{x y:Cl}:ltOf xY x y=true↔lt x y:=by unfold ltOf;rw[ax,HJ]
def swo:SWO (ltOf xY) where
 irrefl x:=by grind [pB,lt_irrefl]
 trans x y z h1 h2:=by rw[pB] at*;exact lt_trans h1 h2
 ntrans x y z h1 h2:=by grind [pB,lt]
variable {l:List Cl}
def J9{d:Array Cl}(hU:Uq l)(hn:l.Nodup)(hp:PermIn 0 l.toArray.size l.toArray d)(hs:SortedIn (ltOf xY) 0 l.toArray.size d):d.toList=sort l:=by
 obtain⟨h1,_,h3⟩:=hp
 have I:d.toList.Perm l:=by
  have e1:d.extract 0 l.toArray.size=d:=by rw[<-h1];simp
  grind
 have M:∀x,x∈d.toList↔x∈l:=fun x=>I.mem_iff;have hnd:d.toList.Nodup:=I.nodup_iff.2 hn;have hsz:d.size=l.toArray.size:=h1
 have hsrt:zm d.toList:=by
  unfold zm;rw[eI];intro i j hi hj Q;have hi2:i<d.size:=by simpa using hi
  have hj2:j<d.size:=by simpa using hj
  have h4:=hs i j (bF _) Q K1;rw[getElem!_pos d j hj2,getElem!_pos d i hi2,<-kT,pB] at h4
  have hne:¬d[i]=d[j]:=fun Z=>by
   exact eI.1 hnd i j hi hj Q (by simpa using Z)
  have hx:d[i]∈l:=(M _).1 (by simp)
  have hy:d[j]∈l:=(M _).1 (by simp)
  have h5:¬(d[i].tk=d[j].tk/\d[i].pl=d[j].pl):=fun Z=>hne (hU.a _ hx _ hy (Prod.ext Z.1 Z.2));grind [Ve]
 have hdist:BJ l:=by
  unfold BJ;rw[eI];intro i j hi hj Q Z;have h6:=hU.a _ (lR hi) _ (lR hj) (Prod.ext Z.1 Z.2);grind [List.pairwise_iff_getElem]
 grind [zm.ext,oS,mo]
def Uq.fP(M:Uq l)(hn:l.Nodup):BJ l:=by
 unfold BJ;rw[eI];intro i j hi Q Z I;have h6:=M.a _ (lR hi) _ (lR Q) (Prod.ext I.1 I.2);grind [List.pairwise_iff_getElem]
def Uq.perm{m:List Cl}(I:Uq l)(h:m.Perm l):Uq m:=I.sub fun x M=>h.mem_iff.1 M
def KE{m:List Cl}(I:Uq l)(M:l.Nodup)(h:m.Perm l):sort m=sort l:=
 zm.ext (oS ((I.perm h).fP (h.nodup_iff.2 M))) (oS (I.fP M)) fun x=>by rw[mo,mo];exact h.mem_iff
theorem Tw(x:Cl):∀l:List Cl,(ins x l).length=l.length+1:=by
 intro l;induction l with
 |nil=>rfl
 |cons y r I=>unfold ins;split<;>simp[I]
def OI:∀l:List Cl,(sort l).length=l.length:=by
 intro l;induction l with
 |nil=>rfl
 |cons y r I=>grind [sort,Tw]
end Tr
section
variable{P:Program}{n:E.Fr}{w0:World}{F:Nat->Prop}{K:E.Kt}{l:E.Env}{H:List E.HP}
namespace E
structure z6(P:Program)(t:TypeId):Prop where
 g:P.eqGuardType P.depth t=false
 e:∀{x y:Value} {lx ly:Lit},keyOf P t x=some lx->keyOf P t y=some ly->∀w,∃r:Bool,(Op.equal t x y).run P w=.ok r w/\(r=true↔x=y)
def z6.mk'{P:Program}{t:TypeId}{m:Nat}(K:WideMaps.KeyLaw P t)(g:P.eqGuardType P.depth t=false)(hm:m<=10000)(hk:P.keyTypeAt m t=true)(I:(match P.underlying t with|some (.array _ _)|some (.struct _)=>true|_=>false)=true):z6 P t:=
 ⟨g,fun M Q w=>by
  obtain⟨r,h1,h2⟩:=run_equal_deep w hm hk I M Q
  refine⟨r,h1,h2.trans ⟨fun Z=>K.inj M (Z▸Q),fun Z=>?_⟩⟩
  grind⟩
section
variable{o:Oper}
variable {a b:Array Value}{t:TypeId}{x y:Operand}
def MW{P:Program}(hg:P.eqGuardType P.depth t=false){I:BinOp}(w:World):(eqGuard I t x y (.agg a) (.agg b)).run P w=.ok () w:=by
 cases I<;>simp[eqGuard,hg]
def PV.th{Q:TypeId}{Z lb:Lit}{p:Prop}[Decidable p](E:z6 P t)(ho:o.op=.binOp .eql t x y Q)(hx:ev l x=some (.agg a))(hy:ev l y=some (.agg b))(ha:keyOf P t (.agg a)=some Z)(hb:keyOf P t (.agg b)=some lb)(hp:p↔Value.agg a=Value.agg b):PV P n w0 F l H o (.bool (decide p)):=fun u w M _=>by
 obtain⟨r,h1,h2⟩:=E.e ha hb w
 have hr:r=decide p:=by grind
 have I:(binOp .eql t (.agg a) (.agg b)).run P w=.ok (.bool r) w:=by
  simp[binOp,h1]
 simp[execOp,ho,M.ev hx,M.ev hy,MW E.g w,I,hr]
def PV.yD{Q:TypeId}{Z lb:Lit}{p:Prop}[Decidable p](E:z6 P t)(ho:o.op=.binOp .neq t x y Q)(hx:ev l x=some (.agg a))(hy:ev l y=some (.agg b))(ha:keyOf P t (.agg a)=some Z)(hb:keyOf P t (.agg b)=some lb)(hp:p↔Value.agg a=Value.agg b):PV P n w0 F l H o (.bool (!decide p)):=fun u w M _=>by
 obtain⟨r,h1,h2⟩:=E.e ha hb w
 have hr:r=decide p:=by grind
 have I:(binOp .neq t (.agg a) (.agg b)).run P w=.ok (.bool (!r)) w:=by
  simp[binOp,h1]
 simp[execOp,ho,M.ev hx,M.ev hy,MW E.g w,I,hr]
def XO{α:Type}{f:α->bi}{sz:Nat}(I:Fx f sz)(z:α)(m i:Nat)(h:i<m*sz):(fl f (List.replicate m z))[i]? =(f z)[i%sz]? :=by
 have hp:=I.pos;have hk:i/sz<m:=tE (by grind)
 have M:i%sz<(f z).length:=by rw[I.len];exact gk _ hp
 have Q:=I.get (z:=z) (l:=List.replicate m z) (k:=i/sz) (j:=i%sz) (v:=(f z)[i%sz]) (by simpa using hk) (by
  grind)
 grind [Nat.div_add_mod]
def OW.Hq{α:Type}{f:α->bi}{sz:Nat}(z:α)(Z:Fx f sz){ops:Array Oper}{I:List Oper}{d t Et bytes:Nat}{kx ky:IntKind}{px:Int}(m:Nat)(hT:P.underlying t=some (.slice Et))(hI:In P Et (.agg (f z).toArray) sz bytes)(ho:o.op=.makeSlice t x y)(hg:gd ops l o.guard=some true)(hd:o.dst=some d)(hn:Nat.blt d n.sz=true)(hx:ev l x=some (.int kx px))(hy:ev l y=some (.int ky px))(hm:px=(m:Int))(M:m<=maxLen)(hb:bytes*m<=281474976710656)(k:∀A,OW P n w0 F ops K I ((d,.slice A m m)::l) (HP.row Et sz A m m (fl f (List.replicate m z))::H)):OW P n w0 F ops K (o::I) l H:=
 OW.step hg hd hn (fun v H'=>∃A,v=.slice A m m/\H'=HP.row Et sz A m m (fl f (List.replicate m z))::H)
  (fun a w ha hw=>by
   obtain⟨inf,hinf,hz0,hz1,hz2⟩:=hI.parts
   subst hm hz2
   have hb':(inf.bytes:Int)*(m:Int)<=281474976710656:=by
    omega
   have Q:(m:Int)<=9223372036854775807:=by unfold maxLen at M;omega
   have hr:=run_make (P:=P) w t Et inf (.agg (f z).toArray) hT hinf hz0 kx ky m m K1 K1 hb' Q
   have wj:(madeCells (Value.agg (f z).toArray).cells (m*inf.size))=(fl f (List.replicate m z)).toArray:=by
    rw[hz1];have hp:=Z.pos;apply Array.ext
    ·simp[madeCells,Z.ct]
    intro i h1 h2;have hi:i<m*sz:=by simpa[madeCells] using h1
    have h3:=XO Z z m i hi;have h4:(fl f (List.replicate m z))[i]? =some ((fl f (List.replicate m z)).toArray[i]'h2):=by simp
    have h5:i%sz<(f z).length:=by grind
    rw[h3,aC h5] at h4;injection h4 with h4
    rw[<-h4];simp[madeCells,Value.cells,Z.len];grind
   simp only[j3,wj] at hr
   exact⟨_,_,_,by simp[execOp,ho,ha.ev hx,ha.ev hy,hr],⟨_,rfl,rfl⟩,hw.new _ (ah.tq (by simp[Z.ct]) M)⟩)
  (fun v H' ⟨A,hv,hH⟩=>by subst hv hH;exact k A)
end
end E
namespace Tr
def CG(t n:Int):∀(r:bv) (k:Int) (i:Nat),i<r.length->clFrom t n k (r.take (i+1))=clFrom t n k (r.take i)++[⟨k+i+1,r.getD i 0,t,n⟩]:=by
 intro r;induction r with
 |nil=>intro k i h;simp at h
 |cons p r I=>
  intro k i h;cases i with
  |zero=>simp[clFrom]
  |succ i=>
   grind [clFrom]
def uP{e:Cr.Ev}(I:e.EZ){t k:Int}(hk:0<=k/\k<=Od.last)(ht:E.gE t){w:Cr.W}(v:Cr.V e k w)(Q:w.mv<9223372036854775808){x:Cl}(M:x∈aB e t k w):x.fit:=by
 obtain⟨Z,h2,h3,h4,h5,_⟩:=ot I hk v M;grind [Od.last,Cl.fit,rM,E.gE]
def Hj{L:List Cl}{k:Nat}(h:k<L.length):L.getD k Cl.z∈L:=by
 grind
theorem mR{l:List Cl}(h:gQ l=true){i j:Nat}(Q:i<j)(Z:j<l.length):oO (l.getD i Cl.z)≠oO (l.getD j Cl.z)/\GV (l.getD i Cl.z)≠GV (l.getD j Cl.z):=by
 obtain⟨_,_,ht⟩:=tY h Z;unfold taken at ht;rw[iQ,mO,mO] at ht
 have M:l.getD i Cl.z∈l.take j:=by
  grind [List.mem_take_iff_getElem]
 have a:=ht.1 _ M;have b:=ht.2 _ M;simp only[ay,ax] at a b;exact⟨fun I=>a ⟨aq Prod.fst I,aq Prod.snd I⟩,fun I=>b ⟨aq Prod.fst I,aq (fun z=>z.2.1) I,aq (fun z=>z.2.2) I⟩⟩
theorem pC{l:List Cl}{x:Cl}(h:x∈l):∃i,i<l.length/\x=l.getD i Cl.z:=by
 obtain⟨i,hi,rfl⟩:=eC h;exact⟨i,hi,by rw[aW,aC hi,dW]⟩
def ach{l:List Cl}(h:gQ l=true)(Z:∀x∈l,0<=x.tk):Uq l:=by
 refine⟨fun x I y M Q=>?_,fun x I y M Q=>?_,fun x I=>?_⟩
 ·grind [pC,mR]
 ·grind [pC,mR]
 grind [pC,w5,tY]
def abe{l:List Cl}(h:gQ l=true):l.Nodup:=by
 unfold List.Nodup;rw[eI];intro i j hi M I Q;refine(mR h I M).1 (aq oO ?_);simp_all
def FH{C L:List Cl}{k:Nat}(h:k<C.length):(C.take (k+1)).foldl put L=put ((C.take k).foldl put L) (C.getD k Cl.z):=by
 grind [List.take_add_one]
end Tr
namespace E
structure Fe where
 cs:List Cw
 A:am
 c:Nat
 cl:List Tr.Cl
 A2:am
 c2:Nat
 tk:Int
def Fe.q(f:Fe):Tr.F:=⟨f.cs.map Cw.q,f.cl,f.tk⟩
def Fe.cells(f:Fe):bi:=[.slice f.A f.cs.length f.c,.slice f.A2 f.cl.length f.c2,.int .u64 f.tk]
def Fe.v(f:Fe):Value:=.agg f.cells.toArray
def jN(cs:List Cw):Mem:=cs.flatMap Cw.mem
def Fe.mem(f:Fe):Mem:=(f.A,fl Cw.cells f.cs)::(f.A2,fl Tr.Cl.cs f.cl)::jN f.cs
def Fe.z:Fe:=⟨[],none,0,[],none,0,0⟩
def Fe.len(f:Fe):f.q.cs.length=f.cs.length:=bZ ..
def bm(f:Fe)(t:Nat):Cw:=f.cs.getD t Cw.z
def Fe.at(f:Fe)(t:Nat):Tr.ai f.q t=(bm f t).q:=by
 unfold Tr.ai bm;rw[aW,aW];show((f.cs.map Cw.q)[t]?).getD Cr.W.z=_;rw[my];cases f.cs[t]? <;>rfl
def Sj{cs:List Cw}{t:Nat}(h:t<cs.length):(cs.getD t Cw.z).mem⊆jN cs:=fun p hp=>by
 rw[aW,aC h,dW] at hp
 exact ft.2 ⟨_,lR h,hp⟩
theorem I0(cs:List Cw)(y:Cw):jN (cs++[y])=jN cs++y.mem:=by simp[jN]
theorem BZ{cs:List Cw}{t:Nat}{y:Cw}:jN (cs.set t y)⊆jN cs++y.mem:=fun p hp=>by
 obtain⟨x,I,M⟩:=ft.1 hp
 rcases ig I with h|h
 ·exact aN.2 (.inl (ft.2 ⟨x,h,M⟩))
 grind
section
variable{w:World}{G:Nat->Prop}{f:Fe}
def Fe.rc(h:dc w G f.mem):Rd w G f.A (fl Cw.cells f.cs):=h (f.A,fl Cw.cells f.cs) (by simp[Fe.mem])
def Fe.rl(h:dc w G f.mem):Rd w G f.A2 (fl Tr.Cl.cs f.cl):=h (f.A2,fl Tr.Cl.cs f.cl) (by simp[Fe.mem])
def Fe.rw(h:dc w G f.mem){t:Nat}(ht:t<f.cs.length):dc w G (bm f t).mem:=h.sub fun p hp=>km _ (km _ (Sj ht hp))
end
def CW.wA{P:Program}{n:Fr}{w0:World}{F:Nat->Prop}{K:Kt}{l:Env}{H:List HP}{c:Code}(L:Mem)(I:∀p∈L,p.2=[])(k:CW P n w0 F c K l (HP.ro L::H)):CW P n w0 F c K l H:=fun a w ha M=>k a w ha (M.wg I)
def Lz(n:Nat):∀p∈jN (List.replicate n Cw.z),p.2=[]:=fun p hp=>by
 obtain⟨y,M,I⟩:=ft.1 hp
 rw[vn M] at I
 simp only[Cw.mem,Cw.z,er,bg,or_false] at I
 rcases I with rfl|rfl|rfl<;>rfl
def map_eq{f:Fe}{ds:List Cw}(hl:ds.length=f.cs.length)(h:∀j,j<f.cs.length->(ds.getD j Cw.z).q=(f.cs.getD j Cw.z).q):ds.map Cw.q=f.cs.map Cw.q:=by
 apply fU
 ·simp[hl]
 grind
def Fe.sm(f:Fe):Prop:=f.cs.length<=3/\f.cl.length<=4096/\∀t,t<f.cs.length->(bm f t).rs.length<=3/\(bm f t).b.q.os.length<=64/\(bm f t).b.q.q.length<=64
variable {g:aP}{k:Nat}
def Fe.tn(hc:Cf.check g.q=0)(hp:Tr.Pr g.q k):Rt.fB g.q (k:Int):=Tr.iF hc hp
theorem Fe.cw{f:Fe}(I:Tr.FI g.q f.q)(hp:Tr.Pr g.q k):Cr.V (Cr.ev g.q (k:Int)) f.tk (bm f k).q:=by
 have:=I.cr k hp;rwa[Fe.at] at this
def Fe.ln{f:Fe}(I:Tr.FI g.q f.q):f.cs.length=g.q.ts.length:=by rw[<-Fe.len];exact I.c
theorem Fe.ab{g:aP}{f:Fe}(I:Tr.FI g.q f.q){k:Nat}(hl:k<f.cs.length)(hp:¬Tr.Pr g.q k):(bm f k).q=Tr.bare:=by
 have:=I.ab k (by rw[<-Fe.ln I];exact hl) hp
 rwa[Fe.at] at this
def Fe.lim(hc:Cf.check g.q=0):g.q.ts.length<=3:=(Cf.dw (Cf.az hc).2.2.1).2
theorem Fe.small{g:aP}{f:Fe}(hc:Cf.check g.q=0)(I:Tr.FI g.q f.q):f.sm:=by
 have M:=Fe.lim hc;have Q:=Fe.ln I;refine⟨K1,?_,fun t ht=>?_⟩
 ·have:=Tr.fI hc I;unfold Tr.gQ at this;simp only[ay,ax] at this;exact this.1
 by_cases hp:Tr.Pr g.q t
 ·exact Cw.small (Fe.tn hc hp) (Fe.cw I hp)
 have h:=Fe.ab I ht hp;have a:(bm f t).rs.length=0:=aq (fun w=>w.rs.length) h;have b:(bm f t).b.q.os.length=0:=aq (fun w=>w.b.os.length) h;have c:(bm f t).b.q.q.length=0:=aq (fun w=>w.b.q.length) h;omega
def nl(l:List Tr.Cl)(k:Nat):Int:=((l.filter fun x=> !decide (x.tn<(k:Int))).length:Nat)
def acQ(l:List Tr.Cl)(k:Nat):0<=nl l k/\nl l k<=(l.length:Int):=by
 grind [nl]
def UB{f:Fe}(hc:Cf.check g.q=0)(I:Tr.FI g.q f.q):nl f.cl 0=(f.cl.length:Int):=by
 have:=Tr.oX hc I 0 (bF _);exact(Option.some.inj this).symm
def Yt{f:Fe}(hc:Cf.check g.q=0)(I:Tr.FI g.q f.q):nl f.cl f.cs.length=0:=by
 have:=Tr.mn hc I;unfold Tr.check at this;rw[aa hc,aa ⟨I.c,I.tk.2⟩,aa (Tr.fI hc I)] at this;by_cases h:Tr.left g.q f.q f.q.cs.length=some 0
 ·rw[Tr.oX hc I _ (bb _),Fe.len] at h;exact Option.some.inj h
 grind
def tA{f:Fe}(hc:Cf.check g.q=0)(Q:Tr.FI g.q f.q)(hk:k<f.cs.length):
  (Tr.Pr g.q k->((bm f k).mv<0\/Tr.has f.cl (k:Int) (bm f k).mv=false)->nl f.cl (k+1)=nl f.cl k)/\
  (Tr.Pr g.q k->0<=(bm f k).mv->Tr.has f.cl (k:Int) (bm f k).mv=true->(∀x,x∈Tr.aB (Cr.ev g.q (k:Int)) (k:Int) f.tk (bm f k).q->x∈f.cl)/\nl f.cl (k+1)=nl f.cl k-(Tr.aB (Cr.ev g.q (k:Int)) (k:Int) f.tk (bm f k).q).length)/\
  (¬Tr.Pr g.q k->nl f.cl (k+1)=nl f.cl k):=by
 have h1:=Tr.oX hc Q k (by rw[Fe.len];omega)
 have I:=Tr.oX hc Q (k+1) (by rw[Fe.len];omega)
 unfold Tr.left at I;rw[h1,Fe.at] at I;simp only at I;refine⟨fun hp hm=>?_,fun hp hm hh=>?_,fun hp=>?_⟩
 ·have M:Cf.ag g.q.ts (k:Int)=true:=hp;have Z:Cr.valid (Cr.ev g.q (k:Int)) f.q.tk (bm f k).q=true:=Cr.dv.2 (Fe.cw Q hp);rw[aa M,aa Z,aa (show(bm f k).q.mv<0\/Tr.has f.q.cl (k:Int) (bm f k).q.mv=false from hm)] at I;exact(Option.some.inj I).symm
 ·have M:Cf.ag g.q.ts (k:Int)=true:=hp;have Z:Cr.valid (Cr.ev g.q (k:Int)) f.q.tk (bm f k).q=true:=Cr.dv.2 (Fe.cw Q hp)
  rw[aa M,aa Z,ae (show¬((bm f k).q.mv<0\/Tr.has f.q.cl (k:Int) (bm f k).q.mv=false) from fun h=>by
   rcases h with h|h
   ·exact absurd (show(bm f k).mv<0 from h) K1
   rw[show Tr.has f.q.cl (k:Int) (bm f k).q.mv=true from hh] at h;cases h)] at I
  split at I
  ·rename_i ha;rw[aJ] at ha;exact⟨fun x hx=>bf (ha x hx),(Option.some.inj I).symm⟩
  cases I
 have M:¬Cf.ag g.q.ts (k:Int)=true:=hp;have hb:(bm f k).q=Tr.bare:=Fe.ab Q hk hp;rw[ae M,aa hb] at I;exact(Option.some.inj I).symm
def Fe.uq{f:Fe}(hc:Cf.check g.q=0)(I:Tr.FI g.q f.q):Tr.Uq f.cl:=Tr.ach (Tr.fI hc I) (fun x M=>by
 obtain⟨t,Q,Z⟩:=I.cl x M
 have:=Tr.fL hc I Q Z
 have:=I.tk
 omega)
def Fe.TG{f:Fe}(t:Nat)(y:Cw):(Fe.mk (f.cs.set t y) f.A f.c f.cl f.A2 f.c2 f.tk).mem⊆[(f.A,fl Cw.cells (f.cs.set t y))]++(((f.A2,fl Tr.Cl.cs f.cl)::jN f.cs)++(y.mem++[])):=fun p hp=>by
 grind [mem,BZ]
def Fe.O0{f z:Fe}(h:z.q=f.q)(t:Nat)(y:Cw):(Fe.mk (z.cs.set t y) z.A z.c z.cl z.A2 z.c2 z.tk).q=Tr.bL f.q t y.q:=by
 grind [Tr.bL,q,List.map_set]
def Ru:Cw:=⟨[],none,0,⟨Od.B.z,none,0,none,0⟩,-1⟩
def abF:∀p∈Ru.mem,p.2=[]:=fun p hp=>by
 simp only[Cw.mem,Ru,er,bg,or_false] at hp
 rcases hp with rfl|rfl|rfl<;>rfl
def rz(cs:List Cw)(y:Cw):jN (cs++[y])⊆y.mem++(jN cs++[]):=fun p hp=>by
 grind [I0]
end E
namespace Tr
def XF(g:Cf.C)(t:Nat):Cr.W:=if Cf.ag g.ts (t:Int)=true then Cr.new (Rt.bQ g (t:Int)) else bare
def WT(g:Cf.C):Tr.new g=⟨(List.range g.ts.length).map (XF g),[],g.st⟩:=rfl
def Fj{α:Type}(f:Nat->α)(k:Nat):(List.range (k+1)).map f=(List.range k).map f++[f k]:=by rw[nz,dZ];rfl
end Tr
namespace Tr
open Cr (Ev W R ev V)
def Fin.z:Int×Int:=(0,0)
def Fin.cs(p:Int×Int):bi:=[.int .i64 p.1,.int .i64 p.2]
def Fin.fx:E.Fx Fin.cs 2:=⟨fun _=>rfl,fun x u I=>by simp[Fin.cs] at I;rcases I with rfl|rfl<;>rfl,K1⟩
variable {L:List Cl}
theorem Fu{x:Cl}(h:x∈L):taken L x=true:=by
 grind [taken]
theorem pG{x y:Cl}(h:taken L x=false)(M:y∈L):oO y≠oO x/\GV y≠GV x:=by
 unfold taken at h;rw[iQ,mO,mO] at h;have a:=h.1 _ M;have b:=h.2 _ M;simp only[ay,ax] at a b;exact⟨fun I=>a ⟨aq Prod.fst I,aq Prod.snd I⟩,fun I=>b ⟨aq Prod.fst I,aq (fun z=>z.2.1) I,aq (fun z=>z.2.2) I⟩⟩
structure Tb(L:List Cl)(n:Nat):Prop where
 u:Uq L
 d:L.Nodup
 l:L.length<=n
theorem Tb.put{L:List Cl}{n:Nat}(h:Tb L n){x:Cl}(hx:x.fit):Tb (Tr.put L x) (n+1):=by
 unfold Tr.put;split
 ·exact⟨h.u,h.d,by have:=h.l;omega⟩
 rename_i ht;have M:taken L x=false:=by simpa using ht
 refine⟨⟨fun y Q z Z I=>?_,fun y Q z Z I=>?_,fun y Q=>?_⟩,?_,by have:=h.l;simp;omega⟩
 ·rcases aN.1 Q with a|a<;>rcases aN.1 Z with b|b
  ·exact h.u.a y a z b I
  ·grind [pG]
  ·grind [pG]
  grind
 ·rcases aN.1 Q with a|a<;>rcases aN.1 Z with b|b
  ·exact h.u.b y a z b I
  ·rw[bw.1 b] at I⊢;exact absurd I (pG M a).2
  ·rw[bw.1 a] at I⊢;exact absurd I.symm (pG M b).2
  grind
 ·rcases aN.1 Q with a|a
  ·exact h.u.f y a
  grind
 grind [d,Fu]
def Tb.mono{n m:Nat}(h:Tb L n)(I:n<=m):Tb L m:=⟨h.u,h.d,by have:=h.l;omega⟩
def Tb.adI:∀{C:List Cl} {L:List Cl} {n:Nat},Tb L n->(∀x∈C,x.fit)->Tb (C.foldl Tr.put L) (n+C.length):=by
 intro C;induction C with
 |nil=>intro L n h _;exact h
 |cons x C M=>
  intro L n h I;have:=M (h.put (I x jy)) fun y Q=>I y (km _ Q);exact this.mono (by simp;omega)
theorem Tb.filter{L:List Cl}{n:Nat}(h:Tb L n)(p:Cl->Bool):Tb (L.filter p) n:=⟨h.u.filter p,h.d.filter _,ic (ou _ _) h.l⟩
theorem Tb.jM{e:Ev}{t k:Int}{w:W}{L:List Cl}{n:Nat}(h:Tb L n)(I:∀x∈aB e t k w,x.fit)(hl:(aB e t k w).length<=1024):Tb (jM e t k w L) (n+1024):=by
 unfold Tr.jM;split
 ·exact h.mono K1
 split
 ·exact(h.filter _).mono K1
 split
 ·exact h.mono K1
 exact(h.adI I).mono K1
end Tr
namespace E
open Cr (W V)
section
variable{g:aP}{f:Fe}
noncomputable abbrev O2(g:aP)(f:Fe)(k:Nat):W:=Cr.eD (Cr.ev g.q (k:Int)) f.tk (bm f k).q
noncomputable abbrev sY(g:aP)(f:Fe)(k:Nat):W×bv:=Cr.cx (Cr.ev g.q (k:Int)) f.tk (O2 g f k)
noncomputable abbrev mvW(g:aP)(f:Fe)(k:Nat):W:=Cr.iI (Cr.ev g.q (k:Int)) f.tk (sY g f k).1
variable {k:Nat}
def Mc(hp:Tr.Pr g.q k):Tr.aT g.q f.q (k+1)=((Tr.aT g.q f.q k).1++[mvW g f k],Tr.jM (Cr.ev g.q (k:Int)) (k:Int) f.tk (O2 g f k) (Tr.aT g.q f.q k).2.1,(Tr.aT g.q f.q k).2.2++(sY g f k).2.map fun id=>((k:Int),id)):=by
 have I:Cf.ag g.q.ts (k:Int)=true:=hp;conv=>lhs;unfold Tr.aT
 rw[aa I,Fe.at];rfl
def yn(hp:Tr.Pr g.q k){I M Q:Cw}(Z:I.q=Cr.eD (Cr.ev g.q (k:Int)) f.tk (bm f k).q)(h2:M.q=(Cr.cx (Cr.ev g.q (k:Int)) f.tk I.q).1)(h3:Q.q=Cr.iI (Cr.ev g.q (k:Int)) f.tk M.q):
  Tr.aT g.q f.q (k+1)=((Tr.aT g.q f.q k).1++[Q.q],Tr.jM (Cr.ev g.q (k:Int)) (k:Int) f.tk I.q (Tr.aT g.q f.q k).2.1,(Tr.aT g.q f.q k).2.2++(Cr.cx (Cr.ev g.q (k:Int)) f.tk I.q).2.map fun id=>((k:Int),id)):=by rw[Mc hp,h3,h2,Z]
def It(hp:¬Tr.Pr g.q k):Tr.aT g.q f.q (k+1)=((Tr.aT g.q f.q k).1++[Tr.bare],(Tr.aT g.q f.q k).2.1,(Tr.aT g.q f.q k).2.2):=by
 have I:¬Cf.ag g.q.ts (k:Int)=true:=hp;conv=>lhs;unfold Tr.aT
 rw[ae I]
def WV(hc:Cf.check g.q=0)(I:Tr.FI g.q f.q)(hp:Tr.Pr g.q k):V (Cr.ev g.q (k:Int)) f.tk (O2 g f k):=Cr.kF (Cr.iX (Fe.tn hc hp)) (Fe.cw I hp)
def XM(m:Cf.T)(k:Int):∀(rs:List Cr.R) (b:Od.B),(Cr.bl m k b rs).2.2.length<=rs.length:=by
 intro rs;induction rs with
 |nil=>intro b;exact bb _
 |cons r rs I=>
  intro b;grind [Cr.cq,Cr.bl]
def Hi(hc:Cf.check g.q=0)(I:Tr.FI g.q f.q)(hp:Tr.Pr g.q k):(sY g f k).2.length<=3:=by
 have Q:=XM (Cr.ev g.q (k:Int)).m f.tk (O2 g f k).rs (O2 g f k).b;have Z:=(Fe.cw I hp);have h3:(O2 g f k).rs.length<=3:=gi (WV hc I hp);have M:(sY g f k).2=(Cr.bl (Cr.ev g.q (k:Int)).m f.tk (O2 g f k).b (O2 g f k).rs).2.2:=rfl;rw[M];omega
def Om(hc:Cf.check g.q=0)(M:Tr.FI g.q f.q)(hp:Tr.Pr g.q k):(∀x∈Tr.aB (Cr.ev g.q (k:Int)) (k:Int) f.tk (O2 g f k),x.fit)/\(Tr.aB (Cr.ev g.q (k:Int)) (k:Int) f.tk (O2 g f k)).length<=1024:=by
 have Q:=Fe.tn hc hp;have Z:=Cr.fy Q;have I:=WV hc M hp;have ht:=Q.iF;have h3:(O2 g f k).rs.length<=3:=gi I;have hm:=I.mv.2;exact⟨fun x hx=>Tr.uP Z M.tk (by unfold gE;omega) I K1 hx,Tr.kW Z M.tk I⟩
def GW(hc:Cf.check g.q=0)(I:Tr.FI g.q f.q):∀k,k<=f.cs.length->Tr.Tb (Tr.aT g.q f.q k).2.1 (4096+1024*k)/\(Tr.aT g.q f.q k).2.2.length<=3*k:=by
 intro k;induction k with
 |zero=>intro _;exact⟨⟨Fe.uq hc I,Tr.abe (Tr.fI hc I),(Fe.small hc I).2.1⟩,bb _⟩
 |succ k Q=>
  intro hk;obtain⟨M,Z⟩:=Q K1;by_cases hp:Tr.Pr g.q k
  ·rw[Mc hp];have:=Hi hc I hp;refine⟨(M.jM (Om hc I hp).1 (Om hc I hp).2).mono K1,?_⟩;grind
  rw[It hp];exact⟨M.mono K1,by grind⟩
def iy{ids:bv}{j:Nat}(k:Int)(h:j<ids.length):(ids.take (j+1)).map (fun id=>(k,id))=(ids.take j).map (fun id=>(k,id))++[(k,ids.getD j 0)]:=by
 grind [List.take_add_one]
end
end E
namespace Dg
def v7(a:Int):Int:=IntKind.u32.wrap a
def bx(a b:Int):Int:=IntKind.u32.wrap ((BitVec.ofInt IntKind.u32.bits a^^^BitVec.ofInt IntKind.u32.bits b).toNat:Nat)
def ba(a b:Int):Int:=IntKind.u32.wrap ((BitVec.ofInt IntKind.u32.bits a&&&BitVec.ofInt IntKind.u32.bits b).toNat:Nat)
def bo(a b:Int):Int:=IntKind.u32.wrap ((BitVec.ofInt IntKind.u32.bits a|||BitVec.ofInt IntKind.u32.bits b).toNat:Nat)
def bn(a:Int):Int:=bx IntKind.u32.max a
def s5(k:Int):Int:=IntKind.u64.wrap ((BitVec.ofInt IntKind.u64.bits (IntKind.u64.wrap k)&&&BitVec.ofInt IntKind.u64.bits 31).toNat:Nat)
def uM(a:Int):0<=IntKind.u64.wrap a:=by
 grind [IntKind.wrap,IntKind.signed,IntKind.bits]
def zq(a:Int):0<=v7 a/\v7 a<4294967296:=by
 grind [v7,IntKind.wrap,IntKind.signed,IntKind.bits]
def rl(x k:Int):Int:=bo (IntKind.u32.wrap (x*2^min (s5 k).toNat IntKind.u32.bits)) (x/2^min (IntKind.u64.wrap (32-s5 k)).toNat IntKind.u32.bits)
def mix(l:bv)(x:Int):Int:=l.foldl (fun o n=>bx o (rl x (-n))) 0
variable {b:ap}{k:Nat}
def Ng(l:bv)(x:Int)(h:k<l.length):mix (l.take (k+1)) x=bx (mix (l.take k) x) (rl x (-(l.getD k 0))):=by
 grind [mix,List.take_add_one]
def tj(b:ap)(w:bv)(i:Nat):Int:=
 if i<16 then v7 (Cf.aO ((b.drop (4*i)).take 4))
 else v7 (v7 (v7 (w.getD (i-16) 0+bx (mix [7,18] (w.getD (i-15) 0)) (w.getD (i-15) 0/2^min (3:Int).toNat IntKind.u32.bits))+w.getD (i-7) 0)+bx (mix [17,19] (w.getD (i-2) 0)) (w.getD (i-2) 0/2^min (10:Int).toNat IntKind.u32.bits))
def wN(b:ap):Nat->bv
 |0=>List.replicate 64 0
 |k+1=>(wN b k).set k (tj b (wN b k) k)
def aaM(h:k<16):wN b (k+1)=(wN b k).set k (v7 (Cf.aO ((b.drop (4*k)).take 4))):=by
 grind [wN,tj]
def aaC(h:¬k<16):wN b (k+1)=(wN b k).set k (v7 (v7 (v7 ((wN b k).getD (k-16) 0+bx (mix [7,18] ((wN b k).getD (k-15) 0)) ((wN b k).getD (k-15) 0/2^min (3:Int).toNat IntKind.u32.bits))+(wN b k).getD (k-7) 0)+bx (mix [17,19] ((wN b k).getD (k-2) 0)) ((wN b k).getD (k-2) 0/2^min (10:Int).toNat IntKind.u32.bits))):=by
 grind [wN,tj]
def tt(v:bv)(k w:Int):Int:=v7 (v7 (v7 (v7 (v.getD 7 0+mix [6,11,25] (v.getD 4 0))+bx (ba (v.getD 4 0) (v.getD 5 0)) (ba (bn (v.getD 4 0)) (v.getD 6 0)))+k)+w)
def uu(v:bv):Int:=v7 (mix [2,13,22] (v.getD 0 0)+bx (bx (ba (v.getD 0 0) (v.getD 1 0)) (ba (v.getD 0 0) (v.getD 2 0))) (ba (v.getD 1 0) (v.getD 2 0)))
def sh(v:bv):bv:=v.take 1++v.take 7++v.drop 8
def sV(v:bv)(k w:Int):bv:=((sh v).set 4 (v7 ((sh v).getD 4 0+tt v k w))).set 0 (v7 (tt v k w+uu v))
def TM{v:bv}(k w:Int)(h:v.length=8):(sV v k w).length=8:=by simp[sV,sh,h]
def vN(st ks w:bv):Nat->bv
 |0=>st
 |k+1=>sV (vN st ks w k) (ks.getD k 0) (w.getD k 0)
def oN(st v:bv):Nat->bv
 |0=>st
 |k+1=>(oN st v k).set k (v7 ((oN st v k).getD k 0+v.getD k 0))
def YI{st v:bv}(h:st.length=8):∀k,(oN st v k).length=8:=by
 intro k;induction k with
 |zero=>exact h
 |succ k I=>simp only[oN,aM,I]
def dat{H:Type}:DataW H->Int
 |.lit (.int _ n)=>n
 |_=>0
def ks:bv:=match Rows.laid_dunnage_digest_constants (H:=Unit) with
 |.agg l=>l.map dat
 |_=>[]
def Ys:ks.length=64:=rfl
def cmp(st:bv)(b:ap):bv:=oN st (vN st ks (wN b 64) 64) 8
def yZ{st:bv}(h:st.length=8):(cmp st b).length=8:=YI h 8
end Dg
namespace E
def dm(l:bv):bi:=l.map (Value.int .u32)
@[simp] theorem gr (l:bv):(dm l).length=l.length:=bZ ..
def BK{l:bv}{j:Nat}(h:j<l.length):(dm l)[j]? =some (.int .u32 (l.getD j 0)):=by
 simp[dm,my,aC h]
theorem vP(l:bv):(dm l).all (·.oneCell')=true:=by simp[dm,Value.oneCell']
def mJ(l:ap):(aA l).all (·.oneCell')=true:=by simp[aA,Value.oneCell']
def NI(l:bv)(j:Nat)(x:Int):(dm l).set j (.int .u32 x)=dm (l.set j x):=by simp[dm,mc]
section
variable{o:Oper}
variable {A:am}{B T bytes e i j len m:Nat}{H':List HP}{cs vs:bi}{k:IntKind}{ops:Array Oper}{p q:Int}{rest:List Oper}{t t':TypeId}{x y:Operand}{xs:bv}{z:Value}
def PV.pL(ht:Na P t)(ho:o.op=.load t x)(I:ev l x=some (.pointer (some ⟨B,j,none⟩)))(hi:sel H i=some (HP.aw B T (dm xs),H'))(M:j<xs.length):PV P n w0 F l H o (.int .u32 (xs.getD j 0)):=PV.load ht ho I hi (BK M)
def PV.qQ(ht:Is P t m)(ho:o.op=.load t x)(I:ev l x=some (.pointer (some ⟨B,0,none⟩)))(hi:sel H i=some (HP.aw B T vs,H'))(M:vs.length=m):PV P n w0 F l H o (.agg vs.toArray):=PV.jD ht ho I hi (by have:=G5 vs;rwa[M] at this)
def OW.JO{v:Int}(I:∀w,(sizeOf t).run P w=.ok 1 w)(ho:o.op=.store t x y)(hg:gd ops l o.guard=some true)(hd:o.dst=none)(M:ev l x=some (.pointer (some ⟨B,j,none⟩)))(Q:ev l y=some (.int .u32 v))(hi:sel H i=some (HP.aw B T (dm xs),H'))(Z:j<xs.length)(k:OW P n w0 F ops K rest l (HP.aw B T (dm (xs.set j v))::H')):OW P n w0 F ops K (o::rest) l H:=
 OW.store (vs:=[.int .u32 v]) I ho hg hd M Q rfl rfl hi (by rw[Px _ _ _ (by simpa using Z),NI]) k
def OW.jF(I:∀w,(sizeOf t).run P w=.ok m w)(ho:o.op=.store t x y)(hg:gd ops l o.guard=some true)(hd:o.dst=none)(Q:ev l x=some (.pointer (some ⟨B,0,none⟩)))(Z:ev l y=some (.agg vs.toArray))(hi:sel H i=some (HP.aw B T cs,H'))(h1:vs.all (·.oneCell')=true)(M:vs.length=m)(hc:cs.length=m)(k:OW P n w0 F ops K rest l (HP.aw B T vs::H')):OW P n w0 F ops K (o::rest) l H:=
 OW.store (vs:=vs) (by rw[M];exact I) ho hg hd Q Z (by simp[Value.cells]) h1 hi (E5 _ _ (by rw[M,hc])) k
def rv.xg{t I sz:Nat}(M:Is P T sz)(Q:lr l t=some (.pointer (some ⟨B,0,none⟩)))(Z:sel H i=some (HP.aw B I vs,H'))(hm:vs.length=sz):rv P l H (.cell t T) (.agg vs.toArray):=
 rv.cell M Q Z (by have:=G5 vs;rwa[hm] at this)
def PV.KT{e:TypeId}{ix:Operand}{i:Int}(Q:P.underlying t=some (.array len e))(Z:In P e z 1 bytes)(hz:z.oneCell'=true)(hu:P.underlying e=some (.int .u32))(ho:o.op=.index t x ix)(hx:ev l x=some (.agg (dm xs).toArray))(I:ev l ix=some (.int k i))(hj:i=(j:Int))(hl:xs.length=len)(M:j<len):PV P n w0 F l H o (.int .u32 (xs.getD j 0)):=fun a w ha hw=>by
 obtain⟨q,hq,_,hs,_⟩:=Z.parts
 subst hj
 have hg:(dm xs)[j]? =some (.int .u32 (xs.getD j 0)):=BK K1
 simp[execOp,ho,ha.ev hx,ha.ev I,Instr.index,asIntOf,run_underlying Q,run_underlying hu,sizeOf,typeInfo,hq,hs,M,show(0:Int)<=(j:Int) by omega,part,isAgg,hg]
def PV.ad8(ho:o.op=.binOp .xor t x y t')(I:ev l x=some (.int k p))(M:ev l y=some (.int k q)):PV P n w0 F l H o (.int k (k.wrap ((BitVec.ofInt k.bits p^^^BitVec.ofInt k.bits q).toNat:Nat))):=
 PV.bin ho I M fh fun w=>by rw[binOp_xor];rfl
def PV.ab2(ho:o.op=.binOp .and t x y t')(I:ev l x=some (.int k p))(M:ev l y=some (.int k q)):PV P n w0 F l H o (.int k (k.wrap ((BitVec.ofInt k.bits p&&&BitVec.ofInt k.bits q).toNat:Nat))):=
 PV.bin ho I M fh fun w=>by rw[binOp_and];rfl
def PV.tI(ho:o.op=.binOp .or t x y t')(I:ev l x=some (.int k p))(M:ev l y=some (.int k q)):PV P n w0 F l H o (.int k (k.wrap ((BitVec.ofInt k.bits p|||BitVec.ofInt k.bits q).toNat:Nat))):=
 PV.bin ho I M fh fun w=>by rw[binOp_or];rfl
def PV.ad9(ho:o.op=.unOp .xor t x)(I:ev l x=some (.int .u32 p)):PV P n w0 F l H o (.int .u32 (Dg.bn p)):=fun a w ha _=>by
 simp[execOp,ho,ha.ev I,Op.unary,Op.intBits,Dg.bn,Dg.bx,IntKind.signed]
def PV.H6{e:TypeId}{c:Nat}(I:P.underlying t=some (.array len e))(ho:o.op=.sliceToArrayPointer t x)(M:ev l x=some (.slice A m c))(Q:len<=m):PV P n w0 F l H o (.pointer A):=fun a w ha _=>by
 simp[execOp,ho,ha.ev M,run_arrayAt w t e len A m c I Q]
def PV.uC(Q:∀w,HA w0 F H w->Rd w (Old w) A cs)(ht:Is P t m)(M:0<m)(ho:o.op=.load t x)(Z:ev l x=some (.pointer A))(hm:m<=cs.length):PV P n w0 F l H o (.agg (cs.take m).toArray):=by
 have I:(cs.take m).length=m:=by grind
 refine PV.iL (k:=0) Q (by rw[I];exact ht) (by rw[I];exact M) ho (by rw[Z];unfold bB;cases A<;>simp[Addr.add]) fun i v hv=>?_
 grind
variable {t:Nat}
def PV.aag{lo hi:Nat}{q:Operand}(Z:P.underlying t=some (.array len e))(hI:In P e z 1 bytes)(ho:o.op=.slice t x (some y) (some q) none)(hx:ev l x=some (.pointer (some ⟨B,0,none⟩)))(hy:ev l y=some (.int .i64 (lo:Int)))(hq:ev l q=some (.int .i64 (hi:Int)))(h1:lo<=hi)(h2:hi<=len):PV P n w0 F l H o (.slice (fu (some ⟨B,0,none⟩) len lo) (hi-lo) (len-lo)):=fun a w ha _=>by
 obtain⟨inf,M,hz0,hz1,hz2⟩:=hI.parts
 have Q:P.elem t=e:=by simp[Program.elem,Z]
 have I:P.arrayLen t=len:=by simp[Program.arrayLen,Z]
 have hr:=run_sliceAt_array_lh (P:=P) w t ⟨B,0,none⟩ (by rw[Q,I];exact Z) .i64 .i64 (lo:Int) (hi:Int) K1 K1 (by rw[I];omega)
 rw[Q,I] at hr
 simp[execOp,ho,ha.ev hx,ha.ev hy,ha.ev hq,hr,sizeOf,typeInfo,M,hz1,Result.andThen,slicedAt,fu]
 split<;>rfl
def PV.aaW{lo:Nat}(Z:P.underlying t=some (.array len e))(hI:In P e z 1 bytes)(ho:o.op=.slice t x (some y) none none)(hx:ev l x=some (.pointer (some ⟨B,0,none⟩)))(hy:ev l y=some (.int .i64 (lo:Int)))(h2:lo<=len):PV P n w0 F l H o (.slice (fu (some ⟨B,0,none⟩) len lo) (len-lo) (len-lo)):=fun a w ha _=>by
 obtain⟨inf,M,hz0,hz1,hz2⟩:=hI.parts
 have Q:P.elem t=e:=by simp[Program.elem,Z]
 have I:P.arrayLen t=len:=by simp[Program.arrayLen,Z]
 have hr:=run_sliceAt_array_l (P:=P) w t ⟨B,0,none⟩ (by rw[Q,I];exact Z) .i64 (lo:Int) K1 (by rw[I];omega)
 rw[Q,I] at hr
 simp[execOp,ho,ha.ev hx,ha.ev hy,hr,sizeOf,typeInfo,M,hz1,Result.andThen,slicedAt,fu]
 split<;>rfl
def PV.acr{hi:Nat}{q:Operand}(Z:P.underlying t=some (.array len e))(hI:In P e z 1 bytes)(ho:o.op=.slice t x none (some q) none)(hx:ev l x=some (.pointer (some ⟨B,0,none⟩)))(hq:ev l q=some (.int .i64 (hi:Int)))(h2:hi<=len):PV P n w0 F l H o (.slice (fu (some ⟨B,0,none⟩) len 0) hi len):=fun a w ha _=>by
 obtain⟨inf,M,hz0,hz1,hz2⟩:=hI.parts
 have Q:P.elem t=e:=by simp[Program.elem,Z]
 have I:P.arrayLen t=len:=by simp[Program.arrayLen,Z]
 have hr:=run_sliceAt_array_h (P:=P) w t ⟨B,0,none⟩ (by rw[Q,I];exact Z) .i64 (hi:Int) K1 (by rw[I];omega)
 rw[Q,I] at hr
 simp[execOp,ho,ha.ev hx,ha.ev hq,hr,sizeOf,typeInfo,M,hz1,Result.andThen,slicedAt,fu]
 split<;>rfl
def PV.RY(Z:P.underlying t=some (.array len e))(hI:In P e z 1 bytes)(ho:o.op=.slice t x none none none)(hx:ev l x=some (.pointer (some ⟨B,0,none⟩))):
  PV P n w0 F l H o (.slice (fu (some ⟨B,0,none⟩) len 0) len len):=fun a w ha _=>by
 obtain⟨inf,I,hz0,hz1,hz2⟩:=hI.parts
 have M:P.elem t=e:=by simp[Program.elem,Z]
 have Q:P.arrayLen t=len:=by simp[Program.arrayLen,Z]
 have hr:=run_sliceAt_array_all (P:=P) w t ⟨B,0,none⟩ (by rw[M,Q];exact Z)
 rw[M,Q] at hr
 simp[execOp,ho,ha.ev hx,hr,sizeOf,typeInfo,I,hz1,Result.andThen,slicedAt,fu]
 split<;>rfl
def OW.Qm{d t2 Et p I Q M Z:Nat}{ad:Addr}{cur:bi}(cs:bi)(hT:P.underlying t=some (.slice Et))(hI:In P Et z 1 bytes)(ho:o.op=.call {callee:=.builtin .copy,args:= #[x,y],argTypes:= #[t,t2]})(hg:gd ops l o.guard=some true)(hd:o.dst=some d)(hn:Nat.blt d n.sz=true)(hx:ev l x=some (.slice (some ⟨B,p,none⟩) I Q))(hy:ev l y=some (.slice (some ad) M Z))(hi:sel H i=some (HP.aw B T cur,H'))(hc:cs.length=Nat.min M I)(hR:∀w,HA w0 F H w->∀j v,cs[j]? =some v->w.cell? (ad.add j)=some v)(hfit:p+cs.length<=cur.length)(h1:cs.all (·.oneCell')=true)(k:OW P n w0 F ops K rest ((d,.int .i64 (cs.length:Int))::l) (HP.aw B T (cur.take p++cs++cur.drop (p+cs.length))::H')):OW P n w0 F ops K (o::rest) l H:=
 OW.step hg hd hn (fun v H1=>v=.int .i64 (cs.length:Int)/\H1=HP.aw B T (cur.take p++cs++cur.drop (p+cs.length))::H')
  (fun a w ha hw=>by
   obtain⟨inf,hinf,hz0,hz1,hz2⟩:=hI.parts
   have hb:=hw.aw hi
   have hr:=run_copy_row (P:=P) w t t2 o.type Et B p I Q ad M Z cur.toArray T cs hT (by rw[hinf];simp[hz1]) hb hc (hR w hw) (by simpa using hfit) (fun v hv=>aJ.1 h1 v hv)
   simp only[List.toList_toArray] at hr
   exact⟨_,w.setRow B (cur.take p++cs++cur.drop (p+cs.length)).toArray,_,by simp only[execOp,ho,resolve,invoke,builtin,ha.ev hx,ha.ev hy];simp[ha.ev hx,ha.ev hy,hr,goInt],⟨rfl,rfl⟩,(hw.sel hi).setRow⟩)
  (fun v H1 ⟨hv,hH⟩=>by subst hv hH;exact k)
def ME(v:bv):(dm v).take 1++(dm v).take 7++(dm v).drop 8=dm (Dg.sh v):=by simp[dm,Dg.sh,dZ,zH,List.map_drop]
def OW.Xs{d t2 Et c1 c2:Nat}{v:bv}(Z:P.underlying t=some (.slice Et))(hI:In P Et z 1 bytes)(ho:o.op=.call {callee:=.builtin .copy,args:= #[x,y],argTypes:= #[t,t2]})(hg:gd ops l o.guard=some true)(hd:o.dst=some d)(hn:Nat.blt d n.sz=true)(hx:ev l x=some (.slice (some ⟨B,1,none⟩) 7 c1))(hy:ev l y=some (.slice (some ⟨B,0,none⟩) 7 c2))(hi:sel H i=some (HP.aw B T (dm v),H'))(Q:v.length=8)(k:OW P n w0 F ops K rest ((d,.int .i64 7)::l) (HP.aw B T (dm (Dg.sh v))::H')):OW P n w0 F ops K (o::rest) l H:=by
 have I:((dm v).take 7).length=7:=by simp[Q]
 refine OW.Qm ((dm v).take 7) Z hI ho hg hd hn hx hy hi (by rw[I];rfl) (fun w hw j u hu=>?_) (by rw[I];simp[Q]) ?_ ?_
 ·have hb:=hw.aw hi;have M:(⟨B,0,none⟩:Addr).add j=⟨B,j,none⟩:=by unfold Addr.add;split<;>simp_all
  rw[M,cell_of_row w B j _ T (0,0) hb];grind
 ·grind [vP]
 rw[I];have:=ME v;rw[this];exact k
end
end E
end
end Go.Proofs.YtcgecopggfjojaaGreatDoor
