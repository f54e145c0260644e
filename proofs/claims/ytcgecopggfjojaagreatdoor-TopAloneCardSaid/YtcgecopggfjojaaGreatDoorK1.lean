/- Part 1: the logic, the plain laws and the walks behind TopAlone (lemmas only; each says its own conditions). -/
import Derived.WalkKit
import Derived.WalkLawsBesides
import Derived.Deep.Quiet
import Derived.OrdersHeld
import Derived.OrdersIn
import Derived.TacticsIn
import Derived.RangeFuncLeaves
import Derived.Maps.AppendAt
import Derived.Lib.OthersKept
import Derived.RangeFuncWrites
import Derived.RecoverIn
import Derived.DefersIn
import Derived.Maps.Own
import Derived.Lib.AppendZeros
import Derived.Lib.SliceRun
import Derived.Test.YtcgecopggfjojaaGreatDoorProg
import Derived.Test.YtcgecopggfjojaaGreatDoorRows
set_option maxRecDepth 100000
set_option linter.all false
set_option maxHeartbeats 0
namespace Go.Proofs.YtcgecopggfjojaaGreatDoor
open Go Go.RowKit
abbrev am:=Option Addr
abbrev ap:=List UInt8
abbrev bv:=List Int
abbrev bi:=List Value
def aa:=@if_pos
def aq:=@congrArg
def ae:=@if_neg
def ay:=@Bool.and_eq_true
def af:=@Int.toNat_of_nonneg
def ax:=@decide_eq_true_eq
def aF:=@List.length_append
def aW:=@List.getD_eq_getElem?_getD
def aQ:=@List.append_assoc
def bf:=@of_decide_eq_true
def aC:=@List.getElem?_eq_getElem
def aN:=@List.mem_append
def aJ:=@List.all_eq_true
def bp:=@List.append_nil
def aM:=@List.length_set
def bb:=@Nat.le_refl
def bg:=@List.not_mem_nil
def bu:=@decide_eq_true
def bJ:=@List.take_length
def br:=@Nat.lt_of_lt_of_le
def bw:=@List.mem_singleton
def bF:=@Nat.zero_le
def bU:=@List.take_of_length_le
def aV:=@decide_eq_false
def bZ:=@List.length_map
def cf:=@List.length_take
def bj:=@Nat.eq_of_beq_eq_true
def cm:=@List.mem_map
def bN:=@List.length_drop
def dZ:=@List.map_append
def er:=@List.mem_cons
def bI:=@List.length_cons
def dG:=@Bool.not_eq_true'
def de:=@Bool.eq_iff_iff
def dd:=@Nat.lt_or_ge
def eG:=@Nat.lt_succ_iff_lt_or_eq
def dX:=@Nat.le_of_ble_eq_true
def eC:=@List.getElem_of_mem
def cu:=@List.mem_range
def dI:=@Bool.or_eq_true
def gN:=@List.mem_filter
def dW:=@Option.getD_some
def eZ:=@List.length_replicate
def fc:=@of_decide_eq_false
def fQ:=@Nat.mod_eq_of_lt
def ig:=@List.mem_or_eq_of_mem_set
def ft:=@List.mem_flatMap
def mO:=@List.any_eq_false
def eI:=@List.pairwise_iff_getElem
def fH:=@List.getElem?_eq_none
def fU:=@List.ext_getElem
def jl:=@List.pairwise_cons
def jj:=@List.map_cons
def gL:=@List.length_nil
def ic:=@Nat.le_trans
def ik:=@List.any_eq_true
def lR:=@List.getElem_mem
def iS:=@Nat.mul_le_mul
def kh:=@Array.getElem?_toList
def kg:=@List.mapM_cons
def iQ:=@Bool.or_eq_false_iff
def gk:=@Nat.mod_lt
def j3:=@Int.toNat_natCast
def j4:=@List.eq_nil_of_length_eq_zero
def lh:=@List.getD_cons_succ
def jG:=@Nat.mul_pos
def jy:=@List.mem_cons_self
def oM:=@Nat.succ_pos
def qG:=@Array.getElem?_append_left
def k8:=@Bool.eq_false_iff
def km:=@List.mem_cons_of_mem
def mF:=@Nat.mul_one
def jt:=@Nat.zero_add
def kT:=@Bool.not_eq_true
def j9:=@Bool.true_and
def lY:=@Int.emod_nonneg
def j6:=@List.filter_append
def ka:=@Array.getElem?_eq_none
def ry:=@List.filter_eq_nil_iff
def gK:=@List.take_append_of_le_length
def my:=@List.getElem?_map
def mc:=@List.map_set
def ki:=@List.map_nil
def ou:=@List.length_filter_le
def oo:=@List.set_append_right
def oD:=@Nat.sub_self
def jw:=@Nat.succ_mul
def iU:=@List.mem_append_left
def jC:=@List.cons_append
def ij:=@Array.getElem?_eq_some_iff
def ov:=@Int.le_refl
def lE:=@List.filter_eq_self
def lu:=@List.map_map
def rr:=@Int.emod_lt_of_pos
def ke:=@Bool.false_eq_true
def oB:=@List.set_cons_zero
def oI:=@Nat.lt_of_le_of_lt
def vn:=@List.eq_of_mem_replicate
def kU:=@Int.sub_eq_add_neg
def rm:=@Bool.not_false
def jc:=@List.nodup_append
def jS:=@List.take_add_one
def nB:=@List.ext_getElem?
def nh:=@Int.ediv_eq_zero_of_lt
def tw:=@List.findIdx?_eq_some_iff_getElem
def je:=@Bool.not_true
def lp:=@Bool.and_eq_false_iff
def mY:=@Nat.sub_zero
def ny:=@Int.mul_le_mul_of_nonneg_right
def nz:=@List.range_succ
def pz:=@List.nil_append
def nv:=@Nat.min_eq_left
def qp:=@Nat.mul_le_mul_right
def tE:=@Nat.div_lt_of_lt_mul
def tv:=@List.replicate_zero
def yN:=@Bool.false_and
def qq:=@List.take_zero
def lG:=@Bool.not_eq_false'
def tD:=@Nat.eq_zero_or_pos
def kY:=@Nat.add_sub_cancel
def sM:=@List.count_eq_zero
def nf:=@Bool.false_or
def oT:=@Bool.and_true
def zH:=@List.map_take
def sQ:=@List.filter_congr
def oU:=@Nat.add_mod_right
def yO:=@Int.ediv_le_self
def sP:=@List.filter_cons
def nc:=@List.take_append
def nj:=@Int.ediv_nonneg
def tu:=@Int.natCast_mul
def sO:=@List.filter_map
def tg:=@Nat.mod_add_mod
def td:=@List.map_id
def K1{p:Prop}(h:p:=by omega):p:=h
namespace E
abbrev Env:=List (Nat×Value)
structure Fr where
 sz:Nat
 rd:Option Nat:=none
 mm:Bool:=false
instance (k:Nat):OfNat Fr k:=⟨⟨k,none,false⟩⟩
abbrev Fr.fe(n:Fr):Fence:={Fence.wide with round:=n.rd}
def lk:Env->Nat->Option Value
 |[],_=>none
 |(k,v)::l,t=>bif Nat.beq k t then some v else lk l t
def lr(l:Env)(t:Nat):Option Value:=bif Nat.beq t 9999 then none else lk l t
def ev(l:Env):Operand->Option Value
 |.tmp t=>lr l t
 |.const v=>some v
 |.global g=>some (.pointer (some ⟨g,0,none⟩))
 |.func f=>some (.func (.func f) #[] #[])
def evs(l:Env):List Operand->Option (bi)
 |[]=>some []
 |x::r=>match ev l x,evs l r with
  |some v,some vs=>some (v::vs)
  |_,_=>none
def marks(ds:List Nat):Value:=.tuple (ds.map fun(d:Nat)=>Value.int .i64 (d:Int)).toArray
def FZ(a:Act)(ds:List Nat):Prop:=a.defers=ds.map fun d=>{target:=.collected d,args:= #[]}
def At(a:Act)(t:Nat)(v:Value):Prop:=bif Nat.beq t 9999 then((∃ds,v=marks ds/\FZ a ds)\/∃I cap,v=.func I #[] cap/\a.defers=[{target:=.fn I cap,args:= #[]}]) else a.tmps[t]? =some v
structure Ag(n:Fr)(l:Env)(a:Act):Prop where
 size:a.tmps.size=n.sz
 small:n.sz<=9999
 defers:n.mm=false->a.defers=[]
 at_:∀t v,lk l t=some v->At a t v
variable {G:Nat->Prop}{a:Act}{w w':World}
def Ag.get{n:Fr}{l:Env}(h:Ag n l a)(t:Nat)(v:Value)(I:lr l t=some v):a.tmps[t]? =some v:=by
 unfold lr at I;cases hb:Nat.beq t 9999 with
 |true=>rw[hb] at I;cases I
 |false=>
  rw[hb] at I;have:=h.at_ t v I;unfold At at this;rw[hb] at this;exact this
def J2{ds I:List Nat}(h:marks ds=marks I):ds=I:=by
 unfold marks at h;replace h:=aq Array.toList (Value.tuple.inj h);simp only at h;induction ds generalizing I with
 |nil=>cases I with
  |nil=>rfl
  |cons e I=>simp at h
 |cons d ds M=>cases I with
  |nil=>simp at h
  |cons e I=>
   grind
def Ag.zE{n:Fr}{l:Env}(h:Ag n l a){ds:List Nat}(M:lk l 9999=some (marks ds)):FZ a ds:=by
 rcases h.at_ 9999 _ M with⟨es,I,Z⟩|⟨fv,cap,I,_⟩
 ·rw[J2 I];exact Z
 cases I
def Ag.dfr{n:Fr}{l:Env}(h:Ag n l a){M:Fn}{cap:Array Value}(Z:lk l 9999=some (.func M #[] cap)):a.defers=[{target:=.fn M cap,args:= #[]}]:=by
 rcases h.at_ 9999 _ Z with⟨es,I,_⟩|⟨gv,cp,I,hm⟩
 ·cases I
 cases I;exact hm
theorem Ag.ev{n:Fr}{l:Env}{a:Act}(h:Ag n l a){x:Operand}{v:Value}(I:ev l x=some v):a.eval x=v:=by
 cases x with
 |tmp t=>
  have:=h.get t v I;simp only[Act.eval,Array.getD_eq_getD_getElem?,this,dW]
 |const u=>simp only[E.ev,Option.some.injEq] at I;exact I
 |global g=>simp only[E.ev,Option.some.injEq] at I;exact I
 |func f=>simp only[E.ev,Option.some.injEq] at I;exact I
theorem Ag.evs{n:Fr}{l:Env}{a:Act}(h:Ag n l a):∀{xs:List Operand} {vs:bi},evs l xs=some vs->xs.map a.eval=vs:=by
 intro xs;induction xs with
 |nil=>intro vs I;simp only[E.evs,Option.some.injEq] at I;subst I;rfl
 |cons x r M=>
  intro vs I;unfold E.evs at I;split at I
  ·rename_i v Z h1 h2;simp only[Option.some.injEq] at I;subst I;simp only[jj,h.ev h1,M h2]
  cases I
theorem Ag.put{n:Fr}{l:Env}{a:Act}(h:Ag n l a){d:Nat}(hd:Nat.blt d n.sz=true)(v:Value):Ag n ((d,v)::l) (a.put (some d) v):=by
 have Z:d<n.sz:=dX hd;refine⟨by simp[Act.put,h.size],h.small,fun hm=>by simpa[Act.put] using h.defers hm,fun t u M=>?_⟩
 simp only[lk] at M;by_cases hdt:d=t
 ·subst hdt;simp only[Nat.beq_refl,cond_true,Option.some.injEq] at M;subst M
  have hne:Nat.beq d 9999=false:=by
   cases hb:Nat.beq d 9999 with
   |true=>have:=bj hb;have:=h.small;omega
   |false=>rfl
  simp[At,Act.put,hne,h.size,Z]
 have:Nat.beq d t=false:=by
  cases hb:Nat.beq d t with
  |true=>exact absurd (bj hb) hdt
  |false=>rfl
 simp only[this,cond_false] at M;have I:=h.at_ t u M;unfold At at I⊢;cases hb:Nat.beq t 9999 with
 |true=>rw[hb] at I;exact I
 |false=>
  rw[hb] at I;simp only[cond_false] at I⊢;simp only[Act.put,Array.getElem?_setIfInBounds];rw[ae hdt];exact I
def Ag.lW{n:Fr}{l:Env}(h:Ag n l a)(v:Value):Ag n l (a.put none v):=h
def zZ(l:Env):Env->Prop
 |[]=>True
 |(t,v)::r=>lk l t=some v/\zZ l r
theorem zZ.lk{l:Env}:∀{I:Env},zZ l I->∀t v,lk I t=some v->lk l t=some v:=by
 intro I;induction I with
 |nil=>intro _ t v h;cases h
 |cons p r M=>
  obtain⟨k,u⟩:=p;intro hc t v h;simp only[E.lk] at h;cases hb:Nat.beq k t with
  |true=>
   rw[hb] at h;simp only[cond_true,Option.some.injEq] at h;subst h;rw[<-bj hb];exact hc.1
  |false=>
   rw[hb] at h;exact M hc.2 t v h
def Ag.ti{n:Fr}{l I:Env}(h:Ag n l a)(hc:zZ l I):Ag n I a:=⟨h.size,h.small,h.defers,fun t v M=>h.at_ t v (hc.lk t v M)⟩
def pick(l:Env):List Nat->Option Env
 |[]=>some []
 |t::r=>match lk l t,pick l r with
  |some v,some e=>some ((t,v)::e)
  |_,_=>none
def uh{l:Env}:∀{ts:List Nat} {e:Env},pick l ts=some e->zZ l e:=by
 intro ts;induction ts with
 |nil=>intro e h;simp only[pick,Option.some.injEq] at h;subst h;trivial
 |cons t r I=>
  intro e h;unfold pick at h;split at h
  ·rename_i v e' M Z;simp only[Option.some.injEq] at h;subst h;exact⟨M,I Z⟩
  cases h
def gd(ops:Array Oper)(l:Env):Option (Nat×Bool)->Option Bool
 |none=>some true
 |some (j,I)=>match ops[j]? with
  |some o=>match o.dst with
   |some s=>match lr l s with
    |some (.bool b)=>some (b==I)
    |some (.tuple _)=>some false
    |_=>none
   |none=>none
  |none=>none
theorem Ag.wanted{n:Fr}{l:Env}{a:Act}(h:Ag n l a){ops:Array Oper}{o:Oper}{b:Bool}(hg:gd ops l o.guard=some b):
  Region.wanted o (yielded ops a.tmps)=b:=by
 unfold Region.wanted;cases ho:o.guard with
 |none=>rw[ho] at hg;simp only[gd,Option.some.injEq] at hg;simp[hg]
 |some p=>
  obtain⟨j,I⟩:=p;rw[ho] at hg;simp only[gd] at hg;split at hg
  ·rename_i o' M;split at hg
   ·rename_i s hs;split at hg
    ·rename_i c hc;simp only[Option.some.injEq] at hg;have:=h.get s _ hc;simp only[yielded,M,hs,Option.bind_some,this];subst hg;cases c<;>cases I<;>rfl
    ·rename_i c hc;simp only[Option.some.injEq] at hg;have:=h.get s _ hc;simp only[yielded,M,hs,Option.bind_some,this];subst hg;rfl
    cases hg
   cases hg
  cases hg
structure HP where
 bA:(Nat->Prop)->World->Prop
 loc:∀(S:Nat->Prop) (w w':World),(∀k,S k->w'.heap[k]? =w.heap[k]?)->bA S w->bA S w'
def ah(w:World):(Nat->Prop)->List HP->Prop
 |_,[]=>True
 |U,p::r=>∃S:Nat->Prop,p.bA S w/\(∀k,S k->k<w.heap.size/\¬U k)/\ah w (fun k=>U k\/S k) r
def ah.congr{H:List HP}:∀{U V:Nat->Prop},(∀k,U k↔V k)->ah w U H->ah w V H:=by
 induction H with
 |nil=>intro _ _ _ _;trivial
 |cons p r M=>
  intro U V h ⟨S,Z,I,h3⟩;exact⟨S,Z,fun k hk=>⟨(I k hk).1,fun hv=>(I k hk).2 ((h k).2 hv)⟩,M (fun k=>by rw[h k]) h3⟩
def ah.mono{H:List HP}:∀{U V:Nat->Prop},(∀k,V k->U k)->ah w U H->ah w V H:=by
 induction H with
 |nil=>intro _ _ _ _;trivial
 |cons p r Z=>
  intro U V h ⟨S,h1,M,h3⟩;exact⟨S,h1,fun k hk=>⟨(M k hk).1,fun I=>(M k hk).2 (h k I)⟩,Z (fun k hk=>hk.elim (fun I=>.inl (h k I)) .inr) h3⟩
def ah.fS{H:List HP}(hs:w.heap.size<=w'.heap.size):∀{U:Nat->Prop},(∀k,¬U k->k<w.heap.size->w'.heap[k]? =w.heap[k]?)->ah w U H->ah w' U H:=by
 induction H with
 |nil=>intro _ _ _;trivial
 |cons p r Z=>
  intro U h ⟨S,h1,I,h3⟩
  exact⟨S,p.loc S w w' (fun k hk=>h k (I k hk).2 (I k hk).1) h1,fun k hk=>⟨br (I k hk).1 hs,(I k hk).2⟩,
   Z (fun k hk M=>h k (fun hu=>hk (.inl hu)) M) h3⟩
def ah.swap{p q:HP}{r:List HP}{U:Nat->Prop}:ah w U (p::q::r)->ah w U (q::p::r):=by
 intro⟨S,Z,h2,T,h3,I,h5⟩;refine⟨T,h3,fun k hk=>⟨(I k hk).1,fun M=>(I k hk).2 (.inl M)⟩,S,Z,fun k hk=>⟨(h2 k hk).1,fun M=>?_⟩,?_⟩
 ·grind
 grind
def ah.perm{H H':List HP}(hp:H.Perm H'):∀{U:Nat->Prop},ah w U H->ah w U H':=by
 induction hp with
 |nil=>intro _ h;exact h
 |cons x _ Z=>intro U ⟨S,h1,h2,h3⟩;exact⟨S,h1,h2,Z h3⟩
 |swap x y l=>intro U h;exact h.swap
 |trans _ _ I M=>intro U h;exact M (I h)
def sel:List HP->Nat->Option (HP×List HP)
 |[],_=>none
 |p::r,0=>some (p,r)
 |p::r,i+1=>match sel r i with
  |some (q,s)=>some (q,p::s)
  |none=>none
def an:∀{H:List HP} {i:Nat} {q:HP} {s:List HP},sel H i=some (q,s)->H.Perm (q::s):=by
 intro H;induction H with
 |nil=>intro i q s h;cases h
 |cons p r I=>
  intro i q s h;cases i with
  |zero=>simp only[sel,Option.some.injEq,Prod.mk.injEq] at h;obtain⟨rfl,rfl⟩:=h;exact List.Perm.refl _
  |succ i=>
   unfold sel at h;split at h
   ·rename_i M s' hs;simp only[Option.some.injEq,Prod.mk.injEq] at h;obtain⟨rfl,rfl⟩:=h;exact(List.Perm.cons p (I hs)).trans (List.Perm.swap _ _ _)
   cases h
def sels:List HP->List Nat->Option (List HP)
 |_,[]=>some []
 |H,i::is=>match sel H i with
  |some (q,s)=>match sels s is with
   |some r=>some (q::r)
   |none=>none
  |none=>none
theorem ch:∀{is:List Nat} {H H':List HP} {U:Nat->Prop},sels H is=some H'->ah w U H->ah w U H':=by
 intro is;induction is with
 |nil=>intro H H' U h _;simp only[sels,Option.some.injEq] at h;subst h;trivial
 |cons i is I=>
  intro H H' U h hc;unfold sels at h;split at h
  ·rename_i q s hs;split at h
   ·rename_i r M;simp only[Option.some.injEq] at h;subst h;obtain⟨S,Z,h2,h3⟩:=hc.perm (an hs);exact⟨S,Z,h2,I M h3⟩
   cases h
  cases h
structure HA(w0:World)(F:Nat->Prop)(H:List HP)(w:World):Prop where
 os:w.os=w0.os
 tape:w.tape=w0.tape
 output:w.output=w0.output
 size:w0.heap.size<=w.heap.size
 z1:∀k,F k->k<w0.heap.size
 kept:∀k,F k->w.heap[k]? =w0.heap[k]?
 chunks:ah w F H
theorem HA.perm{w0 w:World}{F:Nat->Prop}{H H':List HP}(h:HA w0 F H w)(hp:H.Perm H'):HA w0 F H' w:={h with chunks:=h.chunks.perm hp}
def HA.drop{w0:World}{F:Nat->Prop}{p:HP}{H:List HP}(h:HA w0 F (p::H) w):HA w0 F H w:=
 {h with chunks:=by obtain⟨S,_,_,I⟩:=h.chunks;exact I.mono fun k hk=>.inl hk}
theorem HA.drew{w0 w:World}{F:Nat->Prop}{H:List HP}(h:HA w0 F H w):HA w0 F H w.drew:=
 ⟨h.os,h.tape,h.output,h.size,h.z1,h.kept,h.chunks.fS (w:=w) (w':=w.drew) (bb _) fun _ _ _=>rfl⟩
def fj(w:World)(G:Nat->Prop):(Nat->Prop)->List HP->Prop
 |_,[]=>True
 |U,p::r=>∃S:Nat->Prop,p.bA S w/\(∀k,S k->k<w.heap.size/\¬U k/\G k)/\fj w G (fun k=>U k\/S k) r
def fj.of(hs:w.heap.size<=w'.heap.size)(hk:∀k,G k->w'.heap[k]? =w.heap[k]?){H:List HP}:
  ∀{U V:Nat->Prop},(∀k,k<w.heap.size->¬U k->G k)->(∀k,V k->U k)->ah w U H->fj w' G V H:=by
 induction H with
 |nil=>intro _ _ _ _ _;trivial
 |cons p r ih=>
  intro U V Z hV ⟨S,h1,M,h3⟩;refine⟨S,p.loc S w w' (fun k I=>hk k (Z k (M k I).1 (M k I).2)) h1,fun k I=>⟨br (M k I).1 hs,fun hv=>(M k I).2 (hV k hv),Z k (M k I).1 (M k I).2⟩,?_⟩;grind
def fj.more{H:List HP}:∀{U V:Nat->Prop},(∀k,V k->G k->U k)->fj w G U H->fj w G V H:=by
 induction H with
 |nil=>intro _ _ _ _;trivial
 |cons p r M=>
  intro U V Z ⟨S,h1,I,h3⟩;refine⟨S,h1,fun k hk=>⟨(I k hk).1,fun hv=>(I k hk).2.1 (Z k hv (I k hk).2.2),(I k hk).2.2⟩,M ?_ h3⟩;grind
def fj.chunks{H:List HP}:∀{U:Nat->Prop},fj w G U H->ah w U H:=by
 induction H with
 |nil=>intro _ _;trivial
 |cons p r M=>
  intro U ⟨S,Z,I,h3⟩;exact⟨S,Z,fun k hk=>⟨(I k hk).1,(I k hk).2.1⟩,M h3⟩
def ah.app{B:List HP}:∀{A:List HP} {U:Nat->Prop},ah w (fun k=>U k\/G k) A->fj w G U B->ah w U (A++B):=by
 intro A;induction A with
 |nil=>intro U _ I;exact I.chunks
 |cons p r Z=>
  intro U ⟨S,h1,M,h3⟩ I;refine⟨S,h1,fun k hk=>⟨(M k hk).1,fun hu=>(M k hk).2 (.inl hu)⟩,Z (U:=fun k=>U k\/S k) (h3.congr fun k=>?_) (I.more ?_)⟩
  ·grind
  grind
def HA.write{w0:World}{F:Nat->Prop}{p:HP}{Hn H:List HP}(h:HA w0 F (p::H) w)(hst:∀S,p.bA S w->(∀k,S k->k<w.heap.size/\¬F k)->w'.os=w.os/\w'.tape=w.tape/\w'.output=w.output/\w.heap.size<=w'.heap.size/\
   (∀k,k<w.heap.size->¬S k->w'.heap[k]? =w.heap[k]?)/\ah w' (fun k=>k<w.heap.size/\¬S k) Hn):HA w0 F (Hn++H) w':=by
 obtain⟨S,h1,h2,h3⟩:=h.chunks;obtain⟨hos,M,Z,hsz,hk,hn⟩:=hst S h1 h2;have hF:∀k,F k->k<w.heap.size/\¬S k:=fun k I=>⟨br (h.z1 k I) h.size,fun hs=>(h2 k hs).2 I⟩;refine⟨hos.trans h.os,M.trans h.tape,Z.trans h.output,ic h.size hsz,h.z1,fun k I=>(hk k (hF k I).1 (hF k I).2).trans (h.kept k I),?_⟩;refine ah.app (G:=fun k=>k<w.heap.size/\¬S k) ?_ ?_
 ·grind
 exact fj.of (w:=w) hsz (fun k hk'=>hk k hk'.1 hk'.2) (U:=fun k=>F k\/S k) (fun k hlt hn=>⟨hlt,fun hs=>hn (.inr hs)⟩) (fun k I=>.inl I) h3
def HP.none:HP:=⟨fun S _=>∀k,¬S k,fun _ _ _ _ h=>h⟩
theorem HA.none{w0 w:World}{F:Nat->Prop}{H:List HP}(h:HA w0 F H w):HA w0 F (HP.none::H) w:=
 {h with chunks:=⟨fun _=>False,fun _ hk=>hk,fun _ hk=>hk.elim,h.chunks.congr fun k=>by simp⟩}
def HA.make{w0:World}{F:Nat->Prop}{Hn H:List HP}(h:HA w0 F H w)(hos:w'.os=w.os)(I:w'.tape=w.tape)(Z:w'.output=w.output)(hsz:w.heap.size<=w'.heap.size)(hk:∀k,k<w.heap.size->w'.heap[k]? =w.heap[k]?)(hn:ah w' (fun k=>k<w.heap.size) Hn):HA w0 F (Hn++H) w':=
 h.none.write fun _ hS _=>⟨hos,I,Z,hsz,fun k M _=>hk k M,hn.congr fun k=>⟨fun M=>⟨M,hS k⟩,(·.1)⟩⟩
abbrev Kt:=Exit->Env->List HP->Prop
def QK(n:Fr)(w0:World)(F:Nat->Prop)(K:Kt):Exit->Act->World->Prop:=fun e a w=>∃l H,Ag n l a/\HA w0 F H w/\K e l H
def CW(P:Program)(n:Fr)(w0:World)(F:Nat->Prop)(c:Code)(K:Kt)(l:Env)(H:List HP):Prop:=
 ∀a w,Ag n l a->HA w0 F H w->c.wpIn n.fe 0 P (QK n w0 F K) a w
def OW(P:Program)(n:Fr)(w0:World)(F:Nat->Prop)(ops:Array Oper)(K:Kt)(rest:List Oper)(l:Env)(H:List HP):Prop:=
 ∀a w,Ag n l a->HA w0 F H w->wpListIn n.fe 0 P ops (QK n w0 F K) rest a w
def lJ(K:Kt)(f:Env->List HP->Prop):Kt
 |.normal,l,H=>f l H
 |.exit i,l,H=>K (.exit i) l H
 |.goto i,l,H=>K (.goto i) l H
 |.ret,l,H=>K .ret l H
 |.panic c,l,H=>K (.panic c) l H
 |.outgrown,l,H=>K .outgrown l H
def blockK(id:Nat)(K:Kt):Kt
 |.exit i,l,H=>bif Nat.beq i id then K .normal l H else K (.exit i) l H
 |.normal,l,H=>K .normal l H
 |.goto i,l,H=>K (.goto i) l H
 |.ret,l,H=>K .ret l H
 |.panic c,l,H=>K (.panic c) l H
 |.outgrown,l,H=>K .outgrown l H
section
variable{P:Program}{n:Fr}{w0:World}{F:Nat->Prop}{K:Kt}{l:Env}{H:List HP}
variable {H':List HP}{a:Act}{args aE:Array Value}{c:Code}{d:Nat}{fo:Operand}{rest:List Oper}{ts:Array TypeId}{v:Value}{vs:bi}{w w':World}{xs:List Operand}
def CW.mono{K':Kt}(h:CW P n w0 F c K l H)(hk:∀e l H,K e l H->K' e l H):CW P n w0 F c K' l H:=
 fun a w ha M=>wpIn_mono (h a w ha M) fun e _ _ ⟨I,H',Z,h2,h3⟩=>⟨I,H',Z,h2,hk e I H' h3⟩
theorem CW.ti{c:Code}{I:Env}(hc:zZ l I)(h:CW P n w0 F c K I H):CW P n w0 F c K l H:=fun a w ha M=>h a w (ha.ti hc) M
theorem CW.sels(is:List Nat)(hs:sels H is=some H')(h:CW P n w0 F c K l H'):CW P n w0 F c K l H:=
 fun a w ha I=>h a w ha {I with chunks:=ch hs I.chunks}
theorem CW.seq{x y:Code}(h:CW P n w0 F x (lJ K (CW P n w0 F y K)) l H):CW P n w0 F (.seq x y) K l H:=fun a w ha hw=>by
 refine wpIn_seq (wpIn_mono (h a w ha hw) fun e a' w' ⟨l',H',I,M,Z⟩=>?_)
 cases e with
 |normal=>exact Z a' w' I M
 |exit i=>exact⟨l',H',I,M,Z⟩
 |goto i=>exact⟨l',H',I,M,Z⟩
 |ret=>exact⟨l',H',I,M,Z⟩
 |panic c=>exact⟨l',H',I,M,Z⟩
 |outgrown=>exact⟨l',H',I,M,Z⟩
theorem CW.skip(h:K .normal l H):CW P n w0 F .skip K l H:=fun _ _ ha I=>wpIn_skip ⟨l,H,ha,I,h⟩
theorem CW.exit{i:Nat}(h:K (.exit i) l H):CW P n w0 F (.exit i) K l H:=fun _ _ ha I=>wpIn_exit ⟨l,H,ha,I,h⟩
theorem CW.ret(h:K .ret l H):CW P n w0 F .ret K l H:=fun _ _ ha I=>wpIn_ret ⟨l,H,ha,I,h⟩
theorem CW.label{i:Nat}(h:K .normal l H):CW P n w0 F (.label i) K l H:=fun _ _ ha I=>wpIn_label ⟨l,H,ha,I,h⟩
theorem CW.block{i:Nat}{c:Code}(h:CW P n w0 F c (blockK i K) l H):CW P n w0 F (.block i c) K l H:=fun a w ha hw=>by
 refine wpIn_block (wpIn_mono (h a w ha hw) fun e a' w' ⟨M,H',Z,h2,I⟩=>?_)
 cases e with
 |exit j=>
  simp only[blockK] at I
  simp only[Exit.inBlock]
  by_cases hj:j=i
  ·subst hj
   simp only[Nat.beq_refl,cond_true] at I
   simp only[if_true]
   exact⟨M,H',Z,h2,I⟩
  ·have:Nat.beq j i=false:=by
    cases hb:Nat.beq j i with
    |true=>exact absurd (bj hb) hj
    |false=>rfl
   rw[this] at I;rw[ae hj];exact⟨M,H',Z,h2,I⟩
 |normal=>exact⟨M,H',Z,h2,I⟩
 |goto i=>exact⟨M,H',Z,h2,I⟩
 |ret=>exact⟨M,H',Z,h2,I⟩
 |panic c=>exact⟨M,H',Z,h2,I⟩
 |outgrown=>exact⟨M,H',Z,h2,I⟩
theorem CW.cond{c:Operand}{x y:Code}{b:Bool}(hc:ev l c=some (.bool b))(ht:b=true->CW P n w0 F x K l H)(M:b=false->CW P n w0 F y K l H):
  CW P n w0 F (.cond c x y) K l H:=fun a w ha I=>
 wpIn_cond_split (ha.ev hc) (fun h=>ht h a w ha I) (fun h=>M h a w ha I)
def CW.Ma{c:Operand}{x y:Code}(hc:ev l c=some (.bool true))(ht:CW P n w0 F x K l H):CW P n w0 F (.cond c x y) K l H:=
 CW.cond hc (fun _=>ht) (fun h=>by cases h)
def CW.Re{c:Operand}{x y:Code}(hc:ev l c=some (.bool false))(I:CW P n w0 F y K l H):CW P n w0 F (.cond c x y) K l H:=
 CW.cond hc (fun h=>by cases h) (fun _=>I)
theorem CW.put(s:Nat)(M:Value)(hs:lk l s=some v)(Z:v=M)(h:CW P n w0 F c K ((s,M)::l) H):CW P n w0 F c K l H:=
 fun a w ha hw=>h a w ⟨ha.size,ha.small,ha.defers,fun t u I=>by
  simp only[lk] at I
  cases hb:Nat.beq s t with
  |true=>
   rw[hb] at I
   simp only[cond_true,Option.some.injEq] at I
   rw[<-bj hb,<-I,<-Z]
   exact ha.at_ s v hs
  |false=>
   rw[hb] at I
   exact ha.at_ t u I⟩ hw
theorem CW.loop{c:Code}(I:Nat->Env->List HP->Prop)(m0:Nat)(h0:∃Z,zZ l Z/\I m0 Z H)
  (round:∀m l H,I m l H->CW P n w0 F c (lJ K (fun l H=>∃m' Z is H',m'<m/\zZ l Z/\E.sels H is=some H'/\I m' Z H')) l H):
  CW P n w0 F (.loop c) K l H:=by
 have key:∀m,∀l H,I m l H->∀a w,Ag n l a->HA w0 F H w->∀b k cs,b.roundOf=n.fe.round->n.fe.fn b.fn->n.fe.room (cs.length+1+0)->
   ∃e a' w',QK n w0 F K e a' w'/\ArrivesIn (Machine.fenced P n.fe) P (lone (b.atR a (.code c:: .inLoop c::k)) cs w) b k cs e a' w':=by
  intro m;induction m using Nat.strongRecOn with
  |_ m ih=>
   intro l H hI a w ha hw b k cs hro hb hr;obtain⟨e,a1,w1,⟨l1,H1,h1,h2,h3⟩,M⟩:=round m l H hI a w ha hw b (.inLoop c::k) cs hro hb hr;cases e with
   |normal=>
    obtain⟨m',Z,is,H',hlt,hc,hs,hI'⟩:=h3;obtain⟨e2,a2,w2,hq2,harr2⟩:=ih m' hlt Z H' hI' a1 w1 (h1.ti hc) {h2 with chunks:=ch hs h2.chunks} b k cs hro hb hr
    exact⟨e2,a2,w2,hq2,.of_steps (StepsIn.trans M (.one (fenced_calm hb hr rfl) stepR_inLoop)) harr2⟩
   |exit id=>exact⟨_,a1,w1,⟨l1,H1,h1,h2,h3⟩,.pass (x:=.inLoop c) rfl (fun _ _=>.inl (by simp)) M⟩
   |goto id=>exact⟨_,a1,w1,⟨l1,H1,h1,h2,h3⟩,.pass (x:=.inLoop c) rfl (fun _ _=>.inl (by simp)) M⟩
   |ret=>exact⟨_,a1,w1,⟨l1,H1,h1,h2,h3⟩,.pass (x:=.inLoop c) rfl (fun _ _=>.inl (by simp)) M⟩
   |panic id=>exact⟨_,a1,w1,⟨l1,H1,h1,h2,h3⟩,.pass (x:=.inLoop c) rfl (fun _ _=>.inl (by simp)) M⟩
   |outgrown=>exact⟨_,a1,w1,⟨l1,H1,h1,h2,h3⟩,.pass (x:=.inLoop c) rfl (fun _ _=>.inl (by simp)) M⟩
 obtain⟨Z,hc,hI⟩:=h0;intro a w ha hw b k cs hro hb hr;obtain⟨e,a',w',hq,M⟩:=key m0 Z H hI a w (ha.ti hc) hw b k cs hro hb hr;exact⟨e,a',w',hq,.of_steps (.one (fenced_calm hb hr rfl) stepR_loop) M⟩
theorem CW.region{id:Nat}{ops:List Oper}(h:OW P n w0 F ops.toArray K ops l H):CW P n w0 F (.region id ops.toArray false) K l H:=
 fun a w ha I=>wpIn_region_lit (h a w ha I)
def OW.nil{ops:Array Oper}(h:K .normal l H):OW P n w0 F ops K [] l H:=fun _ _ ha I=>⟨l,H,ha,I,h⟩
def QW(P:Program)(n:Fr)(w0:World)(F:Nat->Prop)(ops:Array Oper)(K:Kt)(rest:List Oper)(l:Env)(H:List HP):Prop:=
 ∀a,Ag n l a->wpQuiet P ops (HA w0 F H) (fun I=>∀w',HA w0 F H w'->QK n w0 F K .normal I w') rest a
def CW.draw{id:Nat}{ops:List Oper}(M:P.follows .mixedOrders=true)(Z:Region.lexB .any ops.toArray=true)(h:QW P n w0 F ops.toArray K ops l H)(hr:n.rd=none:=by rfl):
  CW P n w0 F (.region id ops.toArray true) K l H:=fun a w ha hw=>by
 have I:n.fe=Fence.wide:=by unfold Fr.fe;rw[hr];rfl
 rw[I,wpIn_wide]
 exact wp_region_quiet (C:=HA w0 F H) M Z (hw.drew) (by simpa using h a ha)
def QW.nil{ops:Array Oper}(h:K .normal l H):QW P n w0 F ops K [] l H:=fun _ ha=>wpQuiet_nil fun _ I=>⟨l,H,ha,I,h⟩
def PV(P:Program)(n:Fr)(w0:World)(F:Nat->Prop)(l:Env)(H:List HP)(o:Oper)(v:Value):Prop:=
 ∀a w,Ag n l a->HA w0 F H w->(execOp a.eval o).run P w=.ok (.value v) w
def jg{P:Program}{r:Option Nat}{o:Oper}{ρ:Operand->Value}{x:Next}(h:(execOp ρ o).run P w=.ok x w')(I:∀d,x≠ .defer d):(o.semAt r ρ).run P w=.ok x w':=by
 by_cases hc:∃c,o.op=.defer c
 ·obtain⟨c,hc⟩:=hc;exfalso;unfold execOp at h;rw[hc] at h;simp only[Sem.run_bind] at h;cases hr:(resolve ρ c o.type).run P w with
  |ok d w1=>rw[hr] at h;simp[Result.andThen] at h;exact I _ h.1.symm
  |halt y w1=>rw[hr] at h;simp[Result.andThen] at h
 rw[Oper.semAt_eq r ρ o (fun c h=>hc ⟨c,h⟩)];exact h
def lZ{o:Oper}{K:Act->World->Prop}{Q:Exit->Act->World->Prop}(h:(execOp a.eval o).run P w=.ok (.value v) w')(k:K (a.put o.dst v) w'):o.wpIn n.fe 0 P a w K Q:=
 ⟨fun _ _=>trivial,by rw[jg h (by simp)];exact k⟩
def Tp{o:Oper}{K:Act->World->Prop}{Q:Exit->Act->World->Prop}(h:(execOp a.eval o).run P w=.ok .skip w')(k:K (a.put o.dst undef) w'):o.wpIn n.fe 0 P a w K Q:=
 ⟨fun _ _=>trivial,by rw[jg h (by simp)];exact k⟩
def qo{f:Nat}{R:Ending->World->Prop}(h:Calls P f args w R):CallsIn n.fe 0 P f args w R:=callsIn_wide.2 h
def gP{o:Oper}{f:Nat}{K:Act->World->Prop}{Q:Exit->Act->World->Prop}(h:(execOp a.eval o).run P w=.ok (.enter f args) w')(k:Calls P f args w' fun e I=>∃v,e=.returned v/\K (a.put o.dst v) I):o.wpIn n.fe 0 P a w K Q:=
 ⟨fun _ _=>trivial,by
  rw[jg h (by simp)]
  refine⟨(fun h=>by cases h),CallsIn.mono (qo k) fun e I ⟨v,M,hk⟩=>?_⟩
  subst M
  exact hk⟩
def OW.pure{ops:Array Oper}{o:Oper}(hg:gd ops l o.guard=some true)(hd:o.dst=some d)(Z:Nat.blt d n.sz=true)(h:PV P n w0 F l H o v)(k:OW P n w0 F ops K rest ((d,v)::l) H):OW P n w0 F ops K (o::rest) l H:=fun a w ha M=>by
 refine wpListIn_step fun K' I=>?_
 rw[aa (ha.wanted hg)]
 refine lZ (h a w ha M) ?_
 rw[hd]
 exact I _ _ (k _ _ (ha.put Z v) M)
def QW.pure{ops:Array Oper}{o:Oper}(hg:gd ops l o.guard=some true)(hd:o.dst=some d)(M:Nat.blt d n.sz=true)(h:PV P n w0 F l H o v)(k:QW P n w0 F ops K rest ((d,v)::l) H):QW P n w0 F ops K (o::rest) l H:=fun a ha=>by
 refine wpQuiet_step fun K' I=>?_
 rw[aa (ha.wanted hg)]
 refine⟨v,fun w Z=>?_,?_⟩
 ·unfold Oper.quietAt
  rw[h a w ha Z]
  exact⟨rfl,rfl⟩
 ·rw[hd];exact I _ (k _ (ha.put M v))
def OW.off{ops:Array Oper}{o:Oper}(hg:gd ops l o.guard=some false)(hd:o.dst=some d)(M:Nat.blt d n.sz=true)(k:OW P n w0 F ops K rest ((d,undef)::l) H):OW P n w0 F ops K (o::rest) l H:=fun a w ha Z=>by
 refine wpListIn_step fun K' I=>?_
 rw[ae (by rw[ha.wanted hg];simp),hd]
 exact⟨fun _ _=>trivial,I _ _ (k _ _ (ha.put M _) Z)⟩
def OW.MI{ops:Array Oper}{o:Oper}(hg:gd ops l o.guard=some false)(hd:o.dst=none)(k:OW P n w0 F ops K rest l H):OW P n w0 F ops K (o::rest) l H:=fun a w ha M=>by
 refine wpListIn_step fun K' I=>?_
 rw[ae (by rw[ha.wanted hg];simp),hd]
 exact⟨fun _ _=>trivial,I _ _ (k _ _ (ha.lW _) M)⟩
def QW.off{ops:Array Oper}{o:Oper}(hg:gd ops l o.guard=some false)(hd:o.dst=some d)(M:Nat.blt d n.sz=true)(k:QW P n w0 F ops K rest ((d,undef)::l) H):QW P n w0 F ops K (o::rest) l H:=fun a ha=>by
 refine wpQuiet_step fun K' I=>?_
 rw[ae (by rw[ha.wanted hg];simp),hd]
 exact I _ (k _ (ha.put M _))
def Ag.same{n:Fr}{l:Env}(ha:Ag n l a){s:Nat}{M:Value}(hs:lk l s=some v)(Z:v=M):Ag n ((s,M)::l) a:=
 ⟨ha.size,ha.small,ha.defers,fun t u I=>by
  simp only[lk] at I
  cases hb:Nat.beq s t with
  |true=>
   rw[hb] at I
   simp only[cond_true,Option.some.injEq] at I
   rw[<-bj hb,<-I,<-Z]
   exact ha.at_ s v hs
  |false=>
   rw[hb] at I
   exact ha.at_ t u I⟩
theorem OW.put{ops:Array Oper}(s:Nat)(I:Value)(hs:lk l s=some v)(M:v=I)(k:OW P n w0 F ops K rest ((s,I)::l) H):
  OW P n w0 F ops K rest l H:=fun a w ha Z=>k a w (ha.same hs M) Z
theorem QW.put{ops:Array Oper}(s:Nat)(I:Value)(hs:lk l s=some v)(M:v=I)(k:QW P n w0 F ops K rest ((s,I)::l) H):
  QW P n w0 F ops K rest l H:=fun a ha=>k a (ha.same hs M)
theorem OW.split{ops:Array Oper}(s:Nat){b:Bool}(hs:lk l s=some (.bool b))(ht:b=true->OW P n w0 F ops K rest ((s,.bool true)::l) H)(I:b=false->OW P n w0 F ops K rest ((s,.bool false)::l) H):OW P n w0 F ops K rest l H:=by
 cases b with
 |true=>exact OW.put s _ hs rfl (ht rfl)
 |false=>exact OW.put s _ hs rfl (I rfl)
theorem QW.split{ops:Array Oper}(s:Nat){b:Bool}(hs:lk l s=some (.bool b))(ht:b=true->QW P n w0 F ops K rest ((s,.bool true)::l) H)(I:b=false->QW P n w0 F ops K rest ((s,.bool false)::l) H):QW P n w0 F ops K rest l H:=by
 cases b with
 |true=>exact QW.put s _ hs rfl (ht rfl)
 |false=>exact QW.put s _ hs rfl (I rfl)
theorem OW.step{ops:Array Oper}{o:Oper}(hg:gd ops l o.guard=some true)(hd:o.dst=some d)(Z:Nat.blt d n.sz=true)(R:Value->List HP->Prop)(h:∀a w,Ag n l a->HA w0 F H w->∃v w' H',(execOp a.eval o).run P w=.ok (.value v) w'/\R v H'/\HA w0 F H' w')(k:∀v H',R v H'->OW P n w0 F ops K rest ((d,v)::l) H'):OW P n w0 F ops K (o::rest) l H:=fun a w ha hw=>by
 refine wpListIn_step fun K' I=>?_
 rw[aa (ha.wanted hg)]
 obtain⟨v,w',H',hr,hR,M⟩:=h a w ha hw
 refine lZ hr ?_
 rw[hd]
 exact I _ _ (k v H' hR _ _ (ha.put Z v) M)
def OW.act{ops:Array Oper}{o:Oper}(hg:gd ops l o.guard=some true)(hd:o.dst=none)(h:∀a w,Ag n l a->HA w0 F H w->∃w',(execOp a.eval o).run P w=.ok .skip w'/\HA w0 F H' w')(k:OW P n w0 F ops K rest l H'):OW P n w0 F ops K (o::rest) l H:=fun a w ha Z=>by
 refine wpListIn_step fun K' I=>?_
 rw[aa (ha.wanted hg)]
 obtain⟨w',hr,M⟩:=h a w ha Z
 refine Tp hr ?_
 rw[hd]
 exact I _ _ (k _ _ (ha.lW _) M)
def bK(w0:World)(F:Nat->Prop)(R:Value->List HP->Prop)(e:Ending)(w':World):Prop:=∃v Hn,e=.returned v/\R v Hn/\HA w0 F Hn w'
def Old(w:World):Nat->Prop:=fun k=>k<w.heap.size
def Nm(P:Program)(f:Nat):Prop:=∃fn,P.funcs[f]? =some fn/\fn.body.isSome=true/\(fn.name== "runtime.NumGoroutine")=false
def tX{o:Oper}{f:Nat}(Z:Nm P f)(I:a.eval fo=.func (.func f) #[] #[])(ho:o.op=.call {callee:=.value fo,args:=xs.toArray,argTypes:=ts})(hx:xs.map a.eval=vs):
  (execOp a.eval o).run P w=.ok (.enter f vs.toArray) w:=by
 obtain⟨fn,h1,M,h3⟩:=Z;have hb:fn.body≠none:=by intro h;rw[h] at M;cases M
 have hn:fn.name≠ "runtime.NumGoroutine" :=by simpa using h3
 simp[execOp,ho,resolve,Deferred.ofValue,invoke,callFunc,program,Sem.run,h1,hn,hb,I,hx]
theorem OW.call{ops:Array Oper}{o:Oper}{f:Nat}(hf:Nm P f)(hg:gd ops l o.guard=some true)(hd:o.dst=some d)(hn:Nat.blt d n.sz=true)(ho:o.op=.call {callee:=.value fo,args:=xs.toArray,argTypes:=ts})(M:ev l fo=some (.func (.func f) #[] #[]))(hx:evs l xs=some vs)(R:Value->List HP->Prop)(h:∀w,HA w0 F H w->Calls P f vs.toArray w (bK w (Old w) R))(k:∀v Hn,R v Hn->OW P n w0 F ops K rest ((d,v)::l) (Hn++H)):OW P n w0 F ops K (o::rest) l H:=fun a w ha hw=>by
 refine wpListIn_step fun K' Z=>?_
 rw[aa (ha.wanted hg)]
 refine gP (tX hf (ha.ev M) ho (ha.evs hx)) ?_
 refine(h w hw).mono fun e w' ⟨v,Hn,he,hR,I⟩=>?_
 refine⟨v,he,?_⟩
 rw[hd]
 exact Z _ _ (k v Hn hR _ _ (ha.put hn v) (hw.make I.os I.tape I.output I.size (fun k hk=>I.kept k hk) I.chunks))
def HA.pF{M:World}(I:HA w (Old w) [] M)(h:HA w0 F H w):HA w0 F [] M:=
 ⟨I.os.trans h.os,I.tape.trans h.tape,I.output.trans h.output,ic h.size I.size,h.z1,fun k hk=>(I.kept k (br (h.z1 k hk) h.size)).trans (h.kept k hk),trivial⟩
def HA.base(h:HA w0 F H w):HA w0 F [] w:={h with chunks:=trivial}
def kp{o:Oper}{f:Nat}(Z:Nm P f)(I:a.eval fo=.func (.func f) #[] aE)(ho:o.op=.call {callee:=.value fo,args:=xs.toArray,argTypes:=ts})(hx:xs.map a.eval=vs):
  (execOp a.eval o).run P w=.ok (.enter f (vs.toArray++aE)) w:=by
 obtain⟨fn,h1,M,h3⟩:=Z;have hb:fn.body≠none:=by intro h;rw[h] at M;cases M
 have hn:fn.name≠ "runtime.NumGoroutine" :=by simpa using h3
 simp[execOp,ho,resolve,Deferred.ofValue,invoke,callFunc,program,Sem.run,h1,hn,hb,I,hx]
def OW.o6{ops:Array Oper}{o:Oper}{f:Nat}(hf:Nm P f)(hg:gd ops l o.guard=some true)(hd:o.dst=some d)(hn:Nat.blt d n.sz=true)(ho:o.op=.call {callee:=.value fo,args:=xs.toArray,argTypes:=ts})(M:ev l fo=some (.func (.func f) #[] aE))(hx:evs l xs=some vs)(R:Value->List HP->Prop)(h:∀w,HA w0 F H w->Calls P f (vs.toArray++aE) w (bK w (Old w) R))(k:∀v Hn,R v Hn->OW P n w0 F ops K rest ((d,v)::l) (Hn++H)):OW P n w0 F ops K (o::rest) l H:=fun a w ha hw=>by
 refine wpListIn_step fun K' Z=>?_
 rw[aa (ha.wanted hg)]
 refine gP (kp hf (ha.ev M) ho (ha.evs hx)) ?_
 refine(h w hw).mono fun e w' ⟨v,Hn,he,hR,I⟩=>?_
 refine⟨v,he,?_⟩
 rw[hd]
 exact Z _ _ (k v Hn hR _ _ (ha.put hn v) (hw.make I.os I.tape I.output I.size (fun k hk=>I.kept k hk) I.chunks))
theorem QW.call{ops:Array Oper}{o:Oper}{f:Nat}(hf:Nm P f)(hg:gd ops l o.guard=some true)(hd:o.dst=some d)(hn:Nat.blt d n.sz=true)(ho:o.op=.call {callee:=.value fo,args:=xs.toArray,argTypes:=ts})(M:ev l fo=some (.func (.func f) #[] #[]))(hx:evs l xs=some vs)(v:Value)(h:∀w,HA w0 F H w->Calls P f vs.toArray w (bK w (Old w) fun u _=>u=v))(k:QW P n w0 F ops K rest ((d,v)::l) H):QW P n w0 F ops K (o::rest) l H:=fun a ha=>by
 refine wpQuiet_step fun K' Z=>?_
 rw[aa (ha.wanted hg)]
 refine⟨v,fun w hw=>?_,?_⟩
 ·unfold Oper.quietAt
  rw[tX hf (ha.ev M) ho (ha.evs hx)]
  refine⟨rfl,(h w hw).mono fun e w' ⟨u,Hn,he,hR,I⟩=>⟨by rw[he,hR],?_⟩⟩
  have:=hw.make I.os I.tape I.output I.size (fun k hk=>I.kept k hk) (Hn:=[]) trivial
  exact this
 ·rw[hd];exact Z _ (k _ (ha.put hn v))
def OW.aU{ops:Array Oper}{o:Oper}{f:Nat}(M:Nm P f)(hg:gd ops l o.guard=some true)(hd:o.dst=some d)(hn:Nat.blt d n.sz=true)(ho:o.op=.call {callee:=.value fo,args:=xs.toArray,argTypes:=ts})(hfo:ev l fo=some (.func (.func f) #[] #[]))(hx:evs l xs=some vs)(R:Value->List HP->Prop)(i:Nat){p:HP}(hi:E.sel H i=some (p,H'))(h:∀w S,HA w0 F (p::H') w->p.bA S w->(∀k,S k->k<w.heap.size/\¬F k)->ah w (fun k=>F k\/S k) H'->Calls P f vs.toArray w (bK w (fun k=>k<w.heap.size/\¬S k) R))(k:∀v Hn,R v Hn->OW P n w0 F ops K rest ((d,v)::l) (Hn++H')):OW P n w0 F ops K (o::rest) l H:=fun a w ha Z=>by
 refine wpListIn_step fun K' hK'=>?_
 rw[aa (ha.wanted hg)]
 refine gP (tX M (ha.ev hfo) ho (ha.evs hx)) ?_
 have hw1:=Z.perm (an hi)
 obtain⟨S,h1,h2,h3⟩:=hw1.chunks
 refine(h w S hw1 h1 h2 h3).mono fun e w' ⟨v,Hn,he,hR,I⟩=>?_
 refine⟨v,he,?_⟩
 rw[hd]
 refine hK' _ _ (k v Hn hR _ _ (ha.put hn v) ?_)
 have hF:∀k,F k->k<w.heap.size/\¬S k:=fun k M=>⟨br (Z.z1 k M) Z.size,fun hs=>(h2 k hs).2 M⟩
 refine⟨I.os.trans Z.os,I.tape.trans Z.tape,I.output.trans Z.output,ic Z.size I.size,Z.z1,fun k M=>(I.kept k (hF k M)).trans (Z.kept k M),?_⟩
 refine ah.app (G:=fun k=>k<w.heap.size/\¬S k) ?_ ?_
 ·exact I.chunks.congr fun k=>⟨.inr,fun hk'=>hk'.elim (hF k) id⟩
 ·exact fj.of (w:=w) I.size (fun k hk'=>I.kept k hk') (U:=fun k=>F k\/S k) (fun k hlt hn=>⟨hlt,fun hs=>hn (.inr hs)⟩) (fun k M=>.inl M) h3
end
section
variable{P:Program}{n:Fr}{ops:Array Oper}{Q:Exit->Act->World->Prop}{md:Region.Mode}{S:World->Prop}
def IL{r:Option Nat}(o:Oper)(hs:∀cs b,o.op≠ .select cs b)(a:Act)(I:Option Tmp)(v:Value)(h:∀d,I=some d->d∉o.looksAt ops):
  o.semAt r (a.put I v).eval=o.semAt r a.eval:=by
 have M:=execOp_put (ops:=ops) o hs a I v h;unfold Oper.semAt;split
 ·rename_i l c Z
  rw[resolve_congr (ρ:=(a.put I v).eval) (ρ':=a.eval) c o.type (fun x hx=>Act.eval_put fun d hd hxd=>h d hd (by
   subst hxd
   exact iU _ (List.mem_filterMap.2 ⟨.tmp d,by rw[Z];simpa[Op.operands] using hx,rfl⟩)))]
 exact M
variable {YS:World->Prop}{a:Act}{oi:Oper}{v:Value}{w:World}
def H7{i:Nat}{o:Oper}(hi:ops[i]? =some o)(M:YieldsIf P ops S o v a){K:Act->World->Prop}(Z:S w)(h:K (a.put o.dst v) w):wpOpIn n.fe 0 P ops Q i K a w:=by
 unfold wpOpIn;simp only[hi];rcases M with⟨I,hv⟩|⟨I,rfl⟩
 ·rw[aa I];exact lZ (hv w Z) h
 rw[ae (by rw[I];simp)];exact⟨fun _ _=>trivial,h⟩
def Wb{j:Nat}{I:Oper}(hj:ops[j]? =some I)(hap:oi.apart ops I=true)(hsi:∀cs b,oi.op≠ .select cs b)(hsj:∀cs b,I.op≠ .select cs b)(hQ:∀c a w,Q (.panic c) (a.put oi.dst v) w->Q (.panic c) a w){K:Act->World->Prop}(M:YieldsIf P ops S oi v a)(h:wpOpIn n.fe 0 P ops Q j K (a.put oi.dst v) w):
  wpOpIn n.fe 0 P ops Q j (fun a' w'=>YieldsIf P ops S oi v a'/\K (a'.put oi.dst v) w') a w:=by
 obtain⟨h1,h2,h3⟩:=Oper.apart_spec hap
 have fS:∀(a:Act),YieldsIf P ops S oi v a->∀u,YieldsIf P ops S oi v (a.put I.dst u):=fun a M u=>
  M.of_same (execOp_put oi hsi a I.dst u h3) (wanted_put oi a I.dst u h3)
 have keepD:∀d,YieldsIf P ops S oi v {a with defers:=d::a.defers}:=fun d=>M.of_same rfl rfl
 unfold wpOpIn at*;simp only[hj] at*;rw[wanted_put I a oi.dst v h1] at h;split
 ·rename_i hw;simp only[hw,if_true] at h;unfold Oper.wpIn at*;refine⟨fun _ _=>trivial,?_⟩;have h:=h.2;rw[IL I hsj a oi.dst v h1] at h;generalize(I.semAt n.fe.round a.eval).run P w=r at*;cases r with
  |ok x w'=>
   cases x<;>simp only[Oper.uponIn] at h⊢
   case value u=>exact⟨fS a M u,by rw[<-Act.put_comm a v u h2];exact h⟩
   case skip=>exact⟨fS a M _,by rw[<-Act.put_comm a v undef h2];exact h⟩
   case defer d=>
    refine⟨fS _ (keepD d) _,?_⟩;rw[<-Act.put_comm _ v undef h2,<-Act.put_defers];exact h
   case enter f args=>
    refine⟨h.1,CallsIn.mono h.2 fun e w'' Z=>?_⟩;cases e with
    |returned u=>exact⟨fS a M u,by rw[<-Act.put_comm a v u h2];exact Z⟩
    |panicked c=>exact hQ _ _ _ Z
    |outgrown=>exact Z
   case row row args=>exact⟨h.1,RowsIn.mono h.2 fun u w'' Z=>⟨fS a M u,by rw[<-Act.put_comm a v u h2];exact Z⟩⟩
   case round l f tmps assign body=>
    refine⟨h.1,RoundIn.mono h.2 fun e w'' Z=>?_⟩;cases e with
    |returned u=>exact⟨fS a M u,by rw[<-Act.put_comm a v u h2];exact Z⟩
    |panicked c=>exact hQ _ _ _ Z
    |outgrown=>exact Z
  |halt x w'=>
   cases x<;>simp only[Oper.uponIn] at h⊢
   case panic u=>exact hQ _ _ _ h
 rename_i hw;simp only[hw] at h;exact⟨fun _ _=>trivial,fS a M _,by rw[<-Act.put_comm a v undef h2];exact h.2⟩
def off(T:List Nat)(listed:Array Bool):Bool:=T.any fun t=>listed.getD t false
def mW{T:List Nat}{listed:Array Bool}{j:Nat}(h:j∉T):off T (listed.setIfInBounds j true)=off T listed:=by
 unfold off;induction T with
 |nil=>rfl
 |cons t T I=>
  simp_all
def Fw(md:Region.Mode)(ops:Array Oper)(t a:Nat):Bool:=match ops[t]? with
 |some o=>o.after.any fun e=>Region.binds md e&&Nat.beq e.on a
 |none=>false
def path(md:Region.Mode)(ops:Array Oper):Nat->List Nat->Nat->Bool
 |t,[],i=>Fw md ops t i
 |t,a::r,i=>Fw md ops t a&&path md ops a r i
def trail(md:Region.Mode)(ops:Array Oper)(i:Nat):List Nat->List (List Nat)->Bool
 |[],_=>true
 |t::T,p::ps=>path md ops t p i&&trail md ops i T ps
 |_::_,[]=>false
def IH{i:Nat}:∀{T:List Nat} {ps:List (List Nat)},trail md ops i T ps=true->∀t∈T,∃p,path md ops t p i=true:=by
 intro T;induction T with
 |nil=>intro ps _ t ht;cases ht
 |cons u T I=>
  intro ps h t ht;cases ps with
  |nil=>cases h
  |cons p ps=>
   simp only[trail,ay] at h;grind
def om(md:Region.Mode)(ops:Array Oper)(listed:Array Bool):Prop:=∀k a,listed.getD k false=true->Fw md ops k a=true->listed.getD a false=true
def GD(md:Region.Mode)(ops:Array Oper)(listed:Array Bool):Bool:=(List.range listed.size).all fun k=> !listed.getD k false||match ops[k]? with
 |some o=>o.after.all fun e=> !Region.binds md e||listed.getD e.on false
 |none=>true
def Lf{listed:Array Bool}(h:GD md ops listed=true):om md ops listed:=fun k a hk I=>by
 have M:k<listed.size:=by
  rcases dd k listed.size with Z|Z
  ·exact Z
  simp[ka Z] at hk
 have h1:=aJ.1 h k (cu.2 M);rw[hk,je,nf] at h1;unfold Fw at I;split at I
 ·rename_i o ho;rw[ho] at h1;obtain⟨e,h2,h3⟩:=Array.any_eq_true'.1 I;rw[ay] at h3;have h4:=Array.all_eq_true'.1 h1 e h2;rw[h3.1,je,nf,bj h3.2] at h4;exact h4
 cases I
def Ah{listed:Array Bool}(hc:om md ops listed){i:Nat}:∀{p:List Nat} {t:Nat},(∀a,Fw md ops t a=true->listed.getD a false=true)->path md ops t p i=true->listed.getD i false=true:=by
 intro p;induction p with
 |nil=>intro t ht h;exact ht i h
 |cons a r I=>
  intro t ht h;simp only[path,ay] at h;exact I (fun b M=>hc a b (ht a h.1) M) h.2
def kL(P:Program)(n:Fr)(md:Region.Mode)(ops:Array Oper)(Q:Exit->Act->World->Prop)(S:Bool->World->Prop)(T:List Nat):Nat->Array Bool->Act->World->Prop
 |0,listed,a,w=>Region.ready md ops listed=[]/\Q .normal a w
 |fuel+1,listed,a,w=>
  (Region.ready md ops listed=[]->Q .normal a w)/\
  ∀i∈Region.ready md ops listed,wpOpIn n.fe 0 P ops Q i (fun I w'=>S (off T (listed.setIfInBounds i true)) w'/\kL P n md ops Q S T fuel (listed.setIfInBounds i true) I w') a w
theorem xn{S:Bool->World->Prop}{T:List Nat}:∀(fuel:Nat) (listed:Array Bool) (a:Act) (w:World),kL P n md ops Q S T fuel listed a w->wpAnyIn n.fe 0 P md ops Q fuel listed a w
 |0,_,_,_,h=>h
 |fuel+1,_,_,_,h=>⟨h.1,fun i hi=>wpOpIn_mono (fun I w' M=>xn fuel _ I w' M.2) (h.2 i hi)⟩
def Pb{S:Bool->World->Prop}{T:List Nat}{i:Nat}(hi:ops[i]? =some oi)(hsel:∀(j:Nat) (o:Oper) cs b,ops[j]? =some o->o.op≠ .select cs b)(hQ:∀c a w,Q (.panic c) (a.put oi.dst v) w->Q (.panic c) a w)(hiT:i∉T):
  ∀(fuel:Nat) (listed:Array Bool) (a:Act) (w:World),
   (∀j oj,ops[j]? =some oj->j≠i->listed.getD j true=false->(∀e∈oj.after,Region.binds md e=true->e.on≠i)->oi.apart ops oj=true)->
   i∈Region.ready md ops listed->YieldsIf P ops YS oi v a->S (off T listed) w->
   ((∀b w,S b w->YS w)\/(off T listed=false/\(∀w,S false w->YS w)/\(T=[]\/om md ops listed/\∀t∈T,∃p,path md ops t p i=true)))->
   kL P n md ops Q S T fuel (listed.setIfInBounds i true) (a.put oi.dst v) w->kL P n md ops Q S T (fuel+1) listed a w:=by
 have ys:∀{listed:Array Bool} {w:World},S (off T listed) w->((∀b w,S b w->YS w)\/(off T listed=false/\(∀w,S false w->YS w)/\(T=[]\/om md ops listed/\∀t∈T,∃p,path md ops t p i=true)))->YS w:=by
  intro listed w hS hc;rcases hc with hc|⟨h0,hc,_⟩
  ·exact hc _ w hS
  rw[h0] at hS;exact hc w hS
 intro fuel;induction fuel with
 |zero=>
  intro listed a w _ hr hy hS hc H;refine⟨fun h=>(by rw[h] at hr;cases hr),fun j hj=>?_⟩
  by_cases hji:j=i
  ·subst hji;exact H7 hi hy (ys hS hc) ⟨by rw[mW hiT];exact hS,H⟩
  have:=ready_mono hj hji;rw[H.1] at this;cases this
 |succ fuel ih=>
  intro listed a w I hr hy hS hc H;refine⟨fun h=>(by rw[h] at hr;cases hr),fun j hj=>?_⟩
  by_cases hji:j=i
  ·subst hji;exact H7 hi hy (ys hS hc) ⟨by rw[mW hiT];exact hS,H⟩
  have h1:=H.2 j (ready_mono hj hji);obtain⟨hjun,oj,hoj,hall⟩:=mem_ready.1 hj
  have hnot:∀e∈oj.after,Region.binds md e=true->e.on≠i:=fun e he hb heq=>by
   have h1:=hall e he hb;have h0:=(mem_ready.1 hr).1;rw[heq] at h1;rcases dd i listed.size with M|M
   ·simp[M] at h0 h1;rw[h0] at h1;cases h1
   simp[ka M] at h1
  have h2:=Wb hoj (I j oj hoj hji hjun hnot) (fun cs b=>hsel i oi cs b hi) (fun cs b=>hsel j oj cs b hoj) hQ hy h1
  have hfree':∀k ok,ops[k]? =some ok->k≠i->(listed.setIfInBounds j true).getD k true=false->
    (∀e∈ok.after,Region.binds md e=true->e.on≠i)->oi.apart ops ok=true:=fun k ok hk hki hun hno=>by
   refine I k ok hk hki ?_ hno;by_cases hjk:j=k
   ·subst hjk;exact hjun
   rw[getD_set_ne true hjk] at hun;exact hun
  have hoff:off T ((listed.setIfInBounds i true).setIfInBounds j true)=off T (listed.setIfInBounds j true):=by
   rw[Array.setIfInBounds_comm _ _ (Ne.symm hji),mW hiT]
  have hc':(∀b w,S b w->YS w)\/(off T (listed.setIfInBounds j true)=false/\(∀w,S false w->YS w)/\(T=[]\/om md ops (listed.setIfInBounds j true)/\∀t∈T,∃p,path md ops t p i=true)):=by
   rcases hc with hc|⟨h0,hc,ht⟩
   ·exact .inl hc
   rcases ht with rfl|⟨hcl,ht⟩
   ·exact .inr ⟨rfl,hc,.inl rfl⟩
   have Z:∀a,Fw md ops j a=true->listed.getD a false=true:=fun a ha=>by
    unfold Fw at ha;rw[hoj] at ha;obtain⟨e,h5,h6⟩:=Array.any_eq_true'.1 ha;rw[ay] at h6;have:=hall e h5 h6.1;rw[bj h6.2] at this;exact this
   refine .inr ⟨?_,hc,.inr ⟨fun k a hk he=>?_,ht⟩⟩
   ·rw[mW,h0];intro hm;obtain⟨p,hp⟩:=ht j hm;have h5:=Ah hcl Z hp;have h6:=(mem_ready.1 hr).1;rcases dd i listed.size with M|M
    ·simp[M] at h5 h6;rw[h6] at h5;cases h5
    simp[ka M] at h5
   have hmono:∀x,listed.getD x false=true->(listed.setIfInBounds j true).getD x false=true:=fun x hx=>by
    by_cases hjx:j=x
    ·subst hjx;rcases dd j listed.size with M|M
     ·simp[M]
     simp[ka M] at hx
    rw[getD_set_ne false hjx];exact hx
   by_cases hjk:j=k
   ·subst hjk;exact hmono a (Z a he)
   rw[getD_set_ne false hjk] at hk;exact hmono a (hcl k a hk he)
  refine wpOpIn_mono (fun a' w' h3=>?_) h2;have hS':S (off T (listed.setIfInBounds j true)) w':=by rw[<-hoff];exact h3.2.1
  refine⟨hS',ih (listed.setIfInBounds j true) a' w' hfree' (ready_mono hr (Ne.symm hji)) h3.1 hS' hc' ?_⟩;rw[Array.setIfInBounds_comm _ _ hji];exact h3.2.2
def Ik{S:Bool->World->Prop}{T:List Nat}{i:Nat}{fuel:Nat}{listed:Array Bool}(hi:ops[i]? =some oi)(hs:Region.noSelect ops=true)(M:Region.free md ops listed i=true)(Z:(Region.ready md ops listed).contains i=true)(hQ:∀c a w,Q (.panic c) (a.put oi.dst v) w->Q (.panic c) a w)(hy:YieldsIf P ops YS oi v a)(hS:S (off T listed) w)(I:i∉T)(hc:(∀b w,S b w->YS w)\/(off T listed=false/\(∀w,S false w->YS w)/\(T=[]\/om md ops listed/\∀t∈T,∃p,path md ops t p i=true)))(h:kL P n md ops Q S T fuel (listed.setIfInBounds i true) (a.put oi.dst v) w):kL P n md ops Q S T (fuel+1) listed a w:=
 Pb hi (Region.noSelect_spec hs) hQ I fuel listed a w (Region.free_spec hi M) (by simpa using Z) hy hS hc h
def yh{S:Bool->World->Prop}{T:List Nat}{rs:List Nat}{fuel:Nat}{listed:Array Bool}(M:Region.ready md ops listed=rs)(I:rs≠[])(h:∀i∈rs,wpOpIn n.fe 0 P ops Q i (fun Z w'=>S (off T (listed.setIfInBounds i true)) w'/\kL P n md ops Q S T fuel (listed.setIfInBounds i true) Z w') a w):kL P n md ops Q S T (fuel+1) listed a w:=
 ⟨fun h0=>absurd (M▸h0) I,M▸h⟩
def Td{S:Bool->World->Prop}{T:List Nat}{listed:Array Bool}(I:Region.ready md ops listed=[])(h:Q .normal a w):
  ∀fuel,kL P n md ops Q S T fuel listed a w
 |0=>⟨I,h⟩
 |_+1=>⟨fun _=>h,by rw[I];simp⟩
def JV{S:Bool->World->Prop}{T:List Nat}{id:Nat}(I:P.follows .mixedOrders=true)(h:kL P n .any ops Q S T ops.size (Array.replicate ops.size false) a {w with drawn:=w.drawn+1}):(Code.region id ops true).wpIn n.fe 0 P Q a w:=
 wpIn_region_any I (xn _ _ _ _ h)
end
section
variable{P:Program}{n:Fr}{w0:World}{F:Nat->Prop}{K:Kt}{l:Env}{H HS:List HP}{ops:Array Oper}{fuel:Nat}{listed:Array Bool}{o:Oper}
def QP(n:Fr)(w0:World)(F:Nat->Prop)(K:Kt)(c:List PanicEntry)(a:Act)(w:World):Prop:=Ag n [] a/\HA w0 F [] w/\K (.panic c) [] []
theorem QP.put{n:Fr}{w0:World}{F:Nat->Prop}{K:Kt}{c:List PanicEntry}{a:Act}{w:World}{d:Option Nat}{v:Value}(h:QP n w0 F K c (a.put d v) w):QP n w0 F K c a w:=
 ⟨⟨by have:=h.1.size;cases d<;>simpa[Act.put] using this,h.1.small,fun I=>by have:=h.1.defers I;cases d<;>simpa[Act.put] using this,fun _ _ M=>by cases M⟩,h.2⟩
def AQ(n:Fr)(w0:World)(F:Nat->Prop)(K:Kt):Exit->Act->World->Prop:=fun e a w=>(e=.normal/\QK n w0 F K .normal a w)\/∃c,e=.panic c/\QP n w0 F K c a w
def Vp(HS:List HP)(b:Bool):List HP:=cond b [] HS
def AW(P:Program)(n:Fr)(w0:World)(F:Nat->Prop)(ops:Array Oper)(K:Kt)(HS:List HP)(T:List Nat)(fuel:Nat)(listed:Array Bool)(l:Env)(H:List HP):Prop:=
 ∀a w,Ag n l a->HA w0 F H w->HA w0 F (Vp HS (off T listed)) w->kL P n .any ops (AQ n w0 F K) (fun b=>HA w0 F (Vp HS b)) T fuel listed a w
def AH(HS:List HP)(K:Kt)(C:Env->List HP->Prop):Kt:=fun e l H=>(e=.normal/\(∃is,E.sels H is=some HS)/\C l H)\/∃c,e=.panic c/\K (.panic c) [] []
variable {C:Env->List HP->Prop}{w:World}
def QX{HS:List HP}{c:List PanicEntry}(h:K (.panic c) [] []):AH HS K C (.panic c) l H:=.inr ⟨c,rfl,h⟩
theorem HA.sels{H':List HP}(I:HA w0 F H w){is:List Nat}(hs:E.sels H is=some H'):HA w0 F H' w:={I with chunks:=ch hs I.chunks}
def HA.no(I:HA w0 F H w):HA w0 F [] w:={I with chunks:=trivial}
def CW.gx{T:List Nat}{id:Nat}{ops:List Oper}(hm:P.follows .mixedOrders=true)(is:List Nat)(hs:E.sels H is=some HS)(h:AW P n w0 F ops.toArray K HS T ops.toArray.size (Array.replicate ops.toArray.size false) l H):
  CW P n w0 F (.region id ops.toArray true) K l H:=fun a w ha I=>
 wpIn_mono (JV hm (h a _ ha I.drew (by
  cases off T (Array.replicate ops.toArray.size false) with
  |false=>exact I.drew.sels hs
  |true=>exact I.drew.no))) fun e a w M=>by
  rcases M with⟨Z,M⟩|⟨c,Z,h1,h2,h3⟩
  ·subst Z;exact M
  ·subst Z;exact⟨[],[],h1,h2,h3⟩
def CW.dV{id:Nat}{ops:List Oper}(I:P.follows .mixedOrders=true)(is:List Nat)(hs:E.sels H is=some HS)(h:AW P n w0 F ops.toArray K HS [] ops.toArray.size (Array.replicate ops.toArray.size false) l H):
  CW P n w0 F (.region id ops.toArray true) K l H:=CW.gx I is hs h
variable{T:List Nat}
variable {K':Act->World->Prop}{d:Nat}{ps:List (List Nat)}{v:Value}
def MK{d:Option Nat}:∀c a w,AQ n w0 F K (.panic c) (a.put d v) w->AQ n w0 F K (.panic c) a w:=fun c a w I=>by
 rcases I with⟨M,_⟩|⟨c,M,I⟩
 ·cases M
 ·exact .inr ⟨c,M,I.put⟩
def ahead(ops:Array Oper)(T:List Nat)(ps:List (List Nat))(listed:Array Bool)(i:Nat):Bool:=match T with
 |[]=>true
 |T=> !T.contains i&&(!off T listed&&(GD .any ops listed&&trail .any ops i T ps))
def En{ops:Array Oper}{T:List Nat}{listed:Array Bool}{i:Nat}(h:ahead ops T ps listed i=true):i∉T/\(T=[]\/(off T listed=false/\om .any ops listed/\∀t∈T,∃p,path .any ops t p i=true)):=by
 cases T with
 |nil=>exact⟨bg,.inl rfl⟩
 |cons t T=>
  simp only[ahead,ay,dG] at h;exact⟨by simpa using h.1,.inr ⟨h.2.1,Lf h.2.2.1,IH h.2.2.2⟩⟩
def AW.take(i:Nat)(hi:ops[i]? =some o)(hs:Region.noSelect ops=true)(Z:Region.free .any ops listed i=true)(hr:(Region.ready .any ops listed).contains i=true)(ht:ahead ops T ps listed i=true)(h:∀a,Ag n l a->YieldsIf P ops (HA w0 F HS) o v a)(k:∀a w,Ag n l a->HA w0 F H w->HA w0 F (Vp HS (off T (listed.setIfInBounds i true))) w->kL P n .any ops (AQ n w0 F K) (fun b=>HA w0 F (Vp HS b)) T fuel (listed.setIfInBounds i true) (a.put o.dst v) w):AW P n w0 F ops K HS T (fuel+1) listed l H:=fun a w ha hw M=>by
 obtain⟨I,hc⟩:=En ht
 refine Ik hi hs Z hr MK (h a ha) M I ?_ (k a w ha hw (by rw[mW I];exact M))
 rcases hc with rfl|hc
 ·exact .inr ⟨rfl,fun _ h=>h,.inl rfl⟩
 ·exact .inr ⟨hc.1,fun _ h=>h,.inr hc.2⟩
def AW.Vz(i:Nat)(hi:ops[i]? =some o)(hs:Region.noSelect ops=true)(Z:Region.free .any ops listed i=true)(hr:(Region.ready .any ops listed).contains i=true)(ht:(!T.contains i)=true)(h:∀a,Ag n l a->YieldsIf P ops (HA w0 F []) o v a)(k:∀a w,Ag n l a->HA w0 F H w->HA w0 F (Vp HS (off T (listed.setIfInBounds i true))) w->kL P n .any ops (AQ n w0 F K) (fun b=>HA w0 F (Vp HS b)) T fuel (listed.setIfInBounds i true) (a.put o.dst v) w):AW P n w0 F ops K HS T (fuel+1) listed l H:=fun a w ha hw M=>by
 have I:i∉T:=by simpa using ht
 exact Ik hi hs Z hr MK (h a ha) M I (.inl fun _ _ h=>h.no) (k a w ha hw (by rw[mW I];exact M))
def AW.first(i:Nat)(hi:ops[i]? =some o)(hs:Region.noSelect ops=true)(M:Region.free .any ops listed i=true)(Z:(Region.ready .any ops listed).contains i=true)(hg:gd ops l o.guard=some true)(hd:o.dst=some d)(hn:Nat.blt d n.sz=true)(h:PV P n w0 F l HS o v)(k:AW P n w0 F ops K HS T fuel (listed.setIfInBounds i true) ((d,v)::l) H)(ht:ahead ops T [] listed i=true:=by kernel_rfl):AW P n w0 F ops K HS T (fuel+1) listed l H:=
 AW.take i hi hs M Z ht (fun a ha=>.inl ⟨ha.wanted hg,fun w I=>h a w ha I⟩) fun a w ha I=>by rw[hd];exact k _ w (ha.put hn v) I
def AW.ru(ps:List (List Nat))(i:Nat)(hi:ops[i]? =some o)(hs:Region.noSelect ops=true)(M:Region.free .any ops listed i=true)(Z:(Region.ready .any ops listed).contains i=true)(hg:gd ops l o.guard=some true)(hd:o.dst=some d)(hn:Nat.blt d n.sz=true)(h:PV P n w0 F l HS o v)(k:AW P n w0 F ops K HS T fuel (listed.setIfInBounds i true) ((d,v)::l) H)(ht:ahead ops T ps listed i=true:=by kernel_rfl):AW P n w0 F ops K HS T (fuel+1) listed l H:=
 AW.take i hi hs M Z ht (fun a ha=>.inl ⟨ha.wanted hg,fun w I=>h a w ha I⟩) fun a w ha I=>by rw[hd];exact k _ w (ha.put hn v) I
def AW.fT(i:Nat)(hi:ops[i]? =some o)(hs:Region.noSelect ops=true)(M:Region.free .any ops listed i=true)(Z:(Region.ready .any ops listed).contains i=true)(hg:gd ops l o.guard=some true)(hd:o.dst=some d)(hn:Nat.blt d n.sz=true)(h:PV P n w0 F l [] o v)(k:AW P n w0 F ops K HS T fuel (listed.setIfInBounds i true) ((d,v)::l) H)(ht:(!T.contains i)=true:=by kernel_rfl):AW P n w0 F ops K HS T (fuel+1) listed l H:=
 AW.Vz i hi hs M Z ht (fun a ha=>.inl ⟨ha.wanted hg,fun w I=>h a w ha I⟩) fun a w ha I=>by rw[hd];exact k _ w (ha.put hn v) I
def AW.xE(i:Nat)(hi:ops[i]? =some o)(hs:Region.noSelect ops=true)(I:Region.free .any ops listed i=true)(M:(Region.ready .any ops listed).contains i=true)(hg:gd ops l o.guard=some false)(hd:o.dst=some d)(Z:Nat.blt d n.sz=true)(k:AW P n w0 F ops K HS T fuel (listed.setIfInBounds i true) ((d,undef)::l) H)(ht:(!T.contains i)=true:=by kernel_rfl):AW P n w0 F ops K HS T (fuel+1) listed l H:=
 AW.Vz i hi hs I M ht (fun a ha=>.inr ⟨ha.wanted hg,rfl⟩) fun a w ha hw=>by rw[hd];exact k _ w (ha.put Z _) hw
def OO{a:Act}{K:Act->World->Prop}{Q Q':Exit->Act->World->Prop}(Z:∀a w,K a w->K' a w)(hp:∀e a w,e≠ .normal->Q e a w->Q' e a w)(I:o.wpIn n.fe 0 P a w K Q):o.wpIn n.fe 0 P a w K' Q':=by
 unfold Oper.wpIn at*;refine⟨I.1,?_⟩;have I:=I.2;generalize(o.semAt n.fe.round a.eval).run P w=r at*;cases r with
 |ok x w'=>
  cases x<;>simp only[Oper.uponIn] at I⊢<;>
   first
    |exact Z _ _ I
    |exact⟨I.1,CallsIn.mono I.2 (fun e w'' M=>by
      cases e
      ·exact Z _ _ M
      ·exact hp _ _ _ (by simp) M
      obtain⟨a,w,hq⟩:=M;exact⟨a,w,hp _ _ _ (by simp) hq⟩)⟩
    |exact⟨I.1,RowsIn.mono I.2 (fun _ _ M=>Z _ _ M)⟩
    |exact⟨I.1,RoundIn.mono I.2 (fun e w'' M=>by
      cases e
      ·exact Z _ _ M
      ·exact hp _ _ _ (by simp) M
      obtain⟨a,w,hq⟩:=M;exact⟨a,w,hp _ _ _ (by simp) hq⟩)⟩
 |halt x w'=>
  cases x<;>simp only[Oper.uponIn] at I⊢;exact hp _ _ _ (by simp) I
def HA.lL(I:HA w0 F H w){is:List Nat}(hs:E.sels H is=some HS){b:Bool}:HA w0 F (Vp HS b) w:=by
 cases b with
 |false=>exact I.sels hs
 |true=>exact I.no
def jq{i:Nat}{a:Act}(hi:ops[i]? =some o)(h:OW P n w0 F ops (AH HS K C) [o] l H)(ha:Ag n l a)(hw:HA w0 F H w)(hC:∀l H a w,((∃is,E.sels H is=some HS)/\C l H)->Ag n l a->HA w0 F H w->K' a w):wpOpIn n.fe 0 P ops (AQ n w0 F K) i K' a w:=by
 have I:=h a w ha hw
 have fin:∀a w,wpListIn n.fe 0 P ops (QK n w0 F (AH HS K C)) [] a w->K' a w:=fun a w ⟨l,H,I,Z,M⟩=>by
  rcases M with⟨_,M⟩|⟨c,he,_⟩
  ·exact hC l H a w M I Z
  cases he
 unfold wpOpIn;simp only[hi];unfold wpListIn at I;split
 ·rename_i hwd;rw[aa hwd] at I;refine OO fin (fun e a w he hq=>?_) I;obtain⟨l,H,I,Z,M⟩:=hq;rcases M with⟨M,_⟩|⟨c,M,hk⟩
  ·exact absurd M he
  exact .inr ⟨c,M,⟨I.size,I.small,I.defers,fun _ _ hv=>by cases hv⟩,{Z with chunks:=trivial},hk⟩
 grind
def AW.one(i:Nat)(Z:Region.ready .any ops listed=[i])(hi:ops[i]? =some o)(h:OW P n w0 F ops (AH HS K (AW P n w0 F ops K HS T fuel (listed.setIfInBounds i true))) [o] l H):AW P n w0 F ops K HS T (fuel+1) listed l H:=fun a w ha I _=>
 yh Z (by simp) fun j M=>by
  simp only[bw] at M
  subst M
  exact jq hi h ha I fun l H a w ⟨⟨_,hs⟩,hc⟩ ha I=>⟨I.lL hs,hc a w ha I (I.lL hs)⟩
def AW.jK(i:Nat)(hr:Region.ready .any ops listed=[i])(hi:ops[i]? =some o)(ht:off T (listed.setIfInBounds i true)=true)(h:OW P n w0 F ops (AH [] K (AW P n w0 F ops K HS T fuel (listed.setIfInBounds i true))) [o] l H):AW P n w0 F ops K HS T (fuel+1) listed l H:=fun a w ha I _=>
 yh hr (by simp) fun j M=>by
  simp only[bw] at M
  subst M
  exact jq hi h ha I fun l H a w ⟨_,hc⟩ ha I=>by
   have Z:HA w0 F (Vp HS (off T (listed.setIfInBounds j true))) w:=by rw[ht];exact I.no
   exact⟨Z,hc a w ha I Z⟩
def AW.two(i j:Nat){o2:Oper}(M:Region.ready .any ops listed=[i,j])(hi:ops[i]? =some o)(Z:ops[j]? =some o2)
  (h:OW P n w0 F ops (AH HS K (AW P n w0 F ops K HS T fuel (listed.setIfInBounds i true))) [o] l H) (h2:OW P n w0 F ops (AH HS K (AW P n w0 F ops K HS T fuel (listed.setIfInBounds j true))) [o2] l H):AW P n w0 F ops K HS T (fuel+1) listed l H:=fun a w ha I _=>
 yh M (by simp) fun k hk=>by
  simp only[er,bg,or_false] at hk
  rcases hk with rfl|rfl
  ·exact jq hi h ha I fun l H a w ⟨⟨_,hs⟩,hc⟩ ha I=>⟨I.lL hs,hc a w ha I (I.lL hs)⟩
  ·exact jq Z h2 ha I fun l H a w ⟨⟨_,hs⟩,hc⟩ ha I=>⟨I.lL hs,hc a w ha I (I.lL hs)⟩
def AW.three(i j q:Nat){o2 o3:Oper}(M:Region.ready .any ops listed=[i,j,q])(hi:ops[i]? =some o)(Z:ops[j]? =some o2)(hq:ops[q]? =some o3)
  (h:OW P n w0 F ops (AH HS K (AW P n w0 F ops K HS T fuel (listed.setIfInBounds i true))) [o] l H) (h2:OW P n w0 F ops (AH HS K (AW P n w0 F ops K HS T fuel (listed.setIfInBounds j true))) [o2] l H)
  (h3:OW P n w0 F ops (AH HS K (AW P n w0 F ops K HS T fuel (listed.setIfInBounds q true))) [o3] l H):AW P n w0 F ops K HS T (fuel+1) listed l H:=fun a w ha I _=>
 yh M (by simp) fun k hk=>by
  simp only[er,bg,or_false] at hk
  rcases hk with rfl|rfl|rfl
  ·exact jq hi h ha I fun l H a w ⟨⟨_,hs⟩,hc⟩ ha I=>⟨I.lL hs,hc a w ha I (I.lL hs)⟩
  ·exact jq Z h2 ha I fun l H a w ⟨⟨_,hs⟩,hc⟩ ha I=>⟨I.lL hs,hc a w ha I (I.lL hs)⟩
  ·exact jq hq h3 ha I fun l H a w ⟨⟨_,hs⟩,hc⟩ ha I=>⟨I.lL hs,hc a w ha I (I.lL hs)⟩
theorem AW.nil{C:Env->List HP->Prop}(is:List Nat)(hs:E.sels H is=some HS)(h:C l H):OW P n w0 F ops (AH HS K C) [] l H:=OW.nil (.inl ⟨rfl,⟨is,hs⟩,h⟩)
def AW.done(I:Region.ready .any ops listed=[])(h:K .normal l H):AW P n w0 F ops K HS T fuel listed l H:=fun _ _ ha M _=>Td I (.inl ⟨rfl,l,H,ha,M,h⟩) _
theorem AW.sels{H':List HP}(is:List Nat)(hs:E.sels H is=some H')(h:AW P n w0 F ops K HS T fuel listed l H'):AW P n w0 F ops K HS T fuel listed l H:=
 fun a w ha I=>h a w ha (I.sels hs)
theorem AW.put(s:Nat)(I:Value)(hs:lk l s=some v)(M:v=I)(k:AW P n w0 F ops K HS T fuel listed ((s,I)::l) H):AW P n w0 F ops K HS T fuel listed l H:=
 fun a w ha Z=>k a w (ha.same hs M) Z
theorem AW.split(s:Nat){b:Bool}(hs:lk l s=some (.bool b))
  (ht:b=true->AW P n w0 F ops K HS T fuel listed ((s,.bool true)::l) H) (I:b=false->AW P n w0 F ops K HS T fuel listed ((s,.bool false)::l) H):AW P n w0 F ops K HS T fuel listed l H:=by
 cases b with
 |true=>exact AW.put s _ hs rfl (ht rfl)
 |false=>exact AW.put s _ hs rfl (I rfl)
end
def ini:Nat->bi->Env
 |_,[]=>[]
 |i,v::r=>(i,v)::ini (i+1) r
def uB:∀(vs:bi) (i t:Nat) (v:Value),lk (ini i vs) t=some v->i<=t/\vs[t-i]? =some v:=by
 intro vs;induction vs with
 |nil=>intro i t v h;cases h
 |cons u r I=>
  intro i t v h;simp only[ini,lk] at h;cases hb:Nat.beq i t with
  |true=>
   simp_all
  |false=>
   grind
def KR(P:Program)(fn:Func)(n:Fr)(w0:World)(F:Nat->Prop)(R:Value->List HP->Prop):Kt
 |.ret,l,H|.normal,l,H=>∃v Hn is,(∀a w,Ag n l a->HA w0 F H w->(results fn a.tmps).run P w=.ok v w)/\sels H is=some Hn/\R v Hn
 |_,_,_=>False
def LD{P:Program}{f:Nat}{fn:Func}{n:Nat}{c:Code}{vs:bi}{w0:World}{F:Nat->Prop}{H:List HP}{R:Value->List HP->Prop}
  (hf:P.funcs[f]? =some fn) (hnt:fn.ntmps=n) (hb:fn.body=some c) (hs:Nat.ble vs.length n=true) (hw:HA w0 F H w0)
  (h:CW P ⟨n,none,false⟩ w0 F c (KR P fn ⟨n,none,false⟩ w0 F R) (ini 0 vs) H) (hsz:Nat.ble n 9999=true:=by rfl):Calls P f vs.toArray w0 (bK w0 F R):=by
 subst hnt;have hs':vs.length<=fn.ntmps:=dX hs;have M:fn.ntmps<=9999:=dX hsz;refine calls_of_wp hf hb (wpIn_wide.1 (wpIn_mono (h _ w0 ⟨by simp;omega,M,fun _=>rfl,fun t v ht=>?_⟩ hw) fun e a w ⟨l,H',ha,I,hk⟩=>?_))
 ·obtain⟨_,Z⟩:=uB vs 0 t v ht;simp only[mY] at Z
  have hlt:t<vs.length:=by
   grind
  have hne:Nat.beq t 9999=false:=by
   cases hb:Nat.beq t 9999 with
   |true=>have:=bj hb;omega
   |false=>rfl
  unfold At;rw[hne,cond_false,qG (by simpa using hlt)]
  simpa using Z
 have fin:∀l H',Ag ⟨fn.ntmps,none,false⟩ l a->HA w0 F H' w->(∃v Hn is,(∀a w,Ag ⟨fn.ntmps,none,false⟩ l a->HA w0 F H' w->(results fn a.tmps).run P w=.ok v w)/\sels H' is=some Hn/\R v Hn)->
   a.defers=[]/\∃v,(results fn a.tmps).run P w=.ok v w/\bK w0 F R (.returned v) w:=by
  intro l H' ha I ⟨v,Hn,is,h1,Z,h3⟩;exact⟨ha.defers rfl,v,h1 a w ha I,v,Hn,rfl,h3,{I with chunks:=ch Z I.chunks}⟩
 cases e with
 |normal=>exact fin l H' ha I hk
 |ret=>exact fin l H' ha I hk
 |exit i=>exact hk.elim
 |goto i=>exact hk.elim
 |panic c=>exact hk.elim
 |outgrown=>exact hk.elim
section
variable{P:Program}{fn:Func}{n:Fr}{w0:World}{F:Nat->Prop}{R:Value->List HP->Prop}{l:Env}{H Hn:List HP}
variable {t:Nat}{v:Value}
def KR.one(is:List Nat)(I:fn.results= #[.tmp t])(M:lr l t=some v)(hs:sels H is=some Hn)(Z:R v Hn):KR P fn n w0 F R .ret l H:=
 ⟨v,Hn,is,fun a w ha _=>by
  rw[results_tmp I]
  have:=ha.get t v M
  simp[Array.getD_eq_getD_getElem?,this],hs,Z⟩
def KR.two{t2:Nat}{v2:Value}(is:List Nat)(M:fn.results= #[.tmp t,.tmp t2])(Z:lr l t=some v)(I:lr l t2=some v2)(hs:sels H is=some Hn)(hR:R (.tuple #[v,v2]) Hn):KR P fn n w0 F R .ret l H:=
 ⟨_,Hn,is,fun a w ha _=>by
  rw[results_tmp2 M]
  have h1:=ha.get t v Z
  have h2:=ha.get t2 v2 I
  simp[Array.getD_eq_getD_getElem?,h1,h2],hs,hR⟩
def wm{t u v:Tmp}(h:fn.results= #[.tmp t,.tmp u,.tmp v])(tmps:Array Value)(P:Program)(w:World):
  (results fn tmps).run P w=.ok (.tuple #[tmps.getD t undef,tmps.getD u undef,tmps.getD v undef]) w:=by simp[results,h]
def KR.three{t2 t3:Nat}{v2 v3:Value}(is:List Nat)(Z:fn.results= #[.tmp t,.tmp t2,.tmp t3])(hv:lr l t=some v)(I:lr l t2=some v2)(M:lr l t3=some v3)(hs:sels H is=some Hn)(hR:R (.tuple #[v,v2,v3]) Hn):KR P fn n w0 F R .ret l H:=
 ⟨_,Hn,is,fun a w ha _=>by
  rw[wm Z]
  have h1:=ha.get t v hv
  have h2:=ha.get t2 v2 I
  have h3:=ha.get t3 v3 M
  simp[Array.getD_eq_getD_getElem?,h1,h2,h3],hs,hR⟩
def KR.zero(is:List Nat)(I:fn.results= #[])(hs:sels H is=some Hn)(M:R (.tuple #[]) Hn):KR P fn n w0 F R .normal l H/\KR P fn n w0 F R .ret l H:=
 have h:∃v Hn is,(∀a w,Ag n l a->HA w0 F H w->(results fn a.tmps).run P w=.ok v w)/\sels H is=some Hn/\R v Hn:=
  ⟨_,Hn,is,fun _ _ _ _=>results_none I _ _ _,hs,M⟩
 ⟨h,h⟩
theorem KR.run(is:List Nat)(I:∀a w,Ag n l a->HA w0 F H w->(results fn a.tmps).run P w=.ok v w)(hs:sels H is=some Hn)(M:R v Hn):KR P fn n w0 F R .ret l H:=⟨v,Hn,is,I,hs,M⟩
variable{K:Kt}{i j:Nat}{y:Code}{f:Env->List HP->Prop}
def iR(h:CW P n w0 F y K l H):lJ K (CW P n w0 F y K) .normal l H:=h
def Gd(h:f l H):lJ K f .normal l H:=h
def rL(h:K (.exit j) l H):lJ K f (.exit j) l H:=h
def mS(h:K .ret l H):lJ K f .ret l H:=h
variable {c:List PanicEntry}
def jr(h:K (.panic c) l H):lJ K f (.panic c) l H:=h
def Vt(h:K .normal l H):blockK i K .normal l H:=h
def yu(h:K .normal l H):blockK i K (.exit i) l H:=by simp only[blockK,Nat.beq_refl,cond_true];exact h
def LX(I:Nat.beq j i=false)(h:K (.exit j) l H):blockK i K (.exit j) l H:=by simp only[blockK,I,cond_false];exact h
def kK(h:K (.panic c) l H):blockK i K (.panic c) l H:=h
def pY(h:K .ret l H):blockK i K .ret l H:=h
def aI:zZ l []:=trivial
def spl:List HP->Nat->Option (List HP×List HP)
 |H,0=>some ([],H)
 |[],_+1=>none
 |p::r,m+1=>match spl r m with
  |some (a,b)=>some (p::a,b)
  |none=>none
theorem rJ:∀{m:Nat} {H a b:List HP},spl H m=some (a,b)->H=a++b:=by
 intro m;induction m with
 |zero=>intro H a b h;cases H<;>simp only[spl,Option.some.injEq,Prod.mk.injEq] at h<;>obtain⟨rfl,rfl⟩:=h<;>rfl
 |succ m I=>
  intro H a b h;cases H with
  |nil=>simp[spl] at h
  |cons p r=>
   unfold spl at h;grind
def CW.av{c:Code}(ks:List Nat)(mh:Nat){fS:Env}{Hm Hk:List HP}(hk:pick l ks=some fS)(hh:spl H mh=some (Hm,Hk))(I:Nat->Env->List HP->Prop)(m0:Nat)
  (h0:∃M,zZ l M/\I m0 M Hm)
  (round:∀m M Hm,I m M Hm->CW P n w0 F c (lJ K (fun l H=>∃m' Z is Hm',m'<m/\zZ l (Z++fS)/\E.sels H is=some (Hm'++Hk)/\I m' Z Hm')) (M++fS) (Hm++Hk)):
  CW P n w0 F (.loop c) K l H:=by
 have happ:∀(l a b:Env),zZ l a->zZ l b->zZ l (a++b):=by
  intro l a b ha hb;induction a with
  |nil=>exact hb
  |cons p r ih=>exact⟨ha.1,ih ha.2⟩
 have hH:=rJ hh;subst hH;refine CW.loop (fun m l H=>∃M Hm,l=M++fS/\H=Hm++Hk/\I m M Hm) m0 ?_ ?_
 ·obtain⟨M,hc,hI⟩:=h0;exact⟨M++fS,happ _ _ _ hc (uh hk),M,Hm,rfl,rfl,hI⟩
 rintro m _ _ ⟨M,Hm',rfl,rfl,hI⟩;refine CW.mono (round m M Hm' hI) fun e l H h=>?_;cases e with
 |normal=>
  obtain⟨m',Z,is,Hm2,h1,h2,h3,h4⟩:=h;exact⟨m',Z++fS,is,Hm2++Hk,h1,h2,h3,Z,Hm2,rfl,rfl,h4⟩
 |exit i=>exact h
 |goto i=>exact h
 |ret=>exact h
 |panic c=>exact h
 |outgrown=>exact h
def CW.cut{x:Code}(ks:List Nat)(mh:Nat){fS:Env}{Hm Hk:List HP}(_hk:pick l ks=some fS)(_hh:spl H mh=some (Hm,Hk))(I:Env->List HP->Prop)
  (hx:CW P n w0 F x (lJ K (fun l H=>∃M is Z,zZ l (M++fS)/\E.sels H is=some (Z++Hk)/\I M Z)) l H)
  (hy:∀M Z,I M Z->CW P n w0 F y K (M++fS) (Z++Hk)):CW P n w0 F (.seq x y) K l H:=by
 refine CW.seq (CW.mono hx fun e l H h=>?_);cases e with
 |normal=>
  obtain⟨M,is,Z,h1,h2,h3⟩:=h;exact CW.ti h1 (CW.sels is h2 (hy M Z h3))
 |exit i=>exact h
 |goto i=>exact h
 |ret=>exact h
 |panic c=>exact h
 |outgrown=>exact h
end
def bK.val{w0:World}{F:Nat->Prop}{X:Value}{Y:List HP}{P:Program}{f:Nat}{args:Array Value}(h:Calls P f args w0 (bK w0 F fun v Hn=>v=X/\Hn=Y)):Calls P f args w0 (bK w0 F fun v _=>v=X):=
 h.mono fun _ _ ⟨v,Hn,I,M,Z⟩=>⟨v,Hn,I,M.1,Z⟩
def HA.start(w:World):HA w (Old w) [] w:=⟨rfl,rfl,rfl,bb _,fun _ h=>h,fun _ _=>rfl,trivial⟩
end E
section
variable{P:Program}{n:E.Fr}{w0:World}{F:Nat->Prop}{K:E.Kt}{l:E.Env}{H:List E.HP}
namespace E
def fh{I:BinOp}{t:TypeId}{x y:Operand}{k:IntKind}{p:Int}{v:Value}:eqGuard I t x y (.int k p) v=Pure.pure ():=by cases I<;>rfl
def Ir{I:BinOp}{t:TypeId}{x y:Operand}{b:Bool}{v:Value}:eqGuard I t x y (.bool b) v=Pure.pure ():=by cases I<;>rfl
def b0{p:Prop}[Decidable p]:(decide p=true)=p:=ax
def b1{p:Prop}[Decidable p]:decide p=false↔¬p:=decide_eq_false_iff_not
def b2(b:Bool):((!b)=true)=(b=false):=dG b
def b3(b:Bool):((!b)=false)=(b=true):=lG b
def b4:(!true)=false:=rfl
def b5:(!false)=true:=rfl
def b6(a b:Bool):((a&&b)=true)=(a=true/\b=true):=ay a b
def b7(a b:Bool):((a||b)=true)=(a=true\/b=true):=dI a b
def b8{a b:Bool}:(a&&b)=false↔a=false\/b=false:=lp
def b9{a b:Bool}:(a||b)=false↔a=false/\b=false:=iQ
def GZ{a b:Int}:¬a<b↔b<=a:=Int.not_lt
def Gz{a b:Int}:¬a<=b↔b<a:=Int.not_le
def Hu{a b:Bool}:((!a)=b)↔(a= !b):=Bool.not_eq_eq_eq_not
def HY{α:Type}[BEq α][LawfulBEq α]{a b:α}:(a==b)=true↔a=b:=beq_iff_eq
def Gb{α:Type}[BEq α][LawfulBEq α]{a b:α}:(a==b)=false↔a≠b:=beq_eq_false_iff_ne
def Ic{α:Type}[BEq α][LawfulBEq α]{a b:α}:(a !=b)=true↔a≠b:=bne_iff_ne
def Iq{α:Type}(a b:α):(a≠b)=¬a=b:=ne_eq a b
def HE(b:Bool):(true&&b)=b:=j9 b
def HN(b:Bool):(b&&true)=b:=oT b
def HC(b:Bool):(false||b)=b:=nf b
def G4(b:Bool):(b||false)=b:=Bool.or_false b
def sv(l:ap):Value:=.string ⟨l.toArray⟩
section
variable{o:Oper}
variable {v:Value}
theorem PV.move{x:Operand}(ho:o.op=.move x)(I:ev l x=some v):PV P n w0 F l H o v:=fun a w ha _=>by
 simp only[execOp,ho,ha.ev I];rfl
theorem PV.assign{x:Operand}(ho:o.op=.assign x)(I:ev l x=some v):PV P n w0 F l H o v:=fun a w ha _=>by
 simp only[execOp,ho,ha.ev I];rfl
def PV.yi{c x y:Operand}(ho:o.op=.pick c x y)(hc:ev l c=some (.bool true))(I:ev l x=some v):PV P n w0 F l H o v:=fun a w ha _=>by
 simp only[execOp,ho,ha.ev I,ha.ev hc];rfl
def PV.yo{c x y:Operand}(ho:o.op=.pick c x y)(hc:ev l c=some (.bool false))(I:ev l y=some v):PV P n w0 F l H o v:=fun a w ha _=>by
 simp only[execOp,ho,ha.ev I,ha.ev hc];rfl
theorem PV.pick{c x y:Operand}{b:Bool}{u:Value}(ho:o.op=.pick c x y)(hc:ev l c=some (.bool b))(I:ev l x=some v)(M:ev l y=some u):
  PV P n w0 F l H o (if b then v else u):=fun a w ha _=>by
 simp only[execOp,ho,ha.ev I,ha.ev M,ha.ev hc];cases b<;>rfl
theorem PV.not{t:TypeId}{x:Operand}{b:Bool}(ho:o.op=.unOp .not t x)(I:ev l x=some (.bool b)):PV P n w0 F l H o (.bool (!b)):=fun a w ha _=>by
 simp only[execOp,ho,ha.ev I];rfl
theorem PV.neg{t:TypeId}{x:Operand}{m:Int}(ho:o.op=.unOp .neg t x)(I:ev l x=some (.int .i64 m))(M: -9223372036854775807<=m/\m<=9223372036854775807):
  PV P n w0 F l H o (.int .i64 (-m)):=fun a w ha _=>by
 have:IntKind.i64.wrap (-m)= -m:=by rw[IntKind.wrap_i64];omega
 simp[execOp,ho,ha.ev I,Op.unary,Op.intArith,this]
section
variable{t t':TypeId}{x y:Operand}{k:IntKind}{p q:Int}
def PV.bin{op:BinOp}{u v r:Value}(ho:o.op=.binOp op t x y t')(I:ev l x=some u)(M:ev l y=some v)(hg:eqGuard op t x y u v=Pure.pure ())(h:∀w,(binOp op t u v).run P w=.ok r w):
  PV P n w0 F l H o r:=fun a w ha _=>by
 simp[execOp,ho,ha.ev I,ha.ev M,hg,h w]
theorem PV.eql(ho:o.op=.binOp .eql t x y t')(I:ev l x=some (.int k p))(M:ev l y=some (.int k q)):PV P n w0 F l H o (.bool (decide (p=q))):=
 PV.bin ho I M fh fun w=>by rw[binOp_eql];rfl
theorem PV.neq(ho:o.op=.binOp .neq t x y t')(I:ev l x=some (.int k p))(M:ev l y=some (.int k q)):PV P n w0 F l H o (.bool (!decide (p=q))):=
 PV.bin ho I M fh fun w=>by rw[binOp_neq];rfl
theorem PV.lss(ho:o.op=.binOp .lss t x y t')(I:ev l x=some (.int k p))(M:ev l y=some (.int k q)):PV P n w0 F l H o (.bool (decide (p<q))):=
 PV.bin ho I M fh fun w=>by rw[binOp_lss];rfl
theorem PV.leq(ho:o.op=.binOp .leq t x y t')(I:ev l x=some (.int k p))(M:ev l y=some (.int k q)):PV P n w0 F l H o (.bool (decide (p<=q))):=
 PV.bin ho I M fh fun w=>by rw[binOp_leq];rfl
theorem PV.gtr(ho:o.op=.binOp .gtr t x y t')(I:ev l x=some (.int k p))(M:ev l y=some (.int k q)):PV P n w0 F l H o (.bool (decide (q<p))):=
 PV.bin ho I M fh fun w=>by rw[binOp_gtr];rfl
theorem PV.geq(ho:o.op=.binOp .geq t x y t')(I:ev l x=some (.int k p))(M:ev l y=some (.int k q)):PV P n w0 F l H o (.bool (decide (q<=p))):=
 PV.bin ho I M fh fun w=>by rw[binOp_geq];rfl
def PV.beq{b c:Bool}(I:P.underlying t=some .bool)(ho:o.op=.binOp .eql t x y t')(M:ev l x=some (.bool b))(Q:ev l y=some (.bool c)):PV P n w0 F l H o (.bool (b==c)):=
 PV.bin ho M Q Ir fun w=>by rw[run_eql_bool w t b c I]
def PV.bne{b c:Bool}(I:P.underlying t=some .bool)(ho:o.op=.binOp .neq t x y t')(M:ev l x=some (.bool b))(Q:ev l y=some (.bool c)):PV P n w0 F l H o (.bool (!(b==c))):=
 PV.bin ho M Q Ir fun w=>by rw[run_neq_bool w t b c I]
theorem PV.add(ho:o.op=.binOp .add t x y t')(I:ev l x=some (.int k p))(M:ev l y=some (.int k q)):PV P n w0 F l H o (.int k (k.wrap (p+q))):=
 PV.bin ho I M fh fun w=>by rw[binOp_add];rfl
theorem PV.sub(ho:o.op=.binOp .sub t x y t')(I:ev l x=some (.int k p))(M:ev l y=some (.int k q)):PV P n w0 F l H o (.int k (k.wrap (p-q))):=
 PV.bin ho I M fh fun w=>by rw[binOp_sub];rfl
theorem PV.mul(ho:o.op=.binOp .mul t x y t')(I:ev l x=some (.int k p))(M:ev l y=some (.int k q)):PV P n w0 F l H o (.int k (k.wrap (p*q))):=
 PV.bin ho I M fh fun w=>by rw[binOp_mul];rfl
def PV.GC(ho:o.op=.binOp .add t x y t')(I:ev l x=some (.int .i64 p))(M:ev l y=some (.int .i64 q))(Q: -9223372036854775808<=p+q/\p+q<=9223372036854775807):
  PV P n w0 F l H o (.int .i64 (p+q)):=by
 have h:=PV.add (P:=P) (n:=n) (w0:=w0) (F:=F) (H:=H) ho I M;rwa[show IntKind.i64.wrap (p+q)=p+q by rw[IntKind.wrap_i64];omega] at h
def PV.UX(ho:o.op=.binOp .sub t x y t')(I:ev l x=some (.int .i64 p))(M:ev l y=some (.int .i64 q))(Q: -9223372036854775808<=p-q/\p-q<=9223372036854775807):
  PV P n w0 F l H o (.int .i64 (p-q)):=by
 have h:=PV.sub (P:=P) (n:=n) (w0:=w0) (F:=F) (H:=H) ho I M;rwa[show IntKind.i64.wrap (p-q)=p-q by rw[IntKind.wrap_i64];omega] at h
def PV.H9(ho:o.op=.binOp .mul t x y t')(I:ev l x=some (.int .i64 p))(M:ev l y=some (.int .i64 q))(Q: -9223372036854775808<=p*q/\p*q<=9223372036854775807):
  PV P n w0 F l H o (.int .i64 (p*q)):=by
 have h:=PV.mul (P:=P) (n:=n) (w0:=w0) (F:=F) (H:=H) ho I M;rwa[show IntKind.i64.wrap (p*q)=p*q by rw[IntKind.wrap_i64];generalize p*q=r at*;omega] at h
def PV.UO(ho:o.op=.binOp .quo t x y t')(I:ev l x=some (.int .i64 p))(M:ev l y=some (.int .i64 q))(hp:0<=p/\p<=9223372036854775807)(Z:0<q):
  PV P n w0 F l H o (.int .i64 (p/q)):=
 PV.bin ho I M fh fun w=>by
  have Q:p.tdiv q=p/q:=Int.tdiv_eq_ediv_of_nonneg hp.1
  have h2:0<=p/q:=nj hp.1 K1
  have h3:p/q<=p:=yO _ hp.1
  have:IntKind.i64.wrap (p/q)=p/q:=by rw[IntKind.wrap_i64];omega
  rw[binOp_quo]
  simp[Op.intDiv,show q≠0 by omega,Q,this]
def PV.TX(ho:o.op=.binOp .rem t x y t')(I:ev l x=some (.int k p))(M:ev l y=some (.int k q))(hp:0<=p)(Z:0<q):
  PV P n w0 F l H o (.int k (p%q)):=
 PV.bin ho I M fh fun w=>by
  have Q:p.tmod q=p%q:=Int.tmod_eq_emod_of_nonneg hp
  rw[binOp_rem]
  simp[Op.intDiv,show q≠0 by omega,Q]
end
def PV.conv{src I:TypeId}{x:Operand}{k k':IntKind}{p:Int}(Q:P.underlying src=some (.int k))(M:P.underlying I=some (.int k'))(ho:o.op=.convert src I x)(Z:ev l x=some (.int k p)):
  PV P n w0 F l H o (.int k' (k'.wrap p)):=fun a w ha _=>by
 simp[execOp,ho,ha.ev Z,convert,run_underlying Q,run_underlying M,Conv.intToInt]
theorem PV.extract{x:Operand}{i:Nat}{vs:Array Value}{v:Value}(ho:o.op=.extract x i)(I:ev l x=some (.tuple vs))(M:vs[i]? =some v):PV P n w0 F l H o v:=fun a w ha _=>by
 simp[execOp,ho,ha.ev I,Instr.extract,M]
theorem PV.len{x:Operand}{t:TypeId}{A:am}{m c:Nat}(I:P.underlying t=some (.slice (P.elem t)))(ho:o.op=.call {callee:=.builtin .len,args:= #[x],argTypes:= #[t]})(M:ev l x=some (.slice A m c)):
  PV P n w0 F l H o (.int .i64 m):=fun a w ha _=>by
 simp[execOp,ho,resolve,invoke,builtin,ha.ev M,run_len_slice w t o.type A m c I,goInt]
theorem PV.run(h:∀a w,Ag n l a->(execOp a.eval o).run P w=.ok (.value v) w):PV P n w0 F l H o v:=fun a w ha _=>h a w ha
variable {B T j:Nat}{cs vs:bi}{e:TypeId}{ix:Operand}{ps:List (Nat×Operand)}{w:World}
theorem PV.build{t:TypeId}(ho:o.op=.build t ps.toArray)(I:evs l (ps.map (·.2))=some vs)(h:∀w,(Instr.build t ((ps.map (·.1)).zip vs).toArray).run P w=.ok v w):PV P n w0 F l H o v:=fun a w ha _=>by
 have M:=ha.evs I
 have Q:(ps.map fun p=>(p.1,a.eval p.2))=(ps.map (·.1)).zip vs:=by
  rw[<-M,lu];clear M I h ho;induction ps with
  |nil=>rfl
  |cons p r Z=>simp[Z]
 simp[execOp,ho,Q,h w]
def FA(P:Program)(s f off:Nat):Prop:=∀(b i:Nat) (w:World),(Instr.fieldAt s (.pointer (some ⟨b,i,none⟩)) f).run P w=.ok (.pointer (some ⟨b,i+off,none⟩)) w
def FG(P:Program)(s f off:Nat):Prop:=∀(a:Addr) (w:World),(Instr.fieldAt s (.pointer (some a)) f).run P w=.ok (.pointer (some (a.add off))) w
theorem PV.fieldAddr{s f off:Nat}{x:Operand}{b i:Nat}(I:FA P s f off)(ho:o.op=.fieldAddr s x f)(M:ev l x=some (.pointer (some ⟨b,i,none⟩))):
  PV P n w0 F l H o (.pointer (some ⟨b,i+off,none⟩)):=fun a w ha _=>by
 simp[execOp,ho,ha.ev M,I b i w]
def bB(A:am)(k:Nat):Value:=.pointer (A.map (·.add k))
def Rd(w:World)(G:Nat->Prop)(A:am)(xs:bi):Prop:=
 0<xs.length->∃ad,A=some ad/\G ad.block/\∀j u,xs[j]? =some u->w.cell? (ad.add j)=some u
theorem Addr.gq(a:Addr)(j:Nat):(a.add j).block=a.block:=by unfold Addr.add;split<;>rfl
def HA.rd(h:HA w0 F H w){A:am}{xs:bi}(I:Rd w0 F A xs):Rd w (Old w) A xs:=fun M=>by
 obtain⟨ad,rfl,hg,hc⟩:=I M
 refine⟨ad,rfl,br (h.z1 _ hg) h.size,fun j u Q=>?_⟩
 rw[World.cell?_of_block (w:=w0) (a:=ad.add j) (by rw[Addr.gq];exact h.kept _ hg)]
 exact hc j u Q
def HP.aw(B T:Nat)(cs:bi):HP where
 bA S w:=(∀k,S k↔k=B)/\w.heap[B]? =some (.cells cs.toArray T (0,0))
 loc:=fun _ _ _ h ⟨I,M⟩=>⟨I,by rw[h B ((I B).2 rfl)];exact M⟩
def Eb{w':World}{b e sz:Nat}{m:Nat}{xs:bi}(h:w.ownsRow b e sz v m xs)(hk:∀k,v.ownBlock=some k->w'.heap[k]? =w.heap[k]?):w'.ownsRow b e sz v m xs:=by
 obtain⟨M,I⟩:=h;refine⟨M,?_⟩;rcases I with I|⟨g,cap,cur,rfl,Q,hg,Z⟩
 ·exact .inl I
 exact .inr ⟨g,cap,cur,rfl,Q,by rw[hk g rfl];exact hg,Z⟩
def HP.row(E sz:Nat)(A:am)(m c:Nat)(xs:bi):HP where
 bA S w:=(∀k,S k↔(Value.slice A m c).ownBlock=some k)/\w.ownsRow 0 E sz (.slice A m c) m xs
 loc:=fun _ _ _ h ⟨I,M⟩=>⟨I,Eb M fun k hk=>h k ((I k).2 hk)⟩
theorem HA.sel(h:HA w0 F H w){i:Nat}{p:HP}{H':List HP}(hi:E.sel H i=some (p,H')):HA w0 F (p::H') w:=h.perm (an hi)
theorem HA.aw(h:HA w0 F H w){i:Nat}{H':List HP}(hi:E.sel H i=some (HP.aw B T cs,H')):w.heap[B]? =some (.cells cs.toArray T (0,0)):=by
 obtain⟨S,I,_⟩:=(h.sel hi).chunks;exact I.2
theorem HA.row(h:HA w0 F H w){i Et sz m c:Nat}{A:am}{xs:bi}{H':List HP}(hi:E.sel H i=some (HP.row Et sz A m c xs,H')):w.ownsRow 0 Et sz (.slice A m c) m xs:=by
 obtain⟨S,I,_⟩:=(h.sel hi).chunks;exact I.2
def uQ{Et sz m c:Nat}{A:am}{xs:bi}(h:w.ownsRow 0 Et sz (.slice A m c) m xs):Rd w (Old w) A xs:=by
 intro hx;rcases h.2 with⟨Q,Z⟩|⟨g,cap,cur,Q,_,hg,_,_,hsz,ht⟩
 ·have M:=h.1;subst Z;simp only[Nat.zero_mul] at M;omega
 injection Q with M h2 h3
 subst M;refine⟨_,rfl,(ij.1 hg).1,fun j u hu=>?_⟩;have I:(⟨g,0,none⟩:Addr).add j=⟨g,j,none⟩:=by unfold Addr.add;split<;>simp_all
 rw[I,cell_of_row w g j cur Et (0,0) hg];grind
def HA.bh(h:HA w0 F H w){i Et sz m c:Nat}{A:am}{xs:bi}{H':List HP}(hi:E.sel H i=some (HP.row Et sz A m c xs,H')):Rd w (Old w) A xs:=uQ (h.row hi)
def tn{i:Int}(h:0<=i):i=((i.toNat:Nat):Int):=(af h).symm
def oh{A:am}{xs:bi}(h:Rd w0 F A xs):∀w,HA w0 F H w->Rd w (Old w) A xs:=fun _ I=>I.rd h
def iH{i Et sz m c:Nat}{A:am}{xs:bi}{H':List HP}(hi:E.sel H i=some (HP.row Et sz A m c xs,H')):∀w,HA w0 F H w->Rd w (Old w) A xs:=fun _ I=>I.bh hi
def Na(P:Program)(t:TypeId):Prop:=∀w,(isAgg t).run P w=.ok false w
def Is(P:Program)(t:TypeId)(sz:Nat):Prop:=(∀w,(isAgg t).run P w=.ok true w)/\∀w,(sizeOf t).run P w=.ok sz w
def Cc(P:Program)(t:Nat):Prop:=∀v w,(Instr.makeInterface t v).run P w=.ok (.iface t v) w
def PV.Tz{t:TypeId}{x:Operand}(ht:Cc P t)(ho:o.op=.makeInterface t x)(I:ev l x=some v):PV P n w0 F l H o (.iface t v):=fun a w ha _=>by
 simp[execOp,ho,ha.ev I,Sem.run_bind,ht v w]
def Ta(P:Program)(u t:Nat)(z:Value):Prop:=(∀v w,(Instr.typeAssert (.iface t v) u t true).run P w=.ok (.tuple #[v,.bool true]) w)/\∀w,(Instr.typeAssert .nilIface u t true).run P w=.ok (.tuple #[z,.bool false]) w
def PV.pI{u t:TypeId}{x:Operand}{z:Value}(ht:Ta P u t z)(ho:o.op=.typeAssert x u t true)(I:ev l x=some (.iface t v)):PV P n w0 F l H o (.tuple #[v,.bool true]):=fun a w ha _=>by
 simp[execOp,ho,ha.ev I,Sem.run_bind,ht.1 v w]
def PV.uv{u t:TypeId}{x:Operand}{z:Value}(ht:Ta P u t z)(ho:o.op=.typeAssert x u t true)(I:ev l x=some .nilIface):PV P n w0 F l H o (.tuple #[z,.bool false]):=fun a w ha _=>by
 simp[execOp,ho,ha.ev I,Sem.run_bind,ht.2 w]
theorem PV.load{t:TypeId}{x:Operand}{i:Nat}{H':List HP}(ht:Na P t)(ho:o.op=.load t x)(I:ev l x=some (.pointer (some ⟨B,j,none⟩)))(hi:sel H i=some (HP.aw B T cs,H'))(M:cs[j]? =some v):PV P n w0 F l H o v:=fun a w ha Q=>by
 have Z:=Q.aw hi
 have hc:w.cell? ⟨B,j,none⟩=some v:=by rw[cell_of_row w B j _ T (0,0) Z];simpa using M
 simp[execOp,ho,ha.ev I,Instr.loadAt,Instr.sureAddr,loadVar,ht w,hc]
def slc:bi->Nat->Nat->Option (bi)
 |_,0,0=>some []
 |[],_,_=>none
 |v::r,0,m+1=>match slc r 0 m with
  |some s=>some (v::s)
  |none=>none
 |_::r,j+1,m=>slc r j m
def oR:∀{cs:bi} {j m:Nat} {vs:bi},slc cs j m=some vs->vs.length=m/\∀i v,vs[i]? =some v->cs[j+i]? =some v:=by
 intro cs;induction cs with
 |nil=>
  intro j m vs h;cases j<;>cases m<;>simp[slc] at h;subst h;simp
 |cons u r I=>
  intro j m vs h;cases j with
  |zero=>
   cases m with
   |zero=>simp only[slc,Option.some.injEq] at h;subst h;simp
   |succ m=>
    unfold slc at h;grind
  |succ j=>
   simp only[slc] at h;grind
def jA{t:TypeId}{ad:Addr}(ht:Is P t vs.length)(hc:∀i v,vs[i]? =some v->w.cell? (ad.add i)=some v):
  (loadVar t ad).run P w=.ok (.agg vs.toArray) w:=by
 have hl:(loadCells ad vs.length).run P w=.ok vs.toArray w:=run_loadCells_list (P:=P) w _ vs hc;simp[loadVar,ht.1 w,ht.2 w,hl]
def PV.jD{t:TypeId}{x:Operand}{i sz:Nat}{H':List HP}(ht:Is P t sz)(ho:o.op=.load t x)(Q:ev l x=some (.pointer (some ⟨B,j,none⟩)))(hi:sel H i=some (HP.aw B T cs,H'))(M:slc cs j sz=some vs):PV P n w0 F l H o (.agg vs.toArray):=fun a w ha Z=>by
 have hb:=Z.aw hi
 obtain⟨h1,h2⟩:=oR M
 subst h1
 have hr:=jA (w:=w) (ad:=⟨B,j,none⟩) ht fun i v M=>by
  have I:(⟨B,j,none⟩:Addr).add i=⟨B,j+i,none⟩:=by unfold Addr.add;split<;>simp_all
  rw[I,cell_of_row w B (j+i) _ T (0,0) hb]
  simpa using h2 i v M
 simp[execOp,ho,ha.ev Q,Instr.loadAt,Instr.sureAddr,hr]
def PV.dR{t:TypeId}{x:Operand}{A:am}{k:Nat}{xs:bi}(Q:∀w,HA w0 F H w->Rd w (Old w) A xs)(ht:Na P t)(ho:o.op=.load t x)(Z:ev l x=some (bB A k))(I:xs[k]? =some v):PV P n w0 F l H o v:=fun a w ha hw=>by
 have hlt:k<xs.length:=by
  rcases dd k xs.length with h|h
  ·exact h
  rw[fH h] at I;cases I
 obtain⟨ad,rfl,_,hc⟩:=Q w hw K1;have M:ev l x=some (.pointer (some (ad.add k))):=Z;simp[execOp,ho,ha.ev M,Instr.loadAt,Instr.sureAddr,loadVar,ht w,hc k v I]
theorem Addr.ku(a:Addr)(i j:Nat):(a.add i).add j=a.add (i+j):=by
 grind [Addr.add]
def PV.iL{t:TypeId}{x:Operand}{A:am}{k:Nat}{xs:bi}(Z:∀w,HA w0 F H w->Rd w (Old w) A xs)(ht:Is P t vs.length)(hp:0<vs.length)(ho:o.op=.load t x)(hx:ev l x=some (bB A k))(M:∀i v,vs[i]? =some v->xs[k+i]? =some v):PV P n w0 F l H o (.agg vs.toArray):=fun a w ha hw=>by
 have Q:=M 0 (vs[0]) (by simp[hp])
 have hlt:k<xs.length:=by
  rcases dd k xs.length with h|h
  ·exact h
  rw[fH K1] at Q;cases Q
 obtain⟨ad,rfl,_,hc⟩:=Z w hw K1;have I:ev l x=some (.pointer (some (ad.add k))):=hx;have hr:=jA (w:=w) (ad:=ad.add k) ht fun i v h=>by rw[Addr.ku];exact hc _ v (M i v h)
 simp[execOp,ho,ha.ev I,Instr.loadAt,Instr.sureAddr,hr]
def ah.zU:ah (w.alloc (.cells cs.toArray T)) (fun k=>k<w.heap.size) [HP.aw w.heap.size T cs]:=
 ⟨fun k=>k=w.heap.size,⟨fun _=>Iff.rfl,heap_alloc_new w _⟩,fun k hk=>by subst hk;simp,trivial⟩
theorem HA.new(h:HA w0 F H w)(ob:Obj){Hn:List HP}(I:ah (w.alloc ob) (fun k=>k<w.heap.size) Hn):HA w0 F (Hn++H) (w.alloc ob):=
 h.make rfl rfl rfl (by simp) (fun k hk=>Below.heap_alloc w ob k hk) I
theorem OW.box{ops:Array Oper}{rest:List Oper}{d:Nat}{t:TypeId}{x:Operand}{v:Value}{cs:bi}(ho:o.op=.box t x)(hg:gd ops l o.guard=some true)(hd:o.dst=some d)(I:Nat.blt d n.sz=true)
  (M:ev l x=some v) (hc:v.cells=cs.toArray) (k:∀B,OW P n w0 F ops K rest ((d,.pointer (some ⟨B,0,none⟩))::l) (HP.aw B t cs::H)):OW P n w0 F ops K (o::rest) l H:=
 OW.step hg hd I (fun v H'=>∃B,v=.pointer (some ⟨B,0,none⟩)/\H'=HP.aw B t cs::H)
  (fun a w ha Q=>⟨_,w.alloc (.cells cs.toArray t),_,by simp[execOp,ho,ha.ev M,Instr.box,newVar,newRow,newObj,Sem.run,hc],⟨w.heap.size,rfl,rfl⟩,Q.new _ ah.zU⟩)
  (fun v H' ⟨B,Z,hH⟩=>by subst Z hH;exact k B)
def Zr(P:Program)(t:TypeId)(z:Value):Prop:=∀w,(zeroValue t).run P w=.ok z w
theorem OW.alloc{ops:Array Oper}{rest:List Oper}{d:Nat}{t:TypeId}{z:Value}{cs:bi}(I:Zr P t z)(ho:o.op=.alloc t)(hg:gd ops l o.guard=some true)(hd:o.dst=some d)(M:Nat.blt d n.sz=true)
  (hc:z.cells=cs.toArray) (k:∀B,OW P n w0 F ops K rest ((d,.pointer (some ⟨B,0,none⟩))::l) (HP.aw B t cs::H)):OW P n w0 F ops K (o::rest) l H:=
 OW.step hg hd M (fun v H'=>∃B,v=.pointer (some ⟨B,0,none⟩)/\H'=HP.aw B t cs::H)
  (fun a w ha Q=>⟨_,w.alloc (.cells cs.toArray t),_,by simp[execOp,ho,Instr.alloc,I w,newVar,newRow,newObj,Sem.run,hc],⟨w.heap.size,rfl,rfl⟩,Q.new _ ah.zU⟩)
  (fun v H' ⟨B,Z,hH⟩=>by subst Z hH;exact k B)
def wr:bi->Nat->bi->Option (bi)
 |r,0,[]=>some r
 |[],_,_=>none
 |_::r,0,v::vs=>match wr r 0 vs with
  |some s=>some (v::s)
  |none=>none
 |u::r,j+1,vs=>match wr r j vs with
  |some s=>some (u::s)
  |none=>none
def pH:∀{cs:bi} {j:Nat} {vs I:bi},wr cs j vs=some I->j+vs.length<=cs.length/\I=cs.take j++vs++cs.drop (j+vs.length):=by
 intro cs;induction cs with
 |nil=>
  intro j vs I h;cases j<;>cases vs<;>simp[wr] at h;subst h;simp
 |cons u r M=>
  intro j vs I h;cases j with
  |zero=>
   cases vs with
   |nil=>simp only[wr,Option.some.injEq] at h;subst h;simp
   |cons v vs=>
    unfold wr at h;grind
  |succ j=>
   have key:∀s,wr r j vs=some s->I=u::s->j+1+vs.length<=(u::r).length/\I=(u::r).take (j+1)++vs++(u::r).drop (j+1+vs.length):=by
    grind
   cases vs with
   |nil=>
    unfold wr at h;split at h
    ·rename_i s hs;simp only[Option.some.injEq] at h;exact key s hs h.symm
    cases h
   |cons v vs=>
    unfold wr at h;split at h
    ·rename_i s hs;simp only[Option.some.injEq] at h;exact key s hs h.symm
    cases h
theorem HA.setRow{w:World}{B T:Nat}{cs I:bi}(h:HA w0 F (HP.aw B T cs::H) w):HA w0 F (HP.aw B T I::H) (w.setRow B I.toArray):=by
 refine h.write (Hn:=[HP.aw B T I]) fun S M Z=>⟨rfl,rfl,rfl,by simp[World.setRow],fun k Q hk=>?_,S,⟨M.1,setRow_heap w B cs.toArray _ T _ M.2⟩,fun k hk=>?_,trivial⟩
 ·have:k≠B:=fun e=>hk ((M.1 k).2 e);simp only[World.setRow,Array.getElem?_modify];rw[ae (fun e=>this e.symm)]
 simp_all
theorem OW.store{ops:Array Oper}{rest:List Oper}{t:TypeId}{x y:Operand}{i:Nat}{I:bi}{H':List HP}(Q:∀w,(sizeOf t).run P w=.ok vs.length w)(ho:o.op=.store t x y)(hg:gd ops l o.guard=some true)(hd:o.dst=none)(hx:ev l x=some (.pointer (some ⟨B,j,none⟩)))(hy:ev l y=some v)(hc:v.cells=vs.toArray)(h1:vs.all (·.oneCell')=true)(hi:sel H i=some (HP.aw B T cs,H'))(Z:wr cs j vs=some I)(k:OW P n w0 F ops K rest l (HP.aw B T I::H')):OW P n w0 F ops K (o::rest) l H:=
 OW.act hg hd (fun a w ha hw=>by
  have hb:=hw.aw hi
  obtain⟨h2,h3⟩:=pH Z
  have M:=run_storeCells_at P B j T vs 0 cs.toArray w hb (by simpa using h2) (fun v hv=>by simpa using(aJ.1 h1) v hv)
  refine⟨w.setRow B I.toArray,?_,(hw.sel hi).setRow⟩
  subst h3
  simp[execOp,ho,ha.ev hx,ha.ev hy,Instr.storeAt,Instr.sureAddr,storeVar,hc,Q w]
  simp at M
  rw[M]
  rfl) k
def HA.bM(h:HA w0 F H w)(Et sz:Nat):HA w0 F (HP.row Et sz .none 0 0 []::H) w:=
 {h with chunks:=⟨fun _=>False,⟨fun k=>by simp[Value.ownBlock],World.ownsRow_nil w 0 Et sz⟩,fun _ hk=>hk.elim,h.chunks.congr fun k=>by simp⟩}
theorem OW.bM{ops:Array Oper}{rest:List Oper}(Et sz:Nat)(k:OW P n w0 F ops K rest l (HP.row Et sz none 0 0 []::H)):OW P n w0 F ops K rest l H:=fun a w ha I=>k a w ha (I.bM Et sz)
theorem CW.bM{c:Code}(Et sz:Nat)(k:CW P n w0 F c K l (HP.row Et sz none 0 0 []::H)):CW P n w0 F c K l H:=fun a w ha I=>k a w ha (I.bM Et sz)
theorem OW.drop{ops:Array Oper}{rest:List Oper}(i:Nat){p:HP}{H':List HP}(hi:sel H i=some (p,H'))(k:OW P n w0 F ops K rest l H'):OW P n w0 F ops K rest l H:=fun a w ha I=>k a w ha (I.sel hi).drop
def In(P:Program)(t:TypeId)(z:Value)(sz bytes:Nat):Prop:=(P.info? t).map (fun i=>(i.zero,i.size,i.bytes))=some (some z,sz,bytes)
def In.parts{t:TypeId}{z:Value}{sz bytes:Nat}(h:In P t z sz bytes):∃i,P.info? t=some i/\i.zero=some z/\i.size=sz/\i.bytes=bytes:=by
 unfold In at h;cases hi:P.info? t with
 |none=>rw[hi] at h;simp at h
 |some i=>grind
def In.zr{t:TypeId}{z:Value}{sz bytes:Nat}(h:In P t z sz bytes):Zr P t z:=fun w=>by
 obtain⟨i,I,M,_,_⟩:=h.parts
 simp[zeroValue,typeInfo,I,M]
def In.size{t:TypeId}{z:Value}{sz bytes:Nat}(h:In P t z sz bytes):∀w,(sizeOf t).run P w=.ok sz w:=fun w=>by
 obtain⟨i,I,_,M,_⟩:=h.parts
 simp[sizeOf,typeInfo,I,M]
def HA.ox{w':World}{Et sz:Nat}{A A':am}{m c m' c':Nat}{xs xs':bi}(h:HA w0 F (HP.row Et sz A m c xs::H) w)(hg:w.grownBy w' (Value.slice A m c).ownBlock)(I:w'.ownsRow 0 Et sz (.slice A' m' c') m' xs')(M:(Value.slice A' m' c').ownBlock=(Value.slice A m c).ownBlock\/(Value.slice A' m' c').ownBlock=some w.heap.size):HA w0 F (HP.row Et sz A' m' c' xs'::H) w':=by
 refine h.write (Hn:=[HP.row Et sz A' m' c' xs']) fun S Z hF=>⟨hg.os,hg.tape,hg.output,hg.size,fun k Q hk=>hg.block k Q fun e=>hk ((Z.1 k).2 e.symm),?_⟩;refine⟨fun k=>(Value.slice A' m' c').ownBlock=some k,⟨fun _=>Iff.rfl,I⟩,fun k hk=>⟨(I.lt k hk).2,fun hn=>?_⟩,trivial⟩;rcases M with M|M
 ·exact hn.2 ((Z.1 k).2 (by rw[<-M];exact hk))
 rw[M] at hk;injection hk with hk
 omega
theorem OW.append{ops:Array Oper}{rest:List Oper}{d:Nat}{s x:Operand}{t Et i sz bytes m c m2 c2:Nat}{z:Value}{zs:bi}{A A2:am}{xs ys:bi}{H':List HP}
  (hT:P.underlying t=some (.slice Et)) (hI:In P Et z sz bytes) (hz:z.cells=zs.toArray) (hzl:zs.length=sz) (hsz:0<sz)
  (ho:o.op=.call {callee:=.builtin .append,args:= #[s,x],argTypes:= #[t,t]}) (hg:gd ops l o.guard=some true) (hd:o.dst=some d) (hn:Nat.blt d n.sz=true)
  (hs:ev l s=some (.slice A m c)) (hx:ev l x=some (.slice A2 m2 c2)) (hi:sel H i=some (HP.row Et sz A m c xs,H'))
  (hR:∀w,HA w0 F H w->Rd w (Old w) A2 ys) (hl:ys.length=m2*sz) (h1:∀u∈ys,u.oneCell'=true)
  (h63:m+m2<=maxLen) (hb:(m+m2)*bytes<=140737488355328)
  (k:∀A' c',OW P n w0 F ops K rest ((d,.slice A' (m+m2) c')::l) (HP.row Et sz A' (m+m2) c' (xs++ys)::H')):OW P n w0 F ops K (o::rest) l H:=by
 refine OW.step hg hd hn (fun v H1=>∃A' c',v=.slice A' (m+m2) c'/\H1=HP.row Et sz A' (m+m2) c' (xs++ys)::H') (fun a w ha hw=>?_) (fun v H1 ⟨A',c',hv,hH⟩=>by subst hv hH;exact k A' c')
 obtain⟨inf,I,hz0,hz1,hz2⟩:=hI.parts;have hzs:z.cells.size=sz:=by rw[hz];simpa using hzl
 have Z:=hw.row hi
 have hform:∀{v w'} {m':Nat} {xs':bi},World.ownsRow w' 0 Et sz v m' xs'->∃A' c',v=.slice A' m' c':=by
  intro v w' m' xs' h;rcases h.2 with⟨rfl,hm⟩|⟨g,cap,cur,rfl,_⟩
  ·exact⟨none,0,by rw[hm]⟩
  exact⟨_,_,rfl⟩
 by_cases hm:m2=0
 ·subst hm;have hy:ys=[]:=j4 (by simpa using hl)
  subst hy
  have M:(Builtin.append_ #[t,t] o.type #[.slice A m c,.slice A2 0 c2]).run P w=.ok (.slice A m c) w:=by
   have hmc:m<=c:=by
    rcases Z.2 with⟨hv,hm⟩|⟨g,cap,cur,hv,_,_,hnc,_⟩
    ·subst hm;omega
    injection hv with _ _ hc;omega
   have hf:(Builtin.firstCells sz 0 (.slice A2 0 c2)).run P w=.ok #[] w:=by
    cases A2 with
    |none=>simp[Builtin.firstCells]
    |some ad=>simp[Builtin.firstCells,loadCells,loadCellsFrom]
   cases A with
   |none=>simp[Builtin.append_,run_underlying hT,sizeOf,typeInfo,I,hz1,Builtin.lenOf,hf,hmc]
   |some ad=>simp[Builtin.append_,run_underlying hT,sizeOf,typeInfo,I,hz1,Builtin.lenOf,hf,hmc,storeCells]
  refine⟨_,w,_,by simp[execOp,ho,resolve,invoke,builtin,ha.ev hs,ha.ev hx,M],⟨A,c,rfl,rfl⟩,?_⟩
  simpa using hw.sel hi
 obtain⟨ad,hA2,_,hc2⟩:=hR w hw (by rw[hl];exact jG K1 hsz)
 subst hA2;obtain⟨v',w',M,Q,hg',_,hblk⟩:=run_append_own_at (P:=P) w 0 t o.type Et inf z sz bytes hT I hz0 hz1 hz2 hzs hsz (.slice A m c) m xs Z ad m2 c2 ys hl hc2 h1 h63 hb (bF _);obtain⟨A',c',rfl⟩:=hform Q;refine⟨_,w',_,by simp[execOp,ho,resolve,invoke,builtin,ha.ev hs,ha.ev hx,M],⟨A',c',rfl,rfl⟩,?_⟩
 exact(hw.sel hi).ox hg' Q hblk
def ah.tq{Et sz m:Nat}(hl:cs.length=m*sz)(I:m<=maxLen):
  ah (w.alloc (.cells cs.toArray Et)) (fun k=>k<w.heap.size) [HP.row Et sz (some ⟨w.heap.size,0,none⟩) m m cs]:=
 ⟨fun k=>k=w.heap.size,⟨fun k=>by simp[Value.ownBlock,eq_comm],hl,.inr ⟨w.heap.size,m,cs.toArray,rfl,bF _,heap_alloc_new w _,bb _,I,by simpa using hl,by simp[<-hl]⟩⟩,
  fun k hk=>by subst hk;simp,trivial⟩
variable {len:Nat}
theorem OW.buildSlice{ops:Array Oper}{rest:List Oper}{d:Nat}{t Et sz:Nat}(ho:o.op=.buildSlice t len ps.toArray)(hg:gd ops l o.guard=some true)(hd:o.dst=some d)(Q:Nat.blt d n.sz=true)(M:evs l (ps.map (·.2))=some vs)(hl:cs.length=len*sz)(Z:len<=maxLen)(h:∀w,(Instr.buildSlice t len ((ps.map (·.1)).zip vs).toArray).run P w=.ok (.slice (some ⟨w.heap.size,0,none⟩) len len) (w.alloc (.cells cs.toArray Et)))(k:∀A,OW P n w0 F ops K rest ((d,.slice A len len)::l) (HP.row Et sz A len len cs::H)):OW P n w0 F ops K (o::rest) l H:=
 OW.step hg hd Q (fun v H'=>∃A,v=.slice A len len/\H'=HP.row Et sz A len len cs::H)
  (fun a w ha hw=>by
   have I:=ha.evs M
   have hz:(ps.map fun p=>(p.1,a.eval p.2))=(ps.map (·.1)).zip vs:=by
    rw[<-I,lu];clear I M h ho k;induction ps with
    |nil=>rfl
    |cons p r ih=>simp[ih]
   exact⟨_,w.alloc (.cells cs.toArray Et),_,by simp[execOp,ho,hz,h w],⟨_,rfl,rfl⟩,hw.new _ (ah.tq hl Z)⟩)
  (fun v H' ⟨A,I,hH⟩=>by subst I hH;exact k A)
def OW.make{ops:Array Oper}{rest:List Oper}{d:Nat}{t Et bytes:Nat}{x y:Operand}{z:Value}{kx ky:IntKind}{Z:Int}(m:Nat)(hT:P.underlying t=some (.slice Et))(hI:In P Et z 1 bytes)(hz:z.cells= #[z])
  (ho:o.op=.makeSlice t x y) (hg:gd ops l o.guard=some true) (hd:o.dst=some d) (hn:Nat.blt d n.sz=true) (hx:ev l x=some (.int kx Z)) (hy:ev l y=some (.int ky Z)) (hm:Z=(m:Int))
  (I:m<=maxLen) (hb:bytes*m<=281474976710656)
  (k:∀A,OW P n w0 F ops K rest ((d,.slice A m m)::l) (HP.row Et 1 A m m (List.replicate m z)::H)):OW P n w0 F ops K (o::rest) l H:=
 OW.step hg hd hn (fun v H'=>∃A,v=.slice A m m/\H'=HP.row Et 1 A m m (List.replicate m z)::H)
  (fun a w ha hw=>by
   obtain⟨inf,Q,hz0,hz1,hz2⟩:=hI.parts
   subst hm hz2
   have hb':(inf.bytes:Int)*(m:Int)<=281474976710656:=by
    have h:((inf.bytes*m:Nat):Int)<=281474976710656:=K1;rwa[tu] at h
   have M:(m:Int)<=9223372036854775807:=by unfold maxLen at I;omega
   have hr:=run_make (P:=P) w t Et inf z hT Q hz0 kx ky m m K1 K1 hb' M
   have wj:(madeCells z.cells (m*inf.size))=(List.replicate m z).toArray:=by
    rw[hz,hz1];apply Array.ext
    ·simp[madeCells]
    intro i h1 h2;simp[madeCells,Nat.mod_one]
   simp only[j3,wj] at hr
   exact⟨_,_,_,by simp[execOp,ho,ha.ev hx,ha.ev hy,hr],⟨_,rfl,rfl⟩,hw.new _ (ah.tq (by simp) I)⟩)
  (fun v H' ⟨A,hv,hH⟩=>by subst hv hH;exact k A)
def OW.kG{ops:Array Oper}{rest:List Oper}{t:TypeId}{x y:Operand}{Et i m c:Nat}{A:am}{xs:bi}{H':List HP}(hsz:∀w,(sizeOf t).run P w=.ok 1 w)(ho:o.op=.store t x y)(hg:gd ops l o.guard=some true)(hd:o.dst=none)(hx:ev l x=some (bB A j))(hy:ev l y=some v)(hc:v.cells= #[v])(h1:v.oneCell'=true)(hi:sel H i=some (HP.row Et 1 A m c xs,H'))(hj:j<m)(k:OW P n w0 F ops K rest l (HP.row Et 1 A m c (xs.set j v)::H')):OW P n w0 F ops K (o::rest) l H:=
 OW.act hg hd (fun a w ha hw=>by
  have I:=hw.row hi
  rcases I.2 with⟨hv,hm⟩|⟨g,cap,cur,hv,_,Q,hnc,Z,wj,htk⟩
  ·omega
  ·injection hv with hA _ hcc
   subst hA hcc
   have hx':ev l x=some (.pointer (some ⟨g,j,none⟩)):=by
    rw[hx];unfold bB;simp only[Option.map_some,Option.some.injEq,Value.pointer.injEq];unfold Addr.add;split<;>simp_all
   have hst:=run_storeCells_at P g j Et [v] 0 cur w Q (by simp;omega) (fun u hu=>by simp at hu;subst hu;exact h1)
   refine⟨w.setRow g (cur.toList.take j++[v]++cur.toList.drop (j+1)).toArray,?_,?_⟩
   ·simp[execOp,ho,ha.ev hx',ha.ev hy,Instr.storeAt,Instr.sureAddr,storeVar,hc,hsz w];simp at hst;rw[hst];rfl
   have M:cur.toList.take j++[v]++cur.toList.drop (j+1)=cur.toList.set j v:=by
    rw[List.set_eq_take_append_cons_drop];rw[aa (by simp;omega)]
    simp
   refine(hw.sel hi).ox (A:=some ⟨g,0,none⟩) (A':=some ⟨g,0,none⟩) (m:=m) (m':=m) (c:=c) (c':=c) (xs:=xs) ?_ ?_ (.inl rfl)
   ·refine⟨rfl,rfl,rfl,by simp[World.setRow],fun k hk hne=>?_⟩
    simp only[World.setRow,Array.getElem?_modify];rw[ae (fun e=>hne (by simp[Value.ownBlock,e]))]
   refine⟨by simpa using I.1,.inr ⟨g,c,_,rfl,bF _,setRow_heap w g cur _ Et _ Q,hnc,Z,?_,?_⟩⟩
   ·rw[M];simpa using wj
   simp only[mF] at htk⊢
   rw[M,<-htk,List.take_set]) k
def aA(l:ap):bi:=l.map fun b=>.int .u8 (b.toNat:Int)
def ints(l:bv):bi:=l.map (Value.int .i64)
@[simp] theorem Dl (l:bv):(ints l).length=l.length:=by simp[ints]
@[simp] theorem dC (l:ap):(aA l).length=l.length:=by simp[aA]
def Ck{l:bv}:∀u∈ints l,u.oneCell'=true:=by
 intro u I;simp only[ints,cm] at I;obtain⟨_,_,rfl⟩:=I;rfl
def He{l:ap}:∀u∈aA l,u.oneCell'=true:=by
 intro u I;simp only[aA,cm] at I;obtain⟨_,_,rfl⟩:=I;rfl
theorem wrap_u8(c:UInt8):IntKind.i64.wrap (c.toNat:Int)=(c.toNat:Int):=by
 have:=c.toNat_lt;rw[IntKind.wrap_i64];omega
def PV.TJ{src I:TypeId}{x:Operand}{k k':IntKind}{p:Int}(Q:P.underlying src=some (.int k))(M:P.underlying I=some (.int k'))(ho:o.op=.convert src I x)(Z:ev l x=some (.int k p))(hr:k'.wrap p=p):
  PV P n w0 F l H o (.int k' p):=by
 have h:=PV.conv (P:=P) (n:=n) (w0:=w0) (F:=F) (H:=H) Q M ho Z;rwa[hr] at h
def PV.yY{t:TypeId}{x:Operand}{A:am}{k:Nat}{bs:ap}(I:∀w,HA w0 F H w->Rd w (Old w) A (aA bs))(ht:Na P t)(ho:o.op=.load t x)(M:ev l x=some (bB A k))(hk:k<bs.length):
  PV P n w0 F l H o (.int .u8 ((bs.getD k 0).toNat:Int)):=PV.dR I ht ho M (by simp[aA,hk,List.getD])
def PV.qf{t:TypeId}{x:Operand}{A:am}{k:Nat}{is:bv}(I:∀w,HA w0 F H w->Rd w (Old w) A (ints is))(ht:Na P t)(ho:o.op=.load t x)(M:ev l x=some (bB A k))(hk:k<is.length):
  PV P n w0 F l H o (.int .i64 (is.getD k 0)):=PV.dR I ht ho M (by simp[ints,hk,List.getD])
theorem PV.indexAddr{t:TypeId}{x:Operand}{A:am}{m c:Nat}{k:IntKind}{i:Int}{sz bytes:Nat}{z:Value}{xs:bi}(hR:∀w,HA w0 F H w->Rd w (Old w) A xs)(hT:P.underlying t=some (.slice e))(hI:In P e z sz bytes)(ho:o.op=.indexAddr t x ix)(hx:ev l x=some (.slice A m c))(M:ev l ix=some (.int k i))(hj:i=(j:Int))(I:xs.length=m*sz)(Q:j<m)(Z:0<sz):PV P n w0 F l H o (bB A (j*sz)):=fun a w ha hw=>by
 obtain⟨ad,rfl,_,_⟩:=hR w hw (by rw[I];exact jG K1 Z)
 obtain⟨q,hq,_,hs,_⟩:=hI.parts
 subst hj
 simp[execOp,ho,ha.ev hx,ha.ev M,Instr.indexAt,asIntOf,run_underlying hT,sizeOf,typeInfo,hq,hs,Q,bB,show(0:Int)<=(j:Int) by omega]
def PV.aY{t:TypeId}{x:Operand}{A:am}{m c:Nat}{k:IntKind}{i:Int}{bytes:Nat}{z:Value}{xs:bi}(Z:∀w,HA w0 F H w->Rd w (Old w) A xs)(hT:P.underlying t=some (.slice e))(hI:In P e z 1 bytes)(ho:o.op=.indexAddr t x ix)(hx:ev l x=some (.slice A m c))(M:ev l ix=some (.int k i))(hj:i=(j:Int))(I:xs.length=m)(Q:j<m):PV P n w0 F l H o (bB A j):=by
 have h:=PV.indexAddr (P:=P) (n:=n) Z hT hI ho hx M hj (by rw[I,mF]) Q K1
 rwa[mF] at h
def PV.LN{t:TypeId}{x:Operand}{p:Nat}{k:IntKind}{i:Int}{sz bytes:Nat}{z:Value}(Z:P.underlying t=some (.array len e))(hI:In P e z sz bytes)(ho:o.op=.indexAddr t x ix)(hx:ev l x=some (.pointer (some ⟨B,p,none⟩)))(M:ev l ix=some (.int k i))(hj:i=(j:Int))(Q:j<len):PV P n w0 F l H o (.pointer (some ⟨B,p+j*sz,none⟩)):=fun a w ha hw=>by
 obtain⟨q,hq,_,hs,_⟩:=hI.parts
 subst hj
 have I:(⟨B,p,none⟩:Addr).add (j*sz)=⟨B,p+j*sz,none⟩:=by unfold Addr.add;split<;>simp_all
 simp[execOp,ho,ha.ev hx,ha.ev M,Instr.indexAt,asIntOf,run_underlying Z,sizeOf,typeInfo,hq,hs,Q,Instr.sureAddr,I,show(0:Int)<=(j:Int) by omega]
def PV.adP{x:Operand}{t:TypeId}{bs:ap}(Q:P.underlying t=some .string)(ho:o.op=.call {callee:=.builtin .len,args:= #[x],argTypes:= #[t]})(Z:ev l x=some (sv bs)):
  PV P n w0 F l H o (.int .i64 bs.length):=fun a w ha _=>by
 have I:=ha.ev Z
 unfold sv at I
 have M:(⟨bs.toArray⟩:ByteArray).size=bs.length:=by show bs.toArray.size=_;simp
 simp[execOp,ho,resolve,invoke,builtin,I,Builtin.len_,run_underlying Q,goInt,M]
theorem PV.max{x y:Operand}{t t':TypeId}{k:IntKind}{p q:Int}(ho:o.op=.call {callee:=.builtin .max,args:= #[x,y],argTypes:= #[t,t']})(I:ev l x=some (.int k p))(M:ev l y=some (.int k q)):
  PV P n w0 F l H o (.int k (if p<q then q else p)):=fun a w ha _=>by
 simp[execOp,ho,resolve,invoke,builtin,ha.ev I,ha.ev M,run_max_int2]
def Rd.nil{G:Nat->Prop}{A:am}:Rd w G A []:=fun h=>absurd h (by simp)
section
variable{ops:Array Oper}{rest:List Oper}{d:Nat}{s x:Operand}{t Et i sz bytes m c m2 c2:Nat}{z:Value}{zs:bi}{A A2:am}{xs ys:bi}{H':List HP}
def OW.TL(Q:P.underlying t=some (.slice Et))(Z:In P Et z sz bytes)(hz:z.cells=zs.toArray)(I:zs.length=sz)(M:0<sz)
  (ho:o.op=.call {callee:=.builtin .append,args:= #[s,x],argTypes:= #[t,t]}) (hg:gd ops l o.guard=some true) (hd:o.dst=some d) (hn:Nat.blt d n.sz=true)
  (hs:ev l s=some (.slice A 0 c)) (hx:ev l x=some (.slice A2 m2 c2)) (hi:sel H i=some (HP.row Et sz A 0 c [],H'))
  (hR:∀w,HA w0 F H w->Rd w (Old w) A2 ys) (hl:ys.length=m2*sz) (h1:∀u∈ys,u.oneCell'=true)
  (h63:m2<=maxLen) (hb:m2*bytes<=140737488355328)
  (k:∀A' c',OW P n w0 F ops K rest ((d,.slice A' m2 c')::l) (HP.row Et sz A' m2 c' ys::H')):OW P n w0 F ops K (o::rest) l H:=
 OW.append Q Z hz I M ho hg hd hn hs hx hi hR hl h1 K1 (by simpa using hb) (fun A' c'=>by simpa using k A' c')
variable{is is2:bv}{bs bs2:ap}
def OW.Py(M:P.underlying t=some (.slice Et))(Q:In P Et z 1 8)(Z:z.cells=zs.toArray)(I:zs.length=1)
  (ho:o.op=.call {callee:=.builtin .append,args:= #[s,x],argTypes:= #[t,t]}) (hg:gd ops l o.guard=some true) (hd:o.dst=some d) (hn:Nat.blt d n.sz=true)
  (hs:ev l s=some (.slice A is.length c)) (hx:ev l x=some (.slice A2 is2.length c2)) (hi:sel H i=some (HP.row Et 1 A is.length c (ints is),H'))
  (hR:∀w,HA w0 F H w->Rd w (Old w) A2 (ints is2)) (hb:(is.length+is2.length)*8<=140737488355328)
  (k:∀A' c',OW P n w0 F ops K rest ((d,.slice A' (is++is2).length c')::l) (HP.row Et 1 A' (is++is2).length c' (ints (is++is2))::H')):OW P n w0 F ops K (o::rest) l H:=
 OW.append M Q Z I K1 ho hg hd hn hs hx hi hR (by simp) Ck (by unfold maxLen;omega) hb (fun A' c'=>by simpa[ints] using k A' c')
def OW.ga{j cc:Nat}{v:Int}{Z I:List HP}(hT:P.underlying t=some (.slice Et))(hI:In P Et z 1 8)(hz:z.cells=zs.toArray)(M:zs.length=1)
  (ho:o.op=.call {callee:=.builtin .append,args:= #[s,x],argTypes:= #[t,t]}) (hg:gd ops l o.guard=some true) (hd:o.dst=some d) (hn:Nat.blt d n.sz=true)
  (hs:ev l s=some (.slice A is.length c)) (hx:ev l x=some (.slice A2 1 cc)) (hj:sel H j=some (HP.row Et 1 A2 1 cc [.int .i64 v],Z)) (hi:sel Z i=some (HP.row Et 1 A is.length c (ints is),I))
  (hb:(is.length+1)*8<=140737488355328)
  (k:∀A' c',OW P n w0 F ops K rest ((d,.slice A' (is++[v]).length c')::l) (HP.row Et 1 A' (is++[v]).length c' (ints (is++[v]))::I)):OW P n w0 F ops K (o::rest) l H:=by
 have hp:=(an hj).trans ((an hi).cons _|>.trans (List.Perm.swap _ _ _))
 refine fun a w ha Q=>OW.append (H:=HP.row Et 1 A is.length c (ints is)::HP.row Et 1 A2 1 cc [.int .i64 v]::I) (i:=0) (H':=HP.row Et 1 A2 1 cc [.int .i64 v]::I) (ys:=[.int .i64 v]) hT hI hz M K1 ho hg hd hn hs hx rfl
  (fun w Q=>Q.bh (i:=1) rfl) rfl (by simp[Value.oneCell']) (by unfold maxLen;omega) hb (fun A' c'=>?_) a w ha (Q.perm hp)
 refine OW.drop 1 rfl ?_;simpa[ints] using k A' c'
def OW.iP(M:P.underlying t=some (.slice Et))(Q:In P Et z 1 1)(Z:z.cells=zs.toArray)(I:zs.length=1)
  (ho:o.op=.call {callee:=.builtin .append,args:= #[s,x],argTypes:= #[t,t]}) (hg:gd ops l o.guard=some true) (hd:o.dst=some d) (hn:Nat.blt d n.sz=true)
  (hs:ev l s=some (.slice A bs.length c)) (hx:ev l x=some (.slice A2 bs2.length c2)) (hi:sel H i=some (HP.row Et 1 A bs.length c (aA bs),H'))
  (hR:∀w,HA w0 F H w->Rd w (Old w) A2 (aA bs2)) (hb:bs.length+bs2.length<=140737488355328)
  (k:∀A' c',OW P n w0 F ops K rest ((d,.slice A' (bs++bs2).length c')::l) (HP.row Et 1 A' (bs++bs2).length c' (aA (bs++bs2))::H')):OW P n w0 F ops K (o::rest) l H:=
 OW.append M Q Z I K1 ho hg hd hn hs hx hi hR (by simp) He (by unfold maxLen;omega) K1 (fun A' c'=>by simpa[aA] using k A' c')
def OW.np{j cc:Nat}{p:Int}(v:UInt8){H2 I:List HP}(hp:p=(v.toNat:Int))(hT:P.underlying t=some (.slice Et))(hI:In P Et z 1 1)(hz:z.cells=zs.toArray)(M:zs.length=1)
  (ho:o.op=.call {callee:=.builtin .append,args:= #[s,x],argTypes:= #[t,t]}) (hg:gd ops l o.guard=some true) (hd:o.dst=some d) (hn:Nat.blt d n.sz=true)
  (hs:ev l s=some (.slice A bs.length c)) (hx:ev l x=some (.slice A2 1 cc)) (hj:sel H j=some (HP.row Et 1 A2 1 cc [.int .u8 p],H2)) (hi:sel H2 i=some (HP.row Et 1 A bs.length c (aA bs),I))
  (hb:bs.length+1<=140737488355328)
  (k:∀A' c',OW P n w0 F ops K rest ((d,.slice A' (bs++[v]).length c')::l) (HP.row Et 1 A' (bs++[v]).length c' (aA (bs++[v]))::I)):OW P n w0 F ops K (o::rest) l H:=by
 subst hp;have Q:=(an hj).trans ((an hi).cons _|>.trans (List.Perm.swap _ _ _))
 refine fun a w ha Z=>OW.append (H:=HP.row Et 1 A bs.length c (aA bs)::HP.row Et 1 A2 1 cc [.int .u8 v.toNat]::I) (i:=0) (H':=HP.row Et 1 A2 1 cc [.int .u8 v.toNat]::I) (ys:=[.int .u8 v.toNat]) hT hI hz M K1 ho hg hd hn hs hx rfl
  (fun w Z=>Z.bh (i:=1) rfl) rfl (by simp[Value.oneCell']) (by unfold maxLen;omega) K1 (fun A' c'=>?_) a w ha (Z.perm Q)
 refine OW.drop 1 rfl ?_;simpa[aA] using k A' c'
end
def PV.V7{t t':TypeId}{x y:Operand}{p q:UInt8}(ho:o.op=.binOp .xor t x y t')(M:ev l x=some (.int .u8 (p.toNat:Int)))(Q:ev l y=some (.int .u8 (q.toNat:Int))):PV P n w0 F l H o (.int .u8 ((p^^^q).toNat:Int)):=
 PV.bin ho M Q fh fun w=>by
  have hp:=p.toNat_lt
  have I:=q.toNat_lt
  rw[binOp_xor]
  simp[Op.intBits,UInt8.toNat_xor]
  rw[show IntKind.u8.bits=8 from rfl,fQ hp,fQ I,IntKind.wrap_u8]
  have:=Nat.xor_lt_two_pow hp I
  omega
def OW.Cy{ops:Array Oper}{rest:List Oper}{t:TypeId}{x y:Operand}{Et i m c:Nat}{A:am}{b:UInt8}{bs:ap}{H':List HP}(I:∀w,(sizeOf t).run P w=.ok 1 w)(ho:o.op=.store t x y)(hg:gd ops l o.guard=some true)(hd:o.dst=none)(M:ev l x=some (bB A j))(Q:ev l y=some (.int .u8 (b.toNat:Int)))(hi:sel H i=some (HP.row Et 1 A m c (aA bs),H'))(Z:j<m)(k:OW P n w0 F ops K rest l (HP.row Et 1 A m c (aA (bs.set j b))::H')):OW P n w0 F ops K (o::rest) l H:=
 OW.kG I ho hg hd M Q rfl rfl hi Z (by simpa[aA,mc] using k)
def OW.KU{ops:Array Oper}{rest:List Oper}{t:TypeId}{x y:Operand}{Et i m c:Nat}{A:am}{b:Int}{bs:bv}{H':List HP}(I:∀w,(sizeOf t).run P w=.ok 1 w)(ho:o.op=.store t x y)(hg:gd ops l o.guard=some true)(hd:o.dst=none)(M:ev l x=some (bB A j))(Q:ev l y=some (.int .i64 b))(hi:sel H i=some (HP.row Et 1 A m c (ints bs),H'))(Z:j<m)(k:OW P n w0 F ops K rest l (HP.row Et 1 A m c (ints (bs.set j b))::H')):OW P n w0 F ops K (o::rest) l H:=
 OW.kG I ho hg hd M Q rfl rfl hi Z (by simpa[ints,mc] using k)
def OW.Pn{ops:Array Oper}{rest:List Oper}{d:Nat}{t Et bytes:Nat}{x y:Operand}{Q Z:IntKind}{M:Int}(m:Nat)(hT:P.underlying t=some (.slice Et))(hI:In P Et (.int .u8 0) 1 bytes)
  (ho:o.op=.makeSlice t x y) (hg:gd ops l o.guard=some true) (hd:o.dst=some d) (hn:Nat.blt d n.sz=true) (hx:ev l x=some (.int Q M)) (hy:ev l y=some (.int Z M)) (hm:M=(m:Int))
  (I:m<=maxLen) (hb:bytes*m<=281474976710656)
  (k:∀A,OW P n w0 F ops K rest ((d,.slice A m m)::l) (HP.row Et 1 A m m (aA (List.replicate m 0))::H)):OW P n w0 F ops K (o::rest) l H:=
 OW.make m hT hI rfl ho hg hd hn hx hy hm I hb (fun A=>by simpa[aA] using k A)
def HP.GL(B:Nat)(bs:ap)(pos:Nat):HP where
 bA S w:=(∀k,S k↔k=B)/\w.heap[B]? =some (.stringIter ⟨bs.toArray⟩ pos)
 loc:=fun _ _ _ h ⟨I,M⟩=>⟨I,by rw[h B ((I B).2 rfl)];exact M⟩
theorem OW.range{ops:Array Oper}{rest:List Oper}{d:Nat}{t:TypeId}{x:Operand}{bs:ap}(M:P.underlying t=some .string)(ho:o.op=.range t x)(hg:gd ops l o.guard=some true)(hd:o.dst=some d)(Q:Nat.blt d n.sz=true)
  (Z:ev l x=some (sv bs)) (k:∀B,OW P n w0 F ops K rest ((d,.pointer (some ⟨B,0,none⟩))::l) (HP.GL B bs 0::H)):OW P n w0 F ops K (o::rest) l H:=
 OW.step hg hd Q (fun v H'=>∃B,v=.pointer (some ⟨B,0,none⟩)/\H'=HP.GL B bs 0::H)
  (fun a w ha hw=>by
   have I:=ha.ev Z
   unfold sv at I
   exact⟨_,w.iter ⟨bs.toArray⟩ 0,_,by simp[execOp,ho,I,run_range_string (P:=P) w t ⟨bs.toArray⟩ M],⟨w.heap.size,rfl,rfl⟩,
    hw.new (.stringIter ⟨bs.toArray⟩ 0) (Hn:=[HP.GL w.heap.size bs 0]) ⟨fun k=>k=w.heap.size,⟨fun _=>Iff.rfl,heap_alloc_new w _⟩,fun k hk=>by subst hk;simp,trivial⟩⟩)
  (fun v H' ⟨B,hv,hH⟩=>by subst hv hH;exact k B)
def HA.NX{pos I:Nat}{bs:ap}(h:HA w0 F (HP.GL B bs pos::H) w):HA w0 F (HP.GL B bs I::H) (w.iterAt B ⟨bs.toArray⟩ I):=by
 refine h.write (Hn:=[HP.GL B bs I]) fun S M Q=>⟨rfl,rfl,rfl,by rw[Lib.iterAt_size];exact bb _,fun k Z hk=>?_,S,⟨M.1,Lib.iterAt_heap w B _ pos I M.2⟩,fun k hk=>?_,trivial⟩
 ·exact Lib.iterAt_other w B k _ _ (fun e=>hk ((M.1 k).2 e))
 exact⟨by rw[Lib.iterAt_size];exact(Q k hk).1,fun hn=>hn.2 hk⟩
theorem OW.next{ops:Array Oper}{rest:List Oper}{d i:Nat}{x:Operand}{pos:Nat}{bs:ap}{H':List HP}(ho:o.op=.next x true)(hg:gd ops l o.guard=some true)(hd:o.dst=some d)(hn:Nat.blt d n.sz=true)(hx:ev l x=some (.pointer (some ⟨B,0,none⟩)))(hi:sel H i=some (HP.GL B bs pos,H'))(k1:pos<bs.length->(bs.getD pos 0).toNat<128->OW P n w0 F ops K rest ((d,.tuple #[.bool true,.int .i64 (pos:Int),.int .i32 ((bs.getD pos 0).toNat:Int)])::l) (HP.GL B bs (pos+1)::H'))(k2:∀(c:Int) (I:Nat),pos<bs.length->128<=(bs.getD pos 0).toNat->128<=c/\c<=2147483647->OW P n w0 F ops K rest ((d,.tuple #[.bool true,.int .i64 (pos:Int),.int .i32 c])::l) (HP.GL B bs I::H'))(k3:bs.length<=pos->OW P n w0 F ops K rest ((d,.tuple #[.bool false])::l) (HP.GL B bs pos::H')):OW P n w0 F ops K (o::rest) l H:=by
 have hsz:(⟨bs.toArray⟩:ByteArray).size=bs.length:=by show bs.toArray.size=_;simp
 have hat:∀(h:pos<(⟨bs.toArray⟩:ByteArray).size),(⟨bs.toArray⟩:ByteArray)[pos]'h=bs.getD pos 0:=by
  intro h;rw[hsz] at h;show bs.toArray[pos]'_=_;simp[List.getD,h]
 by_cases h:pos<bs.length
 ·have hs:pos<(⟨bs.toArray⟩:ByteArray).size:=by rw[hsz];exact h
  by_cases ha:(bs.getD pos 0).toNat<128
  ·refine OW.step hg hd hn (fun v Q=>v=.tuple #[.bool true,.int .i64 (pos:Int),.int .i32 ((bs.getD pos 0).toNat:Int)]/\Q=HP.GL B bs (pos+1)::H') (fun a w M Z=>?_) (fun v Q ⟨hv,hH⟩=>by subst hv hH;exact k1 h ha)
   have hb:w.heap[B]? =some (.stringIter ⟨bs.toArray⟩ pos):=by obtain⟨S,h1,_⟩:=(Z.sel hi).chunks;exact h1.2
   have hr:=Lib.run_next_ascii_at (P:=P) w B ⟨bs.toArray⟩ pos o.type hb hs (by rw[hat hs];exact ha)
   rw[hat hs] at hr;exact⟨_,_,_,by simp[execOp,ho,M.ev hx,hr],⟨rfl,rfl⟩,(Z.sel hi).NX⟩
  refine OW.step hg hd hn (fun v Q=>∃(c:Int) (I:Nat),(128<=c/\c<=2147483647)/\v=.tuple #[.bool true,.int .i64 (pos:Int),.int .i32 c]/\Q=HP.GL B bs I::H') (fun a w M Z=>?_) (fun v Q ⟨c,I,hc,hv,hH⟩=>by subst hv hH;exact k2 c I h K1 hc)
  have hb:w.heap[B]? =some (.stringIter ⟨bs.toArray⟩ pos):=by obtain⟨S,h1,_⟩:=(Z.sel hi).chunks;exact h1.2
  have hr:=Lib.run_next_any_at (P:=P) w B ⟨bs.toArray⟩ pos o.type hb hs;have h2:=decode_high ⟨bs.toArray⟩ pos hs (by rw[hat hs];omega)
  have h3:=decode_le ⟨bs.toArray⟩ pos
  exact⟨.tuple #[.bool true,.int .i64 (pos:Int),.int .i32 ((Utf8.decode ⟨bs.toArray⟩ pos).1:Int)],w.iterAt B ⟨bs.toArray⟩ (pos+(Utf8.decode ⟨bs.toArray⟩ pos).2),HP.GL B bs (pos+(Utf8.decode ⟨bs.toArray⟩ pos).2)::H',
   by simp[execOp,ho,M.ev hx,hr],⟨((Utf8.decode ⟨bs.toArray⟩ pos).1:Int),pos+(Utf8.decode ⟨bs.toArray⟩ pos).2,⟨K1,K1⟩,rfl,rfl⟩,(Z.sel hi).NX⟩
 refine OW.step hg hd hn (fun v Q=>v=.tuple #[.bool false]/\Q=HP.GL B bs pos::H') (fun a w M Z=>?_) (fun v Q ⟨hv,hH⟩=>by subst hv hH;exact k3 K1)
 have hb:w.heap[B]? =some (.stringIter ⟨bs.toArray⟩ pos):=by obtain⟨S,h1,_⟩:=(Z.sel hi).chunks;exact h1.2
 have hr:=Lib.run_next_end_at (P:=P) w B ⟨bs.toArray⟩ pos o.type hb (by rw[hsz];exact h)
 exact⟨_,_,_,by simp[execOp,ho,M.ev hx,hr],⟨rfl,rfl⟩,Z.sel hi⟩
def G5:∀(cs:bi),slc cs 0 cs.length=some cs:=by
 intro cs;induction cs with
 |nil=>rfl
 |cons v r I=>simp[slc,I]
def E5:∀(cs vs:bi),cs.length=vs.length->wr cs 0 vs=some vs:=by
 intro cs;induction cs with
 |nil=>intro vs h;cases vs with
  |nil=>rfl
  |cons=>simp at h
 |cons v r I=>intro vs h;cases vs with
  |nil=>simp at h
  |cons u t=>simp[wr,I t (by simpa using h)]
theorem Px:∀(cs:bi) (j:Nat) (v:Value),j<cs.length->wr cs j [v]=some (cs.set j v):=by
 intro cs;induction cs with
 |nil=>intro j v h;simp at h
 |cons u r I=>
  intro j v h;cases j with
  |zero=>
   have:wr r 0 []=some r:=by cases r<;>rfl
   simp[wr,this]
  |succ j=>simp[wr,I j v (by simpa using h)]
def PV.wT{t:TypeId}{x:Operand}{k:IntKind}{i:Int}{bytes:Nat}{z:Value}(Q:P.underlying t=some (.array len e))(Z:In P e z 1 bytes)(ho:o.op=.indexAddr t x ix)(hx:ev l x=some (.pointer (some ⟨B,0,none⟩)))(I:ev l ix=some (.int k i))(hj:i=(j:Int))(M:j<len):PV P n w0 F l H o (.pointer (some ⟨B,j,none⟩)):=by
 have h:=PV.LN (P:=P) (n:=n) (w0:=w0) (F:=F) (H:=H) Q Z ho hx I hj M;rwa[mF,jt] at h
def rv(P:Program)(l:Env)(H:List HP):ResultVar->Value->Prop
 |.tmp t,v=>lr l t=some v
 |.cell t T,v=>(∃B i I cs vs H' sz,lr l t=some (.pointer (some ⟨B,0,none⟩))/\sel H i=some (HP.aw B I cs,H')/\Is P T sz/\slc cs 0 sz=some vs/\v=.agg vs.toArray)\/
   ∃B i I cs H',lr l t=some (.pointer (some ⟨B,0,none⟩))/\sel H i=some (HP.aw B I cs,H')/\Na P T/\cs[0]? =some v
def rrun(tmps:Array Value):ResultVar->Sem Value
 |.tmp t=>Pure.pure (tmps.getD t undef)
 |.cell p t=>do loadVar t (<-asAddr (tmps.getD p undef))
theorem rv.run{r:ResultVar}{v:Value}(h:rv P l H r v){a:Act}{w:World}(ha:Ag n l a)(hw:HA w0 F H w):(rrun a.tmps r).run P w=.ok v w:=by
 cases r with
 |tmp t=>
  have I:=ha.get t v h;simp[rrun,Array.getD_eq_getD_getElem?,I]
 |cell t T=>
  rcases h with h|⟨B,i,Q,cs,H',Z,I,h3,h4⟩
  rotate_left
  ·have h6:=ha.get t _ Z;have hb:=hw.aw I;have hc:w.cell? ⟨B,0,none⟩=some v:=by rw[cell_of_row w B 0 _ Q (0,0) hb];simpa using h4
   simp[rrun,Array.getD_eq_getD_getElem?,h6,asAddr,loadVar,h3 w,hc]
  obtain⟨B,i,Q,cs,vs,H',sz,Z,I,h3,h4,h5⟩:=h;subst h5;have h6:=ha.get t _ Z;have hb:=hw.aw I;obtain⟨h7,h8⟩:=oR h4;subst h7
  have hr:=jA (w:=w) (ad:=⟨B,0,none⟩) h3 fun i v hv=>by
   have M:(⟨B,0,none⟩:Addr).add i=⟨B,0+i,none⟩:=by unfold Addr.add;split<;>simp_all
   rw[M,cell_of_row w B (0+i) _ Q (0,0) hb];simpa using h8 i v hv
  simp[rrun,Array.getD_eq_getD_getElem?,h6,asAddr,hr]
def dU(i:Nat){x:Option (HP×List HP)}(h:sel H i=x):sel H i=x:=h
theorem rv.cell{t T B i I sz:Nat}{cs vs:bi}{H':List HP}(M:Is P T sz)(Q:lr l t=some (.pointer (some ⟨B,0,none⟩)))(Z:sel H i=some (HP.aw B I cs,H'))(h4:slc cs 0 sz=some vs):rv P l H (.cell t T) (.agg vs.toArray):=
 .inl ⟨B,i,I,cs,vs,H',sz,Q,Z,M,h4,rfl⟩
def rv.fW{t i I:Nat}{H':List HP}(M:Na P T)(Q:lr l t=some (.pointer (some ⟨B,0,none⟩)))(Z:sel H i=some (HP.aw B I cs,H'))(h4:cs[0]? =some v):rv P l H (.cell t T) v:=
 .inr ⟨B,i,I,cs,H',Q,Z,M,h4⟩
def oF(fn:Func)(tmps:Array Value):results fn tmps=(do let vs<-fn.results.mapM (rrun tmps);Pure.pure (if h:vs.size=1 then vs[0] else .tuple vs)):=by
 have:(fun r=>rrun tmps r)=rrun tmps:=rfl;unfold results;congr 1
variable {r r2:ResultVar}{v2:Value}
def lq{fn:Func}(h:fn.results= #[r])(tmps:Array Value)(w:World)(I:(rrun tmps r).run P w=.ok v w):(results fn tmps).run P w=.ok v w:=by
 rw[oF,h];simp[I]
def qe{fn:Func}(h:fn.results= #[r,r2])(tmps:Array Value)(w:World)(I:(rrun tmps r).run P w=.ok v w)(M:(rrun tmps r2).run P w=.ok v2 w):(results fn tmps).run P w=.ok (.tuple #[v,v2]) w:=by
 rw[oF,h];simp[I,M]
variable{fn:Func}{R:Value->List HP->Prop}{Hn:List HP}
def KR.we(is:List Nat)(I:fn.results= #[r])(M:rv P l H r v)(hs:sels H is=some Hn)(Q:R v Hn):KR P fn n w0 F R .ret l H:=
 ⟨v,Hn,is,fun a w ha Z=>lq I _ _ (M.run ha Z),hs,Q⟩
variable {r3:ResultVar}
def yv{fn:Func}(h:fn.results= #[r,r2,r3])(tmps:Array Value)(w:World){v3:Value}(I:(rrun tmps r).run P w=.ok v w)(M:(rrun tmps r2).run P w=.ok v2 w)(Q:(rrun tmps r3).run P w=.ok v3 w):(results fn tmps).run P w=.ok (.tuple #[v,v2,v3]) w:=by
 rw[oF,h];simp[I,M,Q]
def KR.wa{v3:Value}(is:List Nat)(M:fn.results= #[r,r2,r3])(Q:rv P l H r v)(Z:rv P l H r2 v2)(h3:rv P l H r3 v3)(hs:sels H is=some Hn)(hR:R (.tuple #[v,v2,v3]) Hn):KR P fn n w0 F R .ret l H:=
 ⟨_,Hn,is,fun a w ha I=>yv M _ _ (Q.run ha I) (Z.run ha I) (h3.run ha I),hs,hR⟩
def KR.kR(is:List Nat)(M:fn.results= #[r,r2])(Q:rv P l H r v)(Z:rv P l H r2 v2)(hs:sels H is=some Hn)(hR:R (.tuple #[v,v2]) Hn):KR P fn n w0 F R .ret l H:=
 ⟨_,Hn,is,fun a w ha I=>qe M _ _ (Q.run ha I) (Z.run ha I),hs,hR⟩
end
end E
namespace Fl
def valid(w h:Int):Bool:=decide (2<=w)&&decide (w<=8)&&decide (2<=h)&&decide (h<=8)
def qZ(n m:Int):Bool:=decide (0<=n)&&decide (n<m)
def has(w h p:Int):Bool:=valid w h&&qZ p (w*h)
variable {d h p w:Int}{k:Nat}{l:ap}{q:UInt8->Bool}{α:Type}
theorem dv:valid w h=true↔2<=w/\w<=8/\2<=h/\h<=8:=by simp[valid,and_assoc]
def iA{n m:Int}:qZ n m=true↔0<=n/\n<m:=by simp[qZ]
theorem fC:has w h p=true↔(2<=w/\w<=8/\2<=h/\h<=8)/\0<=p/\p<w*h:=by simp[has,dv,iA]
def at_(w h x y:Int):Int×Bool:=if valid w h&&qZ x w&&qZ y h then(y*w+x,true) else(0,false)
def dx(d:Int):Int:=if d=1 then 1 else if d=3 then-1 else 0
def dy(d:Int):Int:=if d=0 then-1 else if d=2 then 1 else 0
def dQ(w h p d:Int):Int×Bool:=at_ w h (p%w+dx d) (p/w+dy d)
def fP(w p q:Int):Int:=(if p%w-q%w< -(p%w-q%w) then-(p%w-q%w) else p%w-q%w)+(if p/w-q/w< -(p/w-q/w) then-(p/w-q/w) else p/w-q/w)
def step(w h p d:Int):Int×Int:=if has w h p&&qZ d 4 then(if(dQ w h p d).2 then((dQ w h p d).1,0) else(0,6)) else(0,2)
def Yg{a b:Int}(ha:0<=a/\a<=100000)(I:0<=b/\b<=100000):0<=a*b/\a*b<=10000000000:=
 ⟨Int.mul_nonneg ha.1 I.1,by have:=Int.mul_le_mul ha.2 I.2 I.1 K1;omega⟩
def div_lt(I:0<w)(hp:p<w*h):p/w<h:=Int.ediv_lt_of_lt_mul I (by grind)
def Gc(I:2<=w/\w<=8/\2<=h/\h<=8)(hp:0<=p/\p<w*h):0<=p/w/\p/w<h/\0<=p%w/\p%w<w:=
 ⟨nj hp.1 K1,div_lt K1 hp.2,lY _ K1,rr _ K1⟩
def mv(w h p d:Int):Int:=if(dQ w h p d).2 then(dQ w h p d).1 else-1
def LK(I:(dQ w h p d).2=true):0<=(dQ w h p d).1:=by
 unfold dQ at_ at*;split at I
 ·rename_i hc;simp[valid,qZ] at hc;rw[aa (by simp[valid,qZ];omega)]
  have:=Int.mul_nonneg (show 0<=p/w+dy d by omega) (show 0<=w by omega)
  omega
 cases I
theorem mH(hd:d<0\/4<=d):step w h p d=(0,2):=by
 unfold step;rw[ae];simp[qZ];omega
def JA(I:has w h p=false):step w h p d=(0,2):=by
 unfold step;simp[I]
theorem HV(I:has w h p=true)(hd:0<=d/\d<4):step w h p d=if mv w h p d<0 then(0,6) else(mv w h p d,0):=by
 unfold step;rw[aa (by simp[I,qZ];omega)]
 unfold mv;cases h2:(dQ w h p d).2 with
 |true=>have:=LK h2;simp;omega
 |false=>simp
def gp(l:ap):Bool:=decide (1<=l.length)&&decide (l.length<=16)&&l.all fun c=>decide (c.toNat<=3)
def kb(l:ap):Int:=if gp l then 0 else 60
theorem eX:gp l=true↔(1<=l.length/\l.length<=16)/\∀c∈l,c.toNat<=3:=by simp[gp]
def mx(l:ap):Int:=l.foldl (fun m c=>if m<(c.toNat:Int) then(c.toNat:Int) else m) 0
theorem Gp(hk:k<l.length):mx (l.take (k+1))=if mx (l.take k)<((l.getD k 0).toNat:Int) then((l.getD k 0).toNat:Int) else mx (l.take k):=by
 grind [mx,List.take_succ_eq_append_getElem]
def XU(hk:0<l.length):mx (l.take 1)=((l.getD 0 0).toNat:Int):=by
 grind [Gp,mx]
def KL(l:ap)(m b:Int):l.foldl (fun m c=>if m<(c.toNat:Int) then(c.toNat:Int) else m) m<=b↔m<=b/\∀c∈l,(c.toNat:Int)<=b:=by
 induction l generalizing m with
 |nil=>simp
 |cons c r I=>
  grind
def Nj{l:ap}:mx l<=3↔∀c∈l,c.toNat<=3:=by
 unfold mx;rw[KL];grind
def Wm(l:ap)(tick:Int)(n:Nat):Nat:=((tick%(l.length:Int)).toNat+n)%l.length
def rU(l:ap)(tick:Int)(n:Nat):Int:=((l.getD (Wm l tick n) 0).toNat:Int)-1
def dB(l:ap)(tick:Int):Int×Int:=if gp l then(rU l tick 0,0) else(0,60)
def runN(l:ap)(tick t:Int)(b:Bool):Nat->Nat->Nat
 |0,n=>n
 |f+1,n=>if(decide (rU l tick n=t))=b then runN l tick t b f (n+1) else n
def run(l:ap)(tick t:Int)(b:Bool):Nat:=runN l tick t b l.length 0
def VD(tick:Int)(h:1<=l.length):0<=tick%(l.length:Int)/\tick%(l.length:Int)<l.length:=
 ⟨lY _ K1,rr _ K1⟩
def O4{tick:Int}(h:1<=l.length):(tick%(l.length:Int)).toNat=Wm l tick 0:=by
 have:=VD tick h;unfold Wm;rw[Nat.add_zero,fQ K1]
def DQ(c:UInt8):Bool:=decide (c.toNat<=3)||decide (c.toNat=255)
def cG(w h:Int)(l:ap):Bool:=valid w h&&decide ((l.length:Int)=w*h)&&l.all DQ
def gF(w h:Int)(l:ap):Int:=if cG w h l then 0 else 50
theorem fG:cG w h l=true↔(valid w h=true/\(l.length:Int)=w*h)/\∀c∈l,DQ c=true:=by simp[cG]
def iM:gF w h l=0↔cG w h l=true:=by
 unfold gF;split<;>simp_all
theorem jo(I:cG w h l=true):l.length<=64:=by
 obtain⟨⟨M,Q⟩,_⟩:=fG.1 I;have:=dv.1 M;have:=Int.mul_le_mul (show w<=8 by omega) (show h<=8 by omega) K1 K1
 omega
def idx(q:UInt8->Bool)(l:ap):Int:=match l.findIdx? q with|some i=>(i:Int)|none=> -1
def iK(h:∀j,j<l.length->q (l.getD j 0)=false):idx q l= -1:=by
 grind [idx,List.mem_iff_getElem]
def iJ(hk:k<l.length)(h:∀j,j<k->q (l.getD j 0)=false)(I:q (l.getD k 0)=true):idx q l=(k:Int):=by
 unfold idx
 have:l.findIdx? q=some k:=by
  grind [List.findIdx?_eq_some_iff_getElem]
 rw[this]
def tL(q:UInt8->Bool)(l:ap):decide (0<=idx q l)=l.any q:=by
 grind [idx]
def HM(l:ap):l.any (fun c=> !DQ c)= !l.all DQ:=by
 induction l with
 |nil=>rfl
 |cons c r I=>simp[I,Bool.not_and]
def dE(c:UInt8):Int:=if c.toNat=0 then-1 else if c.toNat=255 then-2 else(c.toNat:Int)-1
def places(q:UInt8->Bool)(l:ap)(k:Nat):bv:=((List.range k).filter fun p=>q (l.getD p 0)).map fun(p:Nat)=>(p:Int)
def uG(h:q (l.getD k 0)=true):places q l (k+1)=places q l k++[(k:Int)]:=by
 grind [places,List.range_succ]
def w8(h:q (l.getD k 0)=false):places q l (k+1)=places q l k:=by
 grind [places,List.range_succ]
theorem vI(q:UInt8->Bool)(l:ap)(k:Nat):(places q l k).length<=k:=by
 grind [places]
def owner(w h:Int)(l:ap)(p:Int):Int×Int:=if cG w h l then(if has w h p then(dE (l.getD p.toNat 0),0) else(0,2)) else(0,50)
def js(w h:Int)(l:ap)(t:Int):bv×Int:=if cG w h l then(if qZ t 3 then(places (fun c=>decide (dE c=t)) l l.length,0) else([],2)) else([],50)
def L6(w h:Int)(l:ap)(t:Int):(js w h l t).1.length<=l.length:=by
 grind [js,vI]
def own(t:Int)(c:UInt8):Bool:=decide (0<=t)&&decide (t<3)&&decide ((c.toNat:Int)=t+1)
theorem sT{t:Int}{c:UInt8}(ht:0<=t/\t<3)(hc:DQ c=true):own t c=decide (dE c=t):=by
 grind [own,dE]
theorem rn{c:UInt8}:decide ((c.toNat:Int)=255)=decide (dE c= -2):=by
 grind [dE]
def aa1(c:UInt8):DQ c=(decide ((c.toNat:Int)<=3)||decide ((c.toNat:Int)=255)):=by
 unfold DQ;grind
variable {l2:List α}
def xI[DecidableEq α]{l:List α}(h:¬(l.length:Int)=l2.length):decide (l=l2)=false:=aV fun e=>h (by rw[e])
def Gr[DecidableEq α]{l:List α}{d:α}(h:¬l.getD k d=l2.getD k d):decide (l=l2)=false:=aV fun e=>h (by rw[e])
def HR[DecidableEq α]{l:List α}{d:α}(hl:l.length=l2.length)(h:∀j,j<l.length->l.getD j d=l2.getD j d):decide (l=l2)=true:=bu (by
 grind [List.ext_getElem])
def pR{j:Nat}(h:j<l.length):l.getD j 0∈l:=by simp[List.getD,h]
def xJ(I:cG w h l=true){j:Nat}(M:j<l.length):DQ (l.getD j 0)=true:=(fG.1 I).2 _ (pR M)
def WA(I:cG w h l=true)(hp:has w h p=true):0<=p/\p<l.length/\p.toNat<l.length:=by
 grind [fG,fC]
end Fl
namespace Fl
variable {d h p q w x y:Int}
theorem Qu(I:0<=x/\x<w):(y*w+x)%w=x/\(y*w+x)/w=y:=by
 constructor
 ·rw[Int.add_comm,Int.add_mul_emod_self_right];exact Int.emod_eq_of_lt I.1 I.2
 rw[Int.add_comm,Int.add_mul_ediv_right _ _ K1,nh I.1 I.2];omega
def ur(I:2<=w/\w<=8/\2<=h/\h<=8)(M:0<=x/\x<w)(Q:0<=y/\y<h):0<=y*w+x/\y*w+x<w*h:=by
 have Z:0<=y*w:=Int.mul_nonneg K1 K1;have h1:y*w<=(h-1)*w:=ny K1 K1;grind
theorem zb{w p:Int}:p/w*w+p%w=p:=by
 grind [Int.emod_add_mul_ediv]
def uX(I:p%w=q%w)(M:p/w=q/w):p=q:=by
 rw[<- @zb w p,<- @zb w q,I,M]
theorem LV(w h p d:Int):mv w h p d=if valid w h&&qZ (p%w+dx d) w&&qZ (p/w+dy d) h then(p/w+dy d)*w+(p%w+dx d) else-1:=by
 grind [mv,dQ,at_]
def OA(I:2<=w/\w<=8/\2<=h/\h<=8)(M:0<=q/\q<w*h):mv w h p d=q↔q%w=p%w+dx d/\q/w=p/w+dy d:=by
 have Q:=Gc I M;grind [LV,Qu,qZ,dv,zb]
def abp(M:2<=w/\w<=8/\2<=h/\h<=8)(Q:0<=mv w h p d):mv w h p d<w*h:=by
 rw[LV] at*;split at Q
 ·rename_i I;rw[aa I];simp only[ay,iA] at I;exact(ur M I.1.2 I.2).2
 omega
def ab(n:Int):Int:=if n< -n then-n else n
theorem jX(w p q:Int):fP w p q=ab (p%w-q%w)+ab (p/w-q/w):=rfl
def fq(n:Int):(0<=n/\ab n=n)\/(n<0/\ab n= -n):=by unfold ab;split<;>omega
def UN(w p q:Int):0<=fP w p q:=by
 rw[jX];rcases fq (p%w-q%w) with I|I<;>rcases fq (p/w-q/w) with M|M<;>omega
def rh:fP w p q=0↔p=q:=by
 rw[jX];constructor
 ·intro h;apply uX (w:=w)<;>rcases fq (p%w-q%w) with I|I<;>rcases fq (p/w-q/w) with M|M<;>omega
 rintro rfl;rcases fq (p%w-p%w) with I|I<;>rcases fq (p/w-p/w) with M|M<;>omega
def JJ(w p q:Int):fP w p q=fP w q p:=by
 rw[jX,jX];rcases fq (p%w-q%w) with I|I<;>rcases fq (p/w-q/w) with M|M<;>rcases fq (q%w-p%w) with Q|Q<;>rcases fq (q/w-p/w) with Z|Z<;>omega
def JR{d:Nat}(h:d<4):d=0\/d=1\/d=2\/d=3:=K1
def RD{r:Int}{d:Nat}(I:2<=w/\w<=8/\2<=h/\h<=8)(M:0<=r/\r<w*h)(hd:d<4)(Q:mv w h p d=r):fP w r q=fP w p q+1\/fP w r q=fP w p q-1:=by
 obtain⟨Z,e2⟩:=(OA I M).1 Q;rw[jX,jX,Z,e2];grind [dx,dy,ab]
def ac3(I:2<=w/\w<=8/\2<=h/\h<=8)(M:0<=x/\x<w)(Q:0<=y/\y<h)(Z:x=p%w+dx d)(e2:y=p/w+dy d):mv w h p d=y*w+x:=by
 have hc:=Qu (y:=y) M;exact(OA I (ur I M Q)).2 ⟨by rw[hc.1];exact Z,by rw[hc.2];exact e2⟩
def DG(I:2<=w/\w<=8/\2<=h/\h<=8)(hp:0<=p/\p<w*h)(hq:0<=q/\q<w*h)(hn:p≠q):∃d:Nat,d<4/\0<=mv w h p d/\mv w h p d<w*h/\fP w (mv w h p d) q=fP w p q-1:=by
 have hb:=Gc I hp;have hb2:=Gc I hq
 have key:∀(d:Nat) (x y:Int),d<4->0<=x/\x<w->0<=y/\y<h->x=p%w+dx d->y=p/w+dy d->ab (x-q%w)+ab (y-q/w)=ab (p%w-q%w)+ab (p/w-q/w)-1->∃d:Nat,d<4/\0<=mv w h p d/\mv w h p d<w*h/\fP w (mv w h p d) q=fP w p q-1:=by
  intro d x y hd M Q e1 e2 e3;have e:=ac3 I M Q e1 e2;have hl:=ur I M Q;have hc:=Qu (y:=y) M;grind [jX]
 have hne:¬(p%w=q%w/\p/w=q/w):=fun Z=>hn (uX Z.1 Z.2);have hA:∀n,ab n=if n< -n then-n else n:=fun _=>rfl
 by_cases h1:p%w<q%w
 ·refine key 1 (p%w+1) (p/w) K1 K1 K1 (by simp[dx]) (by simp[dy]) ?_
  grind
 by_cases h2:q%w<p%w
 ·refine key 3 (p%w-1) (p/w) K1 K1 K1 (by simp[dx];omega) (by simp[dy]) ?_
  grind
 by_cases h3:p/w<q/w
 ·refine key 2 (p%w) (p/w+1) K1 K1 K1 (by simp[dx]) (by simp[dy]) ?_
  grind
 refine key 0 (p%w) (p/w-1) K1 K1 K1 (by simp[dx]) (by simp[dy];omega) ?_
 grind
def DI(M:2<=w/\w<=8/\2<=h/\h<=8)(hp:0<=p/\p<w*h)(Q:0<=q/\q<w*h):fP w p q=1↔∃d:Nat,d<4/\mv w h p d=q:=by
 constructor
 ·intro I;obtain⟨d,hd,h0,hl,Z⟩:=DG M hp Q (fun e=>by rw[rh.2 e] at I;omega)
  exact⟨d,hd,(rh (w:=w)).1 K1⟩
 rintro⟨d,hd,Z⟩;have I:=RD (q:=q) M Q hd Z;rw[rh.2 rfl] at I;have:=UN w p q;omega
end Fl
end
namespace Fl
def value(c:UInt8):Option UInt8:=if c=35 then some 0 else if c=46 then some 255 else if 48<=c.toNat/\c.toNat<=50 then some (c-47) else none
variable{n W H:Int}{cs:ap}{l:ap}{k:Nat}
end Fl
namespace Fl
variable{w h p q x y d:Int}
def Xq:(has w h p=true/\(0<=d/\d<4)/\0<=mv w h p d/\step w h p d=(mv w h p d,0))\/(has w h p=true/\(0<=d/\d<4)/\mv w h p d<0/\step w h p d=(0,6))\/
  ((has w h p=false\/d<0\/4<=d)/\step w h p d=(0,2)):=by
 cases hh:has w h p with
 |false=>exact .inr (.inr ⟨.inl rfl,JA hh⟩)
 |true=>
  grind [HV,mH]
def OT(I:has w h p=true)(hd:0<=d/\d<4):(0<=mv w h p d/\step w h p d=(mv w h p d,0))\/(mv w h p d<0/\step w h p d=(0,6)):=by
 grind [HV]
section
variable{l:ap}{tick t:Int}
def ML(hs:gp l=true):dB l tick=(rU l tick 0,0):=aa hs
end
end Fl
namespace Fl
def uA{q:UInt8->Bool}{l:ap}{k:Nat}{x:Int}:x∈places q l k↔∃p:Nat,p<k/\q (l.getD p 0)=true/\x=(p:Int):=by
 grind [places]
def xj{xs:bv}{i:Nat}(h:i<xs.length):xs.getD i 0∈xs:=by
 simp_all
end Fl
namespace Cf
structure T where
 h:bv
 p:bv
 d:bv
 n1:Int
 n2:Int
 n3:Int
 n4:Int
 n5:Int
 deriving DecidableEq
structure C where
 a:Int
 b:Int
 l:ap
 s:ap
 ts:List T
 st:Int
 deriving DecidableEq
def T.z:T:=⟨[],[],[],0,0,0,0,0⟩
def Cv(l:bv):Prop:=∀n∈l,-9223372036854775808<=n/\n<=9223372036854775807
def i64(n:Int):Prop:= -9223372036854775808<=n/\n<=9223372036854775807
structure T.fit(t:T):Prop where
 h:t.h.length*8<=140737488351232
 p:t.p.length*8<=140737488351232
 d:t.d.length*8<=140737488351232
 hs:Cv t.h
 ps:Cv t.p
 ds:Cv t.d
 n1:i64 t.n1
 n2:i64 t.n2
 n3:i64 t.n3
 n4:i64 t.n4
 n5:i64 t.n5
structure C.fit(g:C):Prop where
 a:i64 g.a
 b:i64 g.b
 l:g.l.length<=140737488351232
 s:g.s.length<=140737488351232
 t:g.ts.length*112<=140737488351232
 m:∀t∈g.ts,t.fit
 st:0<=g.st/\g.st<18446744073709551616
def T.ext'{t u:T}:t=u↔t.h=u.h/\t.p=u.p/\t.d=u.d/\t.n1=u.n1/\t.n2=u.n2/\t.n3=u.n3/\t.n4=u.n4/\t.n5=u.n5:=by
 cases t;cases u;simp
variable {k:Nat}{α β:Type}{l l2:List α}
theorem upto{d:α}(h:∀j,j<k->l.getD j d=l2.getD j d)(e:l.getD k d=l2.getD k d):∀j,j<k+1->l.getD j d=l2.getD j d:=fun j I=>by
 grind
def acn{x y:UInt8}(h:(x.toNat:Int)=(y.toNat:Int)):x=y:=UInt8.toNat_inj.1 K1
variable {f:α->β}
def VW[DecidableEq β]{z:α}(I:k<l.length)(M:k<l2.length)(h:¬f (l.getD k z)=f (l2.getD k z)):decide (l.map f=l2.map f)=false:=
 aV fun e=>h (by
  have:=aq (·[k]?) e
  grind)
def R5[DecidableEq β](h:¬(l.length:Int)=l2.length):decide (l.map f=l2.map f)=false:=
 aV fun e=>h (by grind [List.length_map])
def map_eq[DecidableEq β]{z:α}(hl:l.length=l2.length)(h:∀j,j<l.length->f (l.getD j z)=f (l2.getD j z)):decide (l.map f=l2.map f)=true:=bu (by
 grind [List.ext_getElem,List.length_map])
def abS{z:α}(h:∀j,j<k->f (l.getD j z)=f (l2.getD j z))(e:f (l.getD k z)=f (l2.getD k z)):∀j,j<k+1->f (l.getD j z)=f (l2.getD j z):=fun j I=>by
 grind
end Cf
section
variable{P:Program}{n:E.Fr}{w0:World}{F:Nat->Prop}{K:E.Kt}{l:E.Env}{H:List E.HP}
namespace E
structure Tm where
 q:Cf.T
 A1:am
 A2:am
 A3:am
 c1:Nat
 c2:Nat
 c3:Nat
def Tm.z:Tm:=⟨Cf.T.z,none,none,none,0,0,0⟩
def Tm.cells(m:Tm):bi:=[.slice m.A1 m.q.h.length m.c1,.slice m.A2 m.q.p.length m.c2,.slice m.A3 m.q.d.length m.c3,.int .i64 m.q.n1,.int .i64 m.q.n2,.int .i64 m.q.n3,.int .i64 m.q.n4,.int .i64 m.q.n5]
def Tm.v(m:Tm):Value:=.agg m.cells.toArray
def Tm.rd(w:World)(G:Nat->Prop)(m:Tm):Prop:=Rd w G m.A1 (ints m.q.h)/\Rd w G m.A2 (ints m.q.p)/\Rd w G m.A3 (ints m.q.d)
def tms:List Tm->bi
 |[]=>[]
 |m::r=>m.cells++tms r
theorem D5(a b:List Tm):tms (a++b)=tms a++tms b:=by
 induction a with
 |nil=>rfl
 |cons m r I=>simp only[jC,tms,I,aQ]
@[simp] theorem Fa (ts:List Tm):(tms ts).length=ts.length*8:=by
 induction ts with
 |nil=>rfl
 |cons m r I=>simp only[tms,aF,I,bI];simp only[Tm.cells,bI,gL];omega
def Tm.one(m:Tm):∀u∈m.cells,u.oneCell'=true:=by
 intro u I;simp only[Tm.cells,er,bg,or_false] at I;rcases I with rfl|rfl|rfl|rfl|rfl|rfl|rfl|rfl<;>rfl
def Sm{ts:List Tm}:∀u∈tms ts,u.oneCell'=true:=by
 induction ts with
 |nil=>intro u I;cases I
 |cons m r M=>
  intro u I;simp only[tms,aN] at I;exact I.elim (m.one u) (M u)
def sX:∀{ts:List Tm} {k j:Nat} {v:Value},k<ts.length->(ts.getD k Tm.z).cells[j]? =some v->(tms ts)[k*8+j]? =some v:=by
 intro ts;induction ts with
 |nil=>intro k j v h;simp at h
 |cons m r Q=>
  intro k j v hk I
  have Z:j<8:=by
   rcases dd j 8 with h|h
   ·exact h
   rw[fH (by simp[Tm.cells];omega)] at I;cases I
  cases k with
  |zero=>
   grind [tms]
  |succ k=>
   simp only[tms];rw[List.getElem?_append_right (by simp[Tm.cells];omega)]
   have M:m.cells.length=8:=rfl;rw[M,show(k+1)*8+j-8=k*8+j by omega]
   simp_all
theorem Tm.mem{ts:List Tm}{k:Nat}(h:k<ts.length):ts.getD k Tm.z∈ts:=by
 grind
def yA(w:World):(Nat->Prop)->List HP->Prop
 |S,[]=>∀k,¬S k
 |S,p::r=>∃I M:Nat->Prop,(∀k,S k↔I k\/M k)/\(∀k,I k->¬M k)/\p.bA I w/\yA w M r
variable {U:Nat->Prop}{ps:List HP}{w:World}
def Ox{w':World}:∀{S:Nat->Prop},(∀k,S k->w'.heap[k]? =w.heap[k]?)->yA w S ps->yA w' S ps:=by
 induction ps with
 |nil=>intro S _ h;exact h
 |cons p r Q=>
  intro S hk ⟨M,Z,I,h2,h3,h4⟩;exact⟨M,Z,I,h2,p.loc M w w' (fun k h=>hk k ((I k).2 (.inl h))) h3,Q (fun k h=>hk k ((I k).2 (.inr h))) h4⟩
def rK{Z:List HP}(hp:ps.Perm Z):∀{S:Nat->Prop},yA w S ps->yA w S Z:=by
 induction hp with
 |nil=>intro _ h;exact h
 |cons x _ ih=>intro S ⟨I,S2,h1,M,Q,h4⟩;exact⟨I,S2,h1,M,Q,ih h4⟩
 |swap x y l=>
  intro S ⟨I,S2,h1,M,Q,T1,T2,g1,g2,g3,g4⟩;refine⟨T1,fun k=>I k\/T2 k,fun k=>?_,fun k hk=>?_,g3,I,T2,fun _=>Iff.rfl,fun k hk ht=>M k hk ((g1 k).2 (.inr ht)),Q,g4⟩
  ·grind
  grind
 |trans _ _ ih1 ih2=>grind
variable {p:HP}
def M8(hp:p∈ps):∀{S:Nat->Prop},yA w S ps->∃I,p.bA I w:=by
 induction ps with
 |nil=>cases hp
 |cons q r M=>
  intro S ⟨Q,Z,_,_,h3,h4⟩;grind
def HP.dj(ps:List HP):HP where
 bA S w:=yA w S ps
 loc:=fun _ _ _ h I=>Ox h I
variable {r:List HP}
def ah.oV(h:ah w U r):ah w U (HP.dj []::r):=
 ⟨fun _=>False,fun _ hk=>hk,fun _ hk=>hk.elim,h.congr fun k=>by simp⟩
theorem ah.mB(h:ah w U (p::HP.dj ps::r)):ah w U (HP.dj (p::ps)::r):=by
 obtain⟨I,Q,b1,M,Z,b2,h3⟩:=h;refine⟨fun k=>I k\/M k,⟨I,M,fun _=>Iff.rfl,fun k hk h=>(b2 k h).2 (.inr hk),Q,Z⟩,fun k hk=>?_,h3.congr fun k=>?_⟩
 ·grind
 grind
def ah.tG(h:ah w U (HP.dj (p::ps)::r)):ah w U (p::HP.dj ps::r):=by
 obtain⟨S,⟨M,Q,I,g2,Z,g4⟩,b,h3⟩:=h;refine⟨M,Z,fun k hk=>b k ((I k).2 (.inl hk)),Q,g4,fun k hk=>⟨(b k ((I k).2 (.inr hk))).1,?_⟩,h3.congr fun k=>?_⟩
 ·grind
 grind
def ah.jx{I:List HP}(hp:ps.Perm I)(h:ah w U (HP.dj ps::r)):ah w U (HP.dj I::r):=by
 obtain⟨S,M,Q⟩:=h;exact⟨S,rK hp M,Q⟩
theorem ah.xz{r':List HP}(h:∀V,ah w V r->ah w V r')(hc:ah w U (p::r)):ah w U (p::r'):=by
 obtain⟨S,I,M,Q⟩:=hc;exact⟨S,I,M,h _ Q⟩
theorem ah.aX:∀{U:Nat->Prop},ah w U (ps++r)->ah w U (HP.dj ps::r):=by
 induction ps with
 |nil=>intro U h;exact h.oV
 |cons p ps I=>grind [mB,xz]
def ah.open:∀{U:Nat->Prop},ah w U (HP.dj ps::r)->ah w U (ps++r):=by
 induction ps with
 |nil=>intro U ⟨S,Q,_,I⟩;exact I.mono fun k hk=>.inl hk
 |cons p ps M=>intro U h;exact ah.xz (fun V=>M) h.tG
section
variable{o:Oper}
variable {A:am}{S:Nat->Prop}{c:Code}{m:Tm}{ts:List Tm}{w:World}
def CW.conv{H':List HP}(h:∀w U,ah w U H->ah w U H')(k:CW P n w0 F c K l H'):CW P n w0 F c K l H:=fun a w ha I=>k a w ha {I with chunks:=h w _ I.chunks}
theorem CW.aX{c:Code}{I ps r:List HP}(is:List Nat)(m:Nat)(hs:E.sels H is=some I)(M:spl I m=some (ps,r))(k:CW P n w0 F c K l (HP.dj ps::r)):CW P n w0 F c K l H:=
 CW.sels is hs (CW.conv (fun w U h=>by rw[rJ M] at h;exact h.aX) k)
theorem CW.open{c:Code}{ps r:List HP}(i:Nat)(hs:sel H i=some (HP.dj ps,r))(k:CW P n w0 F c K l (ps++r)):CW P n w0 F c K l H:=fun a w ha I=>
 k a w ha {I.sel hs with chunks:=(I.sel hs).chunks.open}
def HP.tm(m:Tm):HP:=HP.dj [HP.row 3 1 m.A1 m.q.h.length m.c1 (ints m.q.h),HP.row 3 1 m.A2 m.q.p.length m.c2 (ints m.q.p),HP.row 3 1 m.A3 m.q.d.length m.c3 (ints m.q.d)]
def HP.tms(ts:List Tm):HP:=HP.dj (ts.map HP.tm)
def CW.Qz(k:CW P n w0 F c K l (HP.tms []::H)):CW P n w0 F c K l H:=CW.conv (fun w U h=>h.oV) k
def CW.FB{I:List HP}(i j:Nat){M:List HP}(hi:sel H i=some (HP.tm m,I))(Z:sel I j=some (HP.tms ts,M))(k:CW P n w0 F c K l (HP.tms (ts++[m])::M)):CW P n w0 F c K l H:=fun a w ha hw=>by
 have Q:=hw.perm ((an hi).trans ((an Z).cons _))
 refine k a w ha {Q with chunks:=?_}
 have h2:=ah.mB Q.chunks
 refine ah.jx ?_ h2
 grind [List.perm_append_comm]
def mq{Et sz m c:Nat}{xs:bi}(h:(HP.row Et sz A m c xs).bA S w):Rd w (Old w) A xs:=uQ h.2
def acS(h:(HP.tm m).bA S w):m.rd w (Old w):=by
 obtain⟨_,_,_,_,I,_,_,_,_,M,_,_,_,_,Q,_⟩:=h;exact⟨mq I,mq M,mq Q⟩
def Yn(h:(HP.tms ts).bA S w):∀m∈ts,m.rd w (Old w):=fun m I=>by
 obtain⟨Q,M⟩:=M8 (p:=HP.tm m) (cm.2 ⟨m,I,rfl⟩) h
 exact acS M
def HA.oP(h:HA w0 F H w)(I:m.rd w0 F):m.rd w (Old w):=⟨h.rd I.1,h.rd I.2.1,h.rd I.2.2⟩
def PV.RO{t:TypeId}{x:Operand}{k:Nat}(I:∀w,HA w0 F H w->Rd w (Old w) A (E.tms ts))(ht:Is P t 8)(ho:o.op=.load t x)(M:ev l x=some (bB A (k*8)))(hk:k<ts.length):
  PV P n w0 F l H o (ts.getD k Tm.z).v:=
 PV.iL I (by exact ht) (by simp[Tm.cells]) ho M fun i v Q=>sX hk Q
def OW.PG{ops:Array Oper}{I:List Oper}{d:Nat}{s x:Operand}{t Et i bytes c:Nat}{z:Value}{zs:bi}{A2:am}{j cc:Nat}{H2 M:List HP}(hT:P.underlying t=some (.slice Et))(hI:In P Et z 8 bytes)(hz:z.cells=zs.toArray)(Q:zs.length=8)(ho:o.op=.call {callee:=.builtin .append,args:= #[s,x],argTypes:= #[t,t]})(hg:gd ops l o.guard=some true)(hd:o.dst=some d)(hn:Nat.blt d n.sz=true)(hs:ev l s=some (.slice A ts.length c))(hx:ev l x=some (.slice A2 1 cc))(hj:sel H j=some (HP.row Et 8 A2 1 cc (E.tms [m]),H2))(hi:sel H2 i=some (HP.row Et 8 A ts.length c (E.tms ts),M))(Z:ts.length+1<=maxLen)(hb:(ts.length+1)*bytes<=140737488355328)(k:∀A' c',OW P n w0 F ops K I ((d,.slice A' (ts++[m]).length c')::l) (HP.row Et 8 A' (ts++[m]).length c' (E.tms (ts++[m]))::M)):OW P n w0 F ops K (o::I) l H:=by
 have hpm:=(an hj).trans ((an hi).cons _|>.trans (List.Perm.swap _ _ _))
 refine fun a w ha hw=>OW.append (H:=HP.row Et 8 A ts.length c (E.tms ts)::HP.row Et 8 A2 1 cc (E.tms [m])::M) (i:=0) (H':=HP.row Et 8 A2 1 cc (E.tms [m])::M) (ys:=E.tms [m]) hT hI hz Q K1 ho hg hd hn hs hx rfl
  (fun w hw=>hw.bh (i:=1) rfl) rfl Sm Z hb (fun A' c'=>?_) a w ha (hw.perm hpm)
 refine OW.drop 1 rfl ?_;have h:=k A' c';grind [D5]
structure aP where
 a:Int
 b:Int
 l:ap
 s:ap
 ts:List Tm
 st:Int
 A:am
 c:Nat
 A1:am
 c1:Nat
 A2:am
 c2:Nat
def aP.q(g:aP):Cf.C:=⟨g.a,g.b,g.l,g.s,g.ts.map (·.q),g.st⟩
def aP.cells(g:aP):bi:=[.int .i64 g.a,.int .i64 g.b,.slice g.A g.l.length g.c,.slice g.A1 g.s.length g.c1,.slice g.A2 g.ts.length g.c2,.int .u64 g.st]
def aP.v(g:aP):Value:=.agg g.cells.toArray
structure aP.rd(w:World)(G:Nat->Prop)(g:aP):Prop where
 l:Rd w G g.A (aA g.l)
 s:Rd w G g.A1 (aA g.s)
 t:Rd w G g.A2 (E.tms g.ts)
 m:∀m∈g.ts,m.rd w G
variable {g:aP}
def aP.cj(h:g.q.fit):g.l.length<=140737488351232/\g.s.length<=140737488351232/\g.ts.length*112<=140737488351232:=⟨h.l,h.s,by have:=h.t;simpa[aP.q] using this⟩
def aP.HG(h:g.q.fit):∀m∈g.ts,m.q.fit:=fun m I=>h.m m.q (cm.2 ⟨m,I,rfl⟩)
def HP.cfg(g:aP):HP:=HP.dj [HP.row 5 1 g.A g.l.length g.c (aA g.l),HP.row 5 1 g.A1 g.s.length g.c1 (aA g.s),HP.row 65 8 g.A2 g.ts.length g.c2 (E.tms g.ts),HP.tms g.ts]
def HA.lN(h:HA w0 F H w)(I:g.rd w0 F):g.rd w (Old w):=⟨h.rd I.l,h.rd I.s,h.rd I.t,fun m M=>h.oP (I.m m M)⟩
def aao(h:(HP.cfg g).bA S w):g.rd w (Old w):=by
 obtain⟨_,_,_,_,I,_,_,_,_,M,_,_,_,_,Q,_,_,_,_,Z,_⟩:=h;exact⟨mq I,mq M,mq Q,Yn Z⟩
def HA.iY(h:HA w0 F H w){i:Nat}{H':List HP}(hi:E.sel H i=some (HP.cfg g,H')):g.rd w (Old w):=by
 obtain⟨S,I,_⟩:=(h.sel hi).chunks;exact aao I
end
end E
namespace E
def db(w0:World)(F:Nat->Prop)(R:Value->List HP->Prop)(X:List PanicEntry->List HP->Prop)(e:Ending)(w':World):Prop:=
 (∃v Hn,e=.returned v/\R v Hn/\HA w0 F Hn w')\/(∃c I,e=.panicked c/\X c I/\HA w0 F I w')
variable {R:Value->List HP->Prop}{X:List PanicEntry->List HP->Prop}
def bK.toX{w0:World}{F:Nat->Prop}{P:Program}{f:Nat}{args:Array Value}(h:Calls P f args w0 (bK w0 F R)):Calls P f args w0 (db w0 F R X):=
 h.mono fun _ _ ⟨v,Hn,I,M,Q⟩=>.inl ⟨v,Hn,I,M,Q⟩
def KRX(P:Program)(I:Func)(n:Fr)(w0:World)(F:Nat->Prop)(R:Value->List HP->Prop)(X:List PanicEntry->List HP->Prop):Kt
 |.ret,l,H=>KR P I n w0 F R .ret l H
 |.normal,l,H=>KR P I n w0 F R .normal l H
 |.panic c,_,H=>∃is M,sels H is=some M/\X c M
 |_,_,_=>False
def IS{P:Program}{f:Nat}{M:Func}{n:Nat}{c:Code}{vs:bi}{w0:World}{F:Nat->Prop}{H:List HP}(hf:P.funcs[f]? =some M)(hnt:M.ntmps=n)(hb:M.body=some c)(hs:Nat.ble vs.length n=true)(hw:HA w0 F H w0)(h:CW P ⟨n,none,false⟩ w0 F c (KRX P M ⟨n,none,false⟩ w0 F R X) (ini 0 vs) H)(hsz:Nat.ble n 9999=true:=by rfl):Calls P f vs.toArray w0 (db w0 F R X):=by
 subst hnt;have hs':vs.length<=M.ntmps:=dX hs;have Z:M.ntmps<=9999:=dX hsz;refine calls_of_wp hf hb (wpIn_wide.1 (wpIn_mono (h _ w0 ⟨by simp;omega,Z,fun _=>rfl,fun t v ht=>?_⟩ hw) fun e a w ⟨l,H',ha,I,hk⟩=>?_))
 ·obtain⟨_,Q⟩:=uB vs 0 t v ht;simp only[mY] at Q
  have hlt:t<vs.length:=by
   grind
  have hne:Nat.beq t 9999=false:=by
   cases hb:Nat.beq t 9999 with
   |true=>have:=bj hb;omega
   |false=>rfl
  unfold At;rw[hne,cond_false,qG (by simpa using hlt)]
  simpa using Q
 have fin:∀l H',Ag ⟨M.ntmps,none,false⟩ l a->HA w0 F H' w->(∃v Hn is,(∀a w,Ag ⟨M.ntmps,none,false⟩ l a->HA w0 F H' w->(results M a.tmps).run P w=.ok v w)/\sels H' is=some Hn/\R v Hn)->
   a.defers=[]/\∃v,(results M a.tmps).run P w=.ok v w/\db w0 F R X (.returned v) w:=by
  intro l H' ha I ⟨v,Hn,is,h1,Q,h3⟩;exact⟨ha.defers rfl,v,h1 a w ha I,.inl ⟨v,Hn,rfl,h3,{I with chunks:=ch Q I.chunks}⟩⟩
 cases e with
 |normal=>exact fin l H' ha I hk
 |ret=>exact fin l H' ha I hk
 |exit i=>exact hk.elim
 |goto i=>exact hk.elim
 |panic c=>obtain⟨is,Hp,h1,Q⟩:=hk;exact⟨ha.defers rfl,.inr ⟨c,Hp,rfl,Q,I.sels h1⟩⟩
 |outgrown=>exact hk.elim
section
def rN{o:Oper}{a:Act}{w w':World}{f:Nat}{args:Array Value}{K:Act->World->Prop}{Q:Exit->Act->World->Prop}(h:(execOp a.eval o).run P w=.ok (.enter f args) w')
  (k:Calls P f args w' fun e I=>(∃v,e=.returned v/\K (a.put o.dst v) I)\/(∃c,e=.panicked c/\Q (.panic c) a I)):o.wpIn n.fe 0 P a w K Q:=
 ⟨fun _ _=>trivial,by
  rw[jg h (by simp)]
  refine⟨(fun h=>by cases h),CallsIn.mono (qo k) fun e I hk=>?_⟩
  rcases hk with⟨v,M,hk⟩|⟨c,M,hk⟩
  ·subst M;exact hk
  ·subst M;exact hk⟩
def OW.gy{ops:Array Oper}{o:Oper}{M:List Oper}{d:Nat}{f:Nat}{fo:Operand}{xs:List Operand}{ts:Array TypeId}{vs:bi}{aE:Array Value}(hf:Nm P f)
  (hg:gd ops l o.guard=some true) (hd:o.dst=some d) (hn:Nat.blt d n.sz=true) (ho:o.op=.call {callee:=.value fo,args:=xs.toArray,argTypes:=ts})
  (hfo:ev l fo=some (.func (.func f) #[] aE)) (hx:evs l xs=some vs) (R:Value->List HP->Prop) (X:List PanicEntry->List HP->Prop)
  (h:∀w,HA w0 F H w->Calls P f (vs.toArray++aE) w (db w (Old w) R X)) (hX:∀c Q,X c Q->K (.panic c) l (Q++H))
  (k:∀v Hn,R v Hn->OW P n w0 F ops K M ((d,v)::l) (Hn++H)):OW P n w0 F ops K (o::M) l H:=fun a w ha hw=>by
 refine wpListIn_step fun K' hK'=>?_
 rw[aa (ha.wanted hg)]
 refine rN (kp hf (ha.ev hfo) ho (ha.evs hx)) ?_
 refine(h w hw).mono fun e w' Z=>?_
 rcases Z with⟨v,Hn,Z,hR,I⟩|⟨c,Q,Z,hc,I⟩
 ·refine .inl ⟨v,Z,?_⟩
  rw[hd]
  exact hK' _ _ (k v Hn hR _ _ (ha.put hn v) (hw.make I.os I.tape I.output I.size (fun k hk=>I.kept k hk) I.chunks))
 ·exact .inr ⟨c,Z,l,Q++H,ha,hw.make I.os I.tape I.output I.size (fun k hk=>I.kept k hk) I.chunks,hX c Q hc⟩
theorem OW.panic{ops:Array Oper}{o:Oper}{I:List Oper}{x:Operand}{T:Nat}{v:Value}(hg:gd ops l o.guard=some true)(ho:o.op=.panic x)(M:ev l x=some (.iface T v))
  (k:K (.panic [{v:=.iface T v,recovered:=false}]) l H):OW P n w0 F ops K (o::I) l H:=fun a w ha Q=>by
 refine wpListIn_step fun K' Z=>?_
 rw[aa (ha.wanted hg)]
 refine⟨fun _ _=>trivial,?_⟩
 have h1:(execOp a.eval o).run P w=.halt (.panic (.iface T v)) w:=by
  simp only[execOp,ho,ha.ev M,Sem.run_bind,run_panic_iface,Result.andThen]
 rw[Oper.semAt_eq _ _ o (fun c h=>by rw[ho] at h;cases h),h1]
 exact⟨l,H,ha,Q,k⟩
end
end E
namespace E
def HP.obj(B:Nat)(o:Obj):HP:=⟨fun S w=>(∀k,S k↔k=B)/\w.heap[B]? =some o,fun S w w' h I=>⟨I.1,by rw[h B ((I.1 B).2 rfl)];exact I.2⟩⟩
def HP.marks:List Nat->HP
 |ds=>HP.dj (ds.map fun d=>HP.obj d (.deferred (some [])))
section
variable{o:Oper}
variable {R:Value->List HP->Prop}{ds:List Nat}{fn:Func}{p:bv->HP}{w:World}
def HA.focus{p:HP}{A:List HP}(h:HA w0 F (p::A) w):
  ∃S:Nat->Prop,p.bA S w/\(∀k,S k->k<w.heap.size/\¬F k)/\ah w (fun k=>F k\/S k) A/\HA w (fun k=>k<w.heap.size/\¬S k) [p] w/\
   ∀B w',HA w (fun k=>k<w.heap.size/\¬S k) B w'->HA w0 F (B++A) w':=by
 obtain⟨S,h1,Z,h3⟩:=h.chunks;refine⟨S,h1,Z,h3,⟨rfl,rfl,rfl,bb _,fun _ hk=>hk.1,fun _ _=>rfl,S,h1,fun k hk=>⟨(Z k hk).1,fun hn=>hn.2 hk⟩,trivial⟩,fun B w' I=>?_⟩;have hF:∀k,F k->k<w.heap.size/\¬S k:=fun k M=>⟨br (h.z1 k M) h.size,fun hs=>(Z k hs).2 M⟩;refine⟨I.os.trans h.os,I.tape.trans h.tape,I.output.trans h.output,ic h.size I.size,h.z1,fun k M=>(I.kept k (hF k M)).trans (h.kept k M),?_⟩;refine ah.app (G:=fun k=>k<w.heap.size/\¬S k) ?_ ?_
 ·exact I.chunks.congr fun k=>⟨.inr,fun Q=>Q.elim (hF k) id⟩
 exact fj.of (w:=w) I.size (fun k Q=>I.kept k Q) (U:=fun k=>F k\/S k) (fun k hlt hn=>⟨hlt,fun hs=>hn (.inr hs)⟩) (fun k M=>.inl M) h3
theorem HA.putObj{B:Nat}{o o':Obj}{w:World}(h:HA w0 F (HP.obj B o::H) w):HA w0 F (HP.obj B o'::H) (w.putObj B o'):=by
 refine HA.write (Hn:=[HP.obj B o']) h fun S hs Q=>?_;have I:B<w.heap.size:=(Q B ((hs.1 B).2 rfl)).1;refine⟨rfl,rfl,rfl,by simp[World.putObj],fun k hk M=>World.putObj_heap_other fun e=>M ((hs.1 k).2 e),S,⟨hs.1,World.putObj_heap_same I⟩,fun k hk=>⟨by simpa[World.putObj] using(Q k hk).1,fun M=>M.2 hk⟩,trivial⟩
def HA.lH{B:Nat}{o:Obj}(h:HA w0 F (HP.obj B o::H) w):w.heap[B]? =some o:=by
 obtain⟨S,I,_⟩:=h.chunks;exact I.2
def HA.newObj(o:Obj)(h:HA w0 F H w):HA w0 F (HP.obj w.heap.size o::H) (w.alloc o):=by
 refine HA.make (Hn:=[HP.obj w.heap.size o]) h rfl rfl rfl (by simp_all) (fun k hk=>?_) ⟨fun k=>k=w.heap.size,⟨fun _=>Iff.rfl,World.alloc_heap_new w o⟩,fun k hk=>⟨by simp_all,fun ho=>?_⟩,trivial⟩
 ·exact Below.heap_alloc _ _ _ K1
 omega
def YF(P:Program)(L:Nat)(p:bv->HP)(xs:bv):Prop:=
 ∀pre x I (w:World) (S:Nat->Prop),xs=pre++x::I->(p pre).bA S w->(∀k,S k->k<w.heap.size)->
  YieldAt Fence.wide 0 P L #[.int .i64 x] w fun e w'=>e=.returned (.bool true)/\HA w (fun k=>k<w.heap.size/\¬S k) [p (pre++[x])] w'
theorem OW.yield{ops:Array Oper}{I:List Oper}{d L:Nat}{fo xo:Operand}{ts:Array TypeId}{xs pre post:bv}{x:Int}{H':List HP}(hg:gd ops l o.guard=some true)(hd:o.dst=some d)(hn:Nat.blt d n.sz=true)(ho:o.op=.call {callee:=.value fo,args:= #[xo],argTypes:=ts})(Z:ev l fo=some (.func (.yield L) #[] #[]))(hx:ev l xo=some (.int .i64 x))(hY:YF P L p xs)(i:Nat)(hi:sel H i=some (p pre,H'))(hxs:xs=pre++x::post)(k:OW P n w0 F ops K I ((d,.bool true)::l) (p (pre++[x])::H')):OW P n w0 F ops K (o::I) l H:=fun a w ha hw=>by
 refine wpListIn_step fun K' hK'=>?_
 rw[aa (ha.wanted hg)]
 have hw1:=hw.perm (an hi)
 obtain⟨S,h1,h2,h3,h4,h5⟩:=hw1.focus
 obtain⟨f,tmps,assign,M,hy,hr⟩:=hY pre x post w S hxs h1 fun k hk=>(h2 k hk).1
 have Q:(execOp a.eval o).run P w=.ok (.round L f tmps assign M) w:=by
  simp[execOp,ho,resolve,Deferred.ofValue,invoke,Sem.run_bind,ha.ev Z,ha.ev hx,hy]
 refine⟨fun _ _=>trivial,?_⟩;rw[jg Q (by simp)]
 refine⟨(fun h=>by cases h),RoundIn.mono hr fun e w' he=>?_⟩
 obtain⟨rfl,hw'⟩:=he;show K' (a.put o.dst (.bool true)) w';rw[hd];exact hK' _ _ (k _ _ (ha.put hn _) (h5 _ _ hw'))
def Ag.mark{a:Act}(ha:Ag n l a)(M:n.mm=true)(fZ:lk l 9999=some (marks ds))(D:Nat):
  Ag n ((9999,marks (D::ds))::l) {a with defers:=[{target:=.collected D,args:= #[]}]++a.defers}:=by
 refine⟨ha.size,ha.small,fun h=>by rw[M] at h;(cases h),fun t v I=>?_⟩
 simp only[lk] at I;cases hb:Nat.beq 9999 t with
 |true=>
  rw[hb] at I;simp only[cond_true,Option.some.injEq] at I;have:=bj hb;subst this;subst I;show(∃Q,_/\_)\/_;exact .inl ⟨D::ds,rfl,by have:=ha.zE fZ;unfold FZ at this⊢;simp[this]⟩
 |false=>
  rw[hb] at I;have Z:=ha.at_ t v I;grind [Nat.eq_of_beq_eq_true,At]
def CW.range{g:Operand}{t:Nat}{assign body:Code}{gf:Nat}{aE:bi}{xs:bv}{lb:Env}{H1 H2:List HP}(ks:List Nat)(hk:pick l ks=some lb)(hno:lk lb 9999=none)(hm:n.mm=true)(hr:n.rd=none)(ht:Nat.blt t n.sz=true)(hf:Nm P gf)(hg:ev l g=some (.func (.func gf) #[] aE.toArray))(fZ:lk l 9999=some (marks ds))(i j:Nat)(hi:sel H i=some (p [],H1))(hj:sel H1 j=some (HP.marks ds,H2))(it:∀w S L q,HA w0 F H2 w->YF P L q xs->(q []).bA S w->(∀k,S k->k<w.heap.size/\¬F k)->ah w (fun k=>F k\/S k) H2->
   Calls P gf ((.func (.yield L) #[] #[]::aE).toArray) w (bK w (fun k=>k<w.heap.size/\¬S k) fun _ Hn=>Hn=[q xs]))(hb:∀L pre x M,xs=pre++x::M->∃l1,
   (∀W F',CW P ⟨n.sz,some L,false⟩ W F' assign (fun e l' H'=>e=.normal/\zZ l' l1/\H'=[p pre]) ((t,.int .i64 x)::lb) [p pre])/\
   (∀W F',CW P ⟨n.sz,some L,false⟩ W F' body (fun e l' H'=>e=.normal/\∃is,E.sels H' is=some [p (pre++[x])]) l1 [p pre]))(k:∀D,K .normal ((9999,marks (D::ds))::l) (HP.marks (D::ds)::p xs::H2)):CW P n w0 F (.rangeFunc g #[t] assign body) K l H:=fun a w ha hw=>by
 refine wpIn_rangeFunc fun fn hfn=>?_
 obtain⟨rec,I⟩:∃rec:LoopState->Loop,rec=fun st=>{state:=st,pending:=none,fn,tmps:=a.tmps,params:= #[t],assign,body,defers:=w.heap.size}:=⟨_,rfl⟩
 obtain⟨W1,hW1⟩:∃W1,(w.alloc (.deferred (some []))).alloc (.loop (rec .ready))=W1:=⟨_,rfl⟩
 obtain⟨q,hq⟩:∃q:bv->HP,q=fun pre=>HP.dj [HP.obj (w.heap.size+1) (.loop (rec .ready)),p pre]:=⟨_,rfl⟩
 have hsz:(w.alloc (.deferred (some []))).heap.size=w.heap.size+1:=by rw[World.size_alloc]
 have hA:HA w0 F (HP.obj (w.heap.size+1) (.loop (rec .ready))::HP.obj w.heap.size (.deferred (some []))::H) W1:=by
  rw[<-hW1,<-hsz];exact(hw.newObj _).newObj _
 have Q:HA w0 F (q []::HP.obj w.heap.size (.deferred (some []))::HP.marks ds::H2) W1:=by
  have h1:HA w0 F (HP.obj (w.heap.size+1) (.loop (rec .ready))::p []::HP.obj w.heap.size (.deferred (some []))::HP.marks ds::H2) W1:=by
   refine hA.perm (List.Perm.cons _ ?_);refine((((an hi).trans ((an hj).cons _)).cons _)).trans (List.Perm.swap _ _ _)
  rw[hq];exact{h1 with chunks:=ah.aX (ps:=[_,_]) h1.chunks}
 obtain⟨S,h1,h2,h3,h4,h5⟩:=Q.focus;have hH2:HA w0 F H2 W1:=Q.drop.drop.drop
 have hy:YF P (w.heap.size+1) q xs:=by
  intro pre x M v T hxs hs hlt;have e0:HA v (fun k=>k<v.heap.size/\¬T k) [q pre] v:=⟨rfl,rfl,rfl,bb _,fun _ hk=>hk.1,fun _ _=>rfl,T,hs,fun k hk=>⟨hlt k hk,fun hn=>hn.2 hk⟩,trivial⟩;rw[hq] at e0;have e1:HA v (fun k=>k<v.heap.size/\¬T k) (HP.obj (w.heap.size+1) (.loop (rec .ready))::p pre::[]) v:={e0 with chunks:=by simpa using e0.chunks.open}
  have hl:=e1.lH;have hy:=run_yield (P:=P) (args:= #[.int .i64 x]) hl (by rw[I];rfl)
  rw[I] at hy;refine⟨fn,_,assign,body,hy,roundIn_of_wpIn hfn ?_⟩;obtain⟨l1,ha1,hb1⟩:=hb (w.heap.size+1) pre x M hxs
  have hag:Ag ⟨n.sz,some (w.heap.size+1),false⟩ ((t,.int .i64 x)::lb) {tmps:=(#[t].zip #[Value.int .i64 x]).foldl (fun tm (t,a)=>tm.setIfInBounds t a) a.tmps,defers:=[]}:=by
   have hag0:Ag ⟨n.sz,some (w.heap.size+1),false⟩ lb {tmps:=a.tmps,defers:=[]}:=by
    refine⟨ha.size,ha.small,fun _=>rfl,fun s v hv=>?_⟩;have h1:=ha.at_ s v ((uh hk).lk s v hv);grind [At,Nat.eq_of_beq_eq_true]
   have:=hag0.put (d:=t) ht (.int .i64 x);simpa[Act.put] using this
  obtain⟨T2,t1,t2,t3,t4,t5⟩:=(e1.perm (List.Perm.swap _ _ _)).focus;refine wpIn_mono (ha1 _ _ _ _ hag t4) fun e a1 v1 ⟨l',H',g1,g2,g3,g4,g5⟩=>?_;subst g3;subst g5;have e2:=(t5 _ _ g2).perm (List.Perm.swap _ _ _);have hl2:=e2.lH;refine⟨_,run_beginRound hl2 (by rw[I]),?_⟩
  have e3:=e2.putObj (o':=.loop {rec .ready with state:=.busy})
  obtain⟨T3,u1,u2,u3,u4,u5⟩:=(e3.perm (List.Perm.swap _ _ _)).focus;refine wpIn_mono (hb1 _ _ _ _ (g1.ti g4) u4) fun e a2 v2 ⟨l2,H3,m1,m2,m3,is,m4⟩=>?_;subst m3;have e4:=(u5 _ _ (m2.sels m4)).perm (List.Perm.swap _ _ _);have hl3:=e4.lH;have Z:=run_endRound (P:=P) none hl3;refine⟨_,_,Z,rfl,?_⟩;have e5:=e4.putObj (o':=.loop {{rec .ready with state:=.busy} with state:=if(none:Option Code).isNone then .ready else .done,pending:=none})
  rw[hq];have:(Obj.loop {{rec .ready with state:=.busy} with state:=if(none:Option Code).isNone then .ready else .done,pending:=none})=.loop (rec .ready):=by rw[I];rfl
  rw[this] at e5⊢;exact{e5 with chunks:=ah.aX (ps:=[_,_]) e5.chunks}
 refine⟨w.heap.size+1,[{target:=.collected w.heap.size,args:= #[]}],W1,{target:=.fn (.func gf) aE.toArray,args:= #[.func (.yield (w.heap.size+1)) #[] #[]]},W1,gf,
  #[.func (.yield (w.heap.size+1)) #[] #[]]++aE.toArray,W1,?_,?_,fun _ _=>trivial,?_,(fun h=>by cases h),?_⟩
 ·grind [run_enterLoop_outer]
 ·have hev:=ha.ev hg;simp only[resolve,hev];simp[go_sem]
 ·obtain⟨gn,f1,f2,f3⟩:=hf;have hb:gn.body≠none:=by intro h;rw[h] at f2;cases f2
  have hn:gn.name≠ "runtime.NumGoroutine" :=by simpa using f3
  simp[invoke,callFunc,program,Sem.run,f1,hn,hb]
 have hc:=it W1 S (w.heap.size+1) q hH2 hy h1 h2 (by obtain⟨_,_,_,_,_,_,h6⟩:=h3;exact h6.mono fun k hk=>by rcases hk with hk|hk<;>simp[hk])
 have harr:(#[.func (.yield (w.heap.size+1)) #[] #[]]++aE.toArray:Array Value)=(.func (.yield (w.heap.size+1)) #[] #[]::aE).toArray:=by simp
 rw[harr];refine CallsIn.mono (qo hc) fun e w3 ⟨v,Hn,he,hR,hw3⟩=>?_;subst he;subst hR;have e6:=h5 _ _ hw3;rw[hq] at e6;have e7:HA w0 F (HP.obj (w.heap.size+1) (.loop (rec .ready))::p xs::HP.obj w.heap.size (.deferred (some []))::HP.marks ds::H2) w3:={e6 with chunks:=by simpa using e6.chunks.open}
 have hl4:=e7.lH;obtain⟨o4,ho4⟩:∃o4,o4=Obj.loop {rec .ready with state:=.exhausted}:=⟨_,rfl⟩
 have Z:(Instr.endLoop (w.heap.size+1)).run P w3=.ok none (w3.putObj (w.heap.size+1) o4):=by
  grind [run_endLoop]
 refine⟨none,_,Z,?_⟩;have e8:=(e7.putObj (o':=o4)).drop;refine⟨_,_,ha.mark hm fZ w.heap.size,?_,k w.heap.size⟩;have e9:=e8.perm ((List.Perm.swap _ _ _).trans ((List.Perm.swap _ _ _).cons _));exact{e9 with chunks:=ah.mB e9.chunks}
def yH{R:Ending->World->Prop}{tmps:Array Value}{Hn:List HP}:
  ∀(ds:List Nat) (w:World),HA w0 F (HP.marks ds::Hn) w->(∀w,HA w0 F Hn w->∃v,(results fn tmps).run P w=.ok v w/\R (.returned v) w)->
   LeavesInM Fence.wide 0 P fn tmps R (ds.map fun d=>{target:=.collected d,args:= #[]}) .returning w:=by
 intro ds;induction ds with
 |nil=>
  intro w I M;exact M w I.drop
 |cons d ds Z=>
  intro w I M;have Q:HA w0 F (HP.obj d (.deferred (some []))::HP.marks ds::Hn) w:={I with chunks:=I.chunks.tG}
  exact⟨by simp,.inl ⟨d,_,rfl,run_takeDeferred Q.lH,Z _ (Q.putObj (o':=.deferred none)).drop M⟩⟩
def yS(P:Program)(fn:Func)(n:Fr)(w0:World)(F:Nat->Prop)(R:Value->List HP->Prop):Kt
 |.ret,l,H|.normal,l,H=>∃v Hn is ds,lk l 9999=some (marks ds)/\(∀a w,Ag n l a->HA w0 F Hn w->(results fn a.tmps).run P w=.ok v w)/\sels H is=some (HP.marks ds::Hn)/\R v Hn
 |_,_,_=>False
def uU{f:Nat}{m:Nat}{c:Code}{vs:bi}(hf:P.funcs[f]? =some fn)(Z:fn.ntmps=m)(hb:fn.body=some c)(hs:Nat.ble vs.length m=true)(M:HA w0 F H w0)(h:CW P ⟨m,none,true⟩ w0 F c (yS P fn ⟨m,none,true⟩ w0 F R) ((9999,marks [])::ini 0 vs) (HP.marks []::H))(hsz:Nat.ble m 9999=true:=by rfl):Calls P f vs.toArray w0 (bK w0 F R):=by
 subst Z;have hs':vs.length<=fn.ntmps:=dX hs;have Q:fn.ntmps<=9999:=dX hsz;refine callsIn_wide.1 (callsIn_of_wp_marks (F:=Fence.wide) (n:=0) hf hb trivial (wpIn_mono (h {tmps:=vs.toArray++Array.replicate (fn.ntmps-vs.toArray.size) undef,defers:=[]} w0 ⟨by simp;omega,Q,(fun h=>by cases h),fun t v ht=>?_⟩ {M with chunks:=M.chunks.oV}) fun e a w ⟨l,H',ha,I,hk⟩=>?_))
 ·simp only[lk] at ht;cases hb9:Nat.beq 9999 t with
  |true=>
   rw[hb9] at ht;have:=bj hb9;subst this;simp only[cond_true,Option.some.injEq] at ht;exact .inl ⟨[],ht.symm,rfl⟩
  |false=>
   rw[hb9] at ht;obtain⟨_,h2⟩:=uB vs 0 t v ht;grind [Nat.eq_of_beq_eq_true,At]
 have fin:∀l H',Ag ⟨fn.ntmps,none,true⟩ l a->HA w0 F H' w->(∃v Hn is ds,lk l 9999=some (marks ds)/\(∀a w,Ag ⟨fn.ntmps,none,true⟩ l a->HA w0 F Hn w->(results fn a.tmps).run P w=.ok v w)/\sels H' is=some (HP.marks ds::Hn)/\R v Hn)->
   LeavesInM Fence.wide 0 P fn a.tmps (bK w0 F R) a.defers .returning w:=by
  intro l H' ha I ⟨v,Hn,is,ds,h0,h1,h2,h3⟩;have hd:a.defers=_:=ha.zE h0;rw[hd];exact yH ds w (I.sels h2) fun w M=>⟨v,h1 a w ha M,v,Hn,rfl,h3,M⟩
 cases e with
 |normal=>exact fin l H' ha I hk
 |ret=>exact fin l H' ha I hk
 |exit i=>exact hk.elim
 |goto i=>exact hk.elim
 |panic c=>exact hk.elim
 |outgrown=>exact hk.elim
def yS.one{Hn:List HP}{t:Nat}{v:Value}(is:List Nat)(fZ:lk l 9999=some (marks ds))(I:fn.results= #[.tmp t])(M:lr l t=some v)(hs:sels H is=some (HP.marks ds::Hn))(Q:R v Hn):yS P fn n w0 F R .ret l H:=
 ⟨v,Hn,is,ds,fZ,fun a w ha _=>by
  rw[results_tmp I]
  have:=ha.get t v M
  simp_all,hs,Q⟩
end
end E
namespace E
def KRD(P:Program)(I:Func)(n:Fr)(w0:World)(F:Nat->Prop)(R:Value->List HP->Prop):Kt
 |.ret,l,H|.normal,l,H=>∃g cap,lk l 9999=some (.func (.func g) #[] cap)/\Nm P g/\∀a w,Ag n l a->HA w0 F H w->CallsDIn Fence.wide 0 P g cap .returning w fun e u w'=>∃r,e=.returned r/\settle u=.returning/\∃v Hn,(results I a.tmps).run P w'=.ok v w'/\R v Hn/\HA w0 F Hn w'
 |.panic c,l,H=>∃g cap,lk l 9999=some (.func (.func g) #[] cap)/\Nm P g/\∀a w,Ag n l a->HA w0 F H w->CallsDIn Fence.wide 0 P g cap (.panicking c) w fun e u w'=>∃r,e=.returned r/\settle u=.returning/\∃v Hn,(results I a.tmps).run P w'=.ok v w'/\R v Hn/\HA w0 F Hn w'
 |_,_,_=>False
section
def XH{g:Nat}(hg:Nm P g){cap:Array Value}{w:World}:(invoke (.fn (.func g) cap) #[]).run P w=.ok (.enter g cap) w:=by
 obtain⟨fn,M,I,Z⟩:=hg;have hb:fn.body≠none:=by intro h;rw[h] at I;cases I
 have hn:fn.name≠ "runtime.NumGoroutine" :=by simpa using Z
 simp[invoke,callFunc,program,Sem.run,M,hn,hb]
variable {c:Code}{vs:bi}
def xw{f:Nat}{I:Func}{m:Nat}{R:Value->List HP->Prop}(hf:P.funcs[f]? =some I)(hnt:I.ntmps=m)(hb:I.body=some c)(hs:Nat.ble vs.length m=true)(hw:HA w0 F H w0)(h:CW P ⟨m,none,true⟩ w0 F c (KRD P I ⟨m,none,true⟩ w0 F R) ((9999,marks [])::ini 0 vs) H)(hsz:Nat.ble m 9999=true:=by rfl):Calls P f vs.toArray w0 (bK w0 F R):=by
 subst hnt;have hs':vs.length<=I.ntmps:=dX hs;have hsz':I.ntmps<=9999:=dX hsz;refine callsIn_wide.1 (callsIn_of_wp_defers (F:=Fence.wide) (n:=0) hf hb trivial (wpIn_mono (h {tmps:=vs.toArray++Array.replicate (I.ntmps-vs.toArray.size) undef,defers:=[]} w0 ⟨by simp;omega,hsz',(fun h=>by cases h),fun t v ht=>?_⟩ hw) fun e a w ⟨l,H',ha,M,hk⟩=>?_))
 ·simp only[lk] at ht;cases hb9:Nat.beq 9999 t with
  |true=>
   rw[hb9] at ht;have:=bj hb9;subst this;simp only[cond_true,Option.some.injEq] at ht;exact .inl ⟨[],ht.symm,rfl⟩
  |false=>
   rw[hb9] at ht;obtain⟨_,h2⟩:=uB vs 0 t v ht;simp only[mY] at h2
   have hlt:t<vs.length:=by
    rcases dd t vs.length with h|h
    ·exact h
    rw[fH h] at h2;cases h2
   have hne:Nat.beq t 9999=false:=by
    cases hb:Nat.beq t 9999 with
    |true=>have:=bj hb;omega
    |false=>rfl
   unfold At;rw[hne,cond_false,qG (by simpa using hlt)]
   simpa using h2
 have fin:∀u:FrameMode,u≠ .run->∀g cap,lk l 9999=some (.func (.func g) #[] cap)->Nm P g->
   CallsDIn Fence.wide 0 P g cap u w (fun e u w'=>∃r,e=.returned r/\settle u=.returning/\∃v Hn,(results I a.tmps).run P w'=.ok v w'/\R v Hn/\HA w0 F Hn w')->LeavesIn Fence.wide 0 P I a.tmps (bK w0 F R) a.defers u w:=by
  intro u hu g cap Z hg hc;rw[ha.dfr Z];refine leavesIn_cons hu (fun h=>by cases h) (XH hg) (fun _ _=>trivial) (hc.mono fun e u' w' ⟨r,he,hse,v,Hn,hv,hR,hw2⟩=>?_)
  subst he;show LeavesIn Fence.wide 0 P I a.tmps (bK w0 F R) [] (settle u') w';rw[hse];exact⟨v,hv,v,Hn,rfl,hR,hw2⟩
 cases e with
 |normal=>obtain⟨g,cap,Z,hg,hc⟩:=hk;exact fin _ (by simp) g cap Z hg (hc a w ha M)
 |ret=>obtain⟨g,cap,Z,hg,hc⟩:=hk;exact fin _ (by simp) g cap Z hg (hc a w ha M)
 |panic c=>obtain⟨g,cap,Z,hg,hc⟩:=hk;exact fin _ (by simp) g cap Z hg (hc a w ha M)
 |exit i=>exact hk.elim
 |goto i=>exact hk.elim
 |outgrown=>exact hk.elim
theorem OW.defer{ops:Array Oper}{o:Oper}{I:List Oper}{fo:Operand}{ts:Array TypeId}{fv:Fn}{cap:Array Value}(hm:n.mm=true)(hr:n.rd=none)(hg:gd ops l o.guard=some true)(hd:o.dst=none)
  (ho:o.op=.defer {callee:=.value fo,args:= #[],argTypes:=ts}) (hfo:ev l fo=some (.func fv #[] cap)) (fZ:lk l 9999=some (marks []))
  (k:OW P n w0 F ops K I ((9999,.func fv #[] cap)::l) H):OW P n w0 F ops K (o::I) l H:=fun a w ha hw=>by
 refine wpListIn_step fun K' hK'=>?_
 rw[aa (ha.wanted hg)]
 refine⟨fun _ _=>trivial,?_⟩
 have Z:(execOp a.eval o).run P w=.ok (.defer {target:=.fn fv cap,args:= #[]}) w:=by
  simp[execOp,ho,resolve,Deferred.ofValue,Sem.run_bind,ha.ev hfo]
 have h2:n.fe.round=none:=hr;rw[h2,Oper.semAt_none,Z];refine hK' _ _ (k _ _ ?_ hw);rw[hd];have h0:a.defers=[]:=ha.zE fZ;refine⟨ha.size,ha.small,fun h=>by rw[hm] at h;(cases h),fun t v M=>?_⟩
 simp only[lk] at M;cases hb:Nat.beq 9999 t with
 |true=>
  rw[hb] at M;simp only[cond_true,Option.some.injEq] at M;have:=bj hb;subst this;subst M;show(∃es,_/\_)\/_;exact .inr ⟨fv,cap,rfl,by show _::a.defers=_;rw[h0]⟩
 |false=>
  rw[hb] at M;have Z:=ha.at_ t v M
  have hne:Nat.beq t 9999=false:=by
   cases h:Nat.beq t 9999 with
   |true=>have:=bj h;subst this;simp at hb
   |false=>rfl
  unfold At at Z⊢;rw[hne] at Z⊢;exact Z
def recM:FrameMode->Value×FrameMode
 |.panicking ({v,recovered:=false,goexit:=false}::I)=>(v,.panicking ({v,recovered:=true}::I))
 |u=>(.nilIface,u)
def adH(c:Frame)(cs:List Frame):(∃v u,recoverD (c::cs)=some (v,{c with mode:=u}::cs)/\recM c.mode=(v,u))\/(recoverD (c::cs)=none/\recM c.mode=(.nilIface,c.mode)):=by
 unfold recoverD recM;grind
def wb{P:Program}{ops:Array Oper}{Q I:Exit->Act->List Frame->World->Prop}(M:∀e a cs w,Q e a cs w->I e a cs w):∀(is:List Nat) (a:Act) (cs:List Frame) (w:World),wpOpsSIn Fence.wide 0 P ops Q is a cs w->wpOpsSIn Fence.wide 0 P ops I is a cs w:=by
 intro is;induction is with
 |nil=>intro a cs w h;exact M _ _ _ _ h
 |cons i is Z=>
  intro a cs w h;unfold wpOpsSIn at h⊢;split
  ·rename_i ho;rw[ho] at h;exact Z _ _ _ h
  grind
def SW(P:Program)(n:Fr)(w0:World)(F:Nat->Prop)(ops:Array Oper)(Q:Exit->Act->List Frame->World->Prop)(cs:List Frame)(is:List Nat)(l:Env)(H:List HP):Prop:=
 ∀a w,Ag n l a->HA w0 F H w->wpOpsSIn Fence.wide 0 P ops Q is a cs w
variable{ops:Array Oper}{Q:Exit->Act->List Frame->World->Prop}{cs:List Frame}{is:List Nat}
variable {R:List HP->Prop}{d i:Nat}{o:Oper}{u':FrameMode}
theorem SW.step(hi:ops[i]? =some o)(hg:gd ops l o.guard=some true)(hd:o.dst=some d)(M:Nat.blt d n.sz=true)(R:Value->List HP->Prop)(h:∀a w,Ag n l a->HA w0 F H w->∃v w' H',(execOp a.eval o).run P w=.ok (.value v) w'/\R v H'/\HA w0 F H' w')(k:∀v H',R v H'->SW P n w0 F ops Q cs is ((d,v)::l) H'):SW P n w0 F ops Q cs (i::is) l H:=fun a w ha Z=>by
 obtain⟨v,w',H',hr,hR,I⟩:=h a w ha Z
 unfold wpOpsSIn
 rw[hi]
 refine⟨fun _ _=>trivial,?_⟩
 rw[aa (ha.wanted hg),hr,hd]
 exact k v H' hR _ _ (ha.put M v) I
def SW.pure{v:Value}(hi:ops[i]? =some o)(hg:gd ops l o.guard=some true)(hd:o.dst=some d)(M:Nat.blt d n.sz=true)(h:PV P n w0 F l H o v)(k:SW P n w0 F ops Q cs is ((d,v)::l) H):SW P n w0 F ops Q cs (i::is) l H:=
 SW.step hi hg hd M (fun u H'=>u=v/\H'=H) (fun a w ha I=>⟨v,w,H,h a w ha I,⟨rfl,rfl⟩,I⟩) (fun _ _ ⟨Z,h2⟩=>by subst Z h2;exact k)
def SW.act(hi:ops[i]? =some o)(hg:gd ops l o.guard=some true)(hd:o.dst=none){H':List HP}(h:∀a w,Ag n l a->HA w0 F H w->∃w',(execOp a.eval o).run P w=.ok .skip w'/\HA w0 F H' w')(k:SW P n w0 F ops Q cs is l H'):SW P n w0 F ops Q cs (i::is) l H:=fun a w ha M=>by
 obtain⟨w',Z,I⟩:=h a w ha M
 unfold wpOpsSIn
 rw[hi]
 refine⟨fun _ _=>trivial,?_⟩
 rw[aa (ha.wanted hg),Z,hd]
 exact k _ _ (ha.lW _) I
def SW.rec{c:Frame}{cs:List Frame}{ts:Array TypeId}(hi:ops[i]? =some o)(hg:gd ops l o.guard=some true)(hd:o.dst=some d)(Z:Nat.blt d n.sz=true)(ho:o.op=.call {callee:=.builtin .recover,args:= #[],argTypes:=ts})(k:SW P n w0 F ops Q ({c with mode:=(recM c.mode).2}::cs) is ((d,(recM c.mode).1)::l) H):SW P n w0 F ops Q (c::cs) (i::is) l H:=fun a w ha hw=>by
 unfold wpOpsSIn
 rw[hi]
 refine⟨fun _ _=>trivial,?_⟩
 have h1:(execOp a.eval o).run P w=.ok .recover w:=by simp[execOp,ho,resolve,Deferred.ofValue,invoke,Sem.run_bind,go_sem]
 rw[aa (ha.wanted hg),h1,hd]
 rcases adH c cs with⟨v,u,I,M⟩|⟨I,M⟩
 ·simp only[I]
  rw[M] at k
  exact k _ _ (ha.put Z _) hw
 ·simp only[I]
  rw[M] at k
  exact k _ _ (ha.put Z _) hw
theorem SW.alloc{i:Nat}{o:Oper}{d:Nat}{t:TypeId}{z:Value}{I:bi}(M:Zr P t z)(hi:ops[i]? =some o)(ho:o.op=.alloc t)(hg:gd ops l o.guard=some true)(hd:o.dst=some d)(Z:Nat.blt d n.sz=true)
  (hc:z.cells=I.toArray) (k:∀B,SW P n w0 F ops Q cs is ((d,.pointer (some ⟨B,0,none⟩))::l) (HP.aw B t I::H)):SW P n w0 F ops Q cs (i::is) l H:=
 SW.step hi hg hd Z (fun v H'=>∃B,v=.pointer (some ⟨B,0,none⟩)/\H'=HP.aw B t I::H)
  (fun a w ha hw=>⟨_,w.alloc (.cells I.toArray t),_,by simp[execOp,ho,Instr.alloc,M w,newVar,newRow,newObj,Sem.run,hc],⟨w.heap.size,rfl,rfl⟩,hw.new _ ah.zU⟩)
  (fun v H' ⟨B,hv,hH⟩=>by subst hv hH;exact k B)
theorem SW.store{i0:Nat}{t:TypeId}{x y:Operand}{B T j:Nat}{v:Value}{I M:bi}{H':List HP}(hi0:ops[i0]? =some o)(hsz:∀w,(sizeOf t).run P w=.ok vs.length w)(ho:o.op=.store t x y)(hg:gd ops l o.guard=some true)(hd:o.dst=none)(hx:ev l x=some (.pointer (some ⟨B,j,none⟩)))(hy:ev l y=some v)(hc:v.cells=vs.toArray)(h1:vs.all (·.oneCell')=true)(hi:sel H i=some (HP.aw B T I,H'))(hw':wr I j vs=some M)(k:SW P n w0 F ops Q cs is l (HP.aw B T M::H')):SW P n w0 F ops Q cs (i0::is) l H:=
 SW.act hi0 hg hd (fun a w ha hw=>by
  have hb:=hw.aw hi
  obtain⟨h2,h3⟩:=pH hw'
  have Z:=run_storeCells_at P B j T vs 0 I.toArray w hb (by simpa using h2) (fun v hv=>by simpa using(aJ.1 h1) v hv)
  refine⟨w.setRow B M.toArray,?_,(hw.sel hi).setRow⟩
  subst h3
  simp[execOp,ho,ha.ev hx,ha.ev hy,Instr.storeAt,Instr.sureAddr,storeVar,hc,hsz w]
  simp at Z
  rw[Z]
  rfl) k
def KS(R:List HP->Prop):Kt
 |.ret,_,H|.normal,_,H=>∃is Hn,sels H is=some Hn/\R Hn
 |_,_,_=>False
def SQ(P:Program)(n:Fr)(w0:World)(F:Nat->Prop)(c:Code)(R:List HP->Prop)(u':FrameMode)(M:Frame)(cs:List Frame):Exit->Act->List Frame->World->Prop:=
 fun e a I w=>e=.normal/\I={M with mode:=u'}::cs/\∃l H,Ag n l a/\HA w0 F H w/\CW P n w0 F c (KS R) l H
def SW.done{I:Frame}(h:CW P n w0 F c (KS R) l H):SW P n w0 F ops (SQ P n w0 F c R u' I cs) ({I with mode:=u'}::cs) [] l H:=
 fun a w ha M=>⟨rfl,rfl,l,H,ha,M,h⟩
def gz{f:Nat}{I:Func}{m id:Nat}{u:FrameMode}(hf:P.funcs[f]? =some I)(hnt:I.ntmps=m)(hb:I.body=some (.seq (.region id ops false) c))(hr:I.results= #[])(hs:Nat.ble vs.length m=true)(hw:HA w0 F H w0)(h:∀M cs,M.mode=u->SW P ⟨m,none,false⟩ w0 F ops (SQ P ⟨m,none,false⟩ w0 F c R u' M cs) (M::cs) (List.range ops.size) (ini 0 vs) H)(hsz:Nat.ble m 9999=true:=by rfl):
  CallsDIn Fence.wide 0 P f vs.toArray u w0 fun e u2 w'=>e=.returned (.tuple #[])/\u2=u'/\∃Hn,R Hn/\HA w0 F Hn w':=by
 subst hnt;have hs':vs.length<=I.ntmps:=dX hs;have hsz':I.ntmps<=9999:=dX hsz;refine callsDIn_of_wpSIn hf hb trivial fun M cs hu=>wpSIn_seq (wpSIn_region ?_);have h1:=h M cs hu {tmps:=vs.toArray++Array.replicate (I.ntmps-vs.toArray.size) undef,defers:=[]} w0 ⟨by simp;omega,hsz',fun _=>rfl,fun t v ht=>?_⟩ hw
 ·refine wb (fun e a cs' w ⟨he,wj,l,H',ha,Z,hc⟩=>?_) _ _ _ _ h1;subst he wj;refine wpSIn_of_wpIn rfl (wpIn_mono (hc a w ha Z) fun e a w ⟨l,H',ha,Z,hk⟩=>?_)
  have fin:(∃is Hn,sels H' is=some Hn/\R Hn)->a.defers=[]/\∃u2,({M with mode:=u'}::cs:List Frame)={M with mode:=u2}::cs/\∃v,(results I a.tmps).run P w=.ok v w/\(Ending.returned v=.returned (.tuple #[])/\u2=u'/\∃Hn,R Hn/\HA w0 F Hn w):=by
   intro⟨is,Hn,h2,h3⟩;exact⟨ha.defers rfl,u',rfl,_,results_none hr _ _ _,rfl,rfl,Hn,h3,Z.sels h2⟩
  cases e with
  |normal=>exact fin hk
  |ret=>exact fin hk
  |exit i=>exact hk.elim
  |goto i=>exact hk.elim
  |panic c=>exact hk.elim
  |outgrown=>exact hk.elim
 obtain⟨_,h2⟩:=uB vs 0 t v ht;simp only[mY] at h2
 have hlt:t<vs.length:=by
  rcases dd t vs.length with h|h
  ·exact h
  rw[fH h] at h2;cases h2
 have hne:Nat.beq t 9999=false:=by
  cases hb:Nat.beq t 9999 with
  |true=>have:=bj hb;omega
  |false=>rfl
 unfold At;rw[hne,cond_false,qG (by simpa using hlt)]
 simpa using h2
end
end E
namespace E
section
variable{o:Oper}
variable {A:am}{B Et bytes c d e i k kt m t:Nat}{D:List (Lit×DataW Unit)}{ops:Array Oper}{p:Int}{rest:List Oper}{x y:Operand}
theorem PV.cap{t:TypeId}(I:P.underlying t=some (.slice (P.elem t)))(ho:o.op=.call {callee:=.builtin .cap,args:= #[x],argTypes:= #[t]})(M:ev l x=some (.slice A m c)):
  PV P n w0 F l H o (.int .i64 c):=fun a w ha _=>by
 simp[execOp,ho,resolve,invoke,builtin,ha.ev M,run_cap_slice w t o.type A m c I,goInt]
theorem PV.makeFunc{f:Fn}{I cs:List Operand}{us vs:bi}(ho:o.op=.makeFunc f I.toArray cs.toArray)(M:evs l I=some us)(Q:evs l cs=some vs):PV P n w0 F l H o (.func f us.toArray vs.toArray):=fun a w ha _=>by
 have Z:=ha.evs M
 have e2:=ha.evs Q
 simp[execOp,ho,Instr.makeFunc,Z,e2]
variable {H':List HP}
def HA.dq{w:World}(h:HA w0 F H w){T:Nat}{cs:bi}(hi:E.sel H i=some (HP.aw B T cs,H')):Rd w (Old w) (some ⟨B,0,.none⟩) cs:=fun Z=>by
 have M:=h.aw hi
 refine⟨_,rfl,(ij.1 M).1,fun j u Q=>?_⟩
 have I:(⟨B,0,.none⟩:Addr).add j=⟨B,j,.none⟩:=by unfold Addr.add;split<;>simp_all
 rw[I,cell_of_row w B j _ T (0,0) M]
 simpa using Q
def ah.ON{w:World}{sz:Nat}{cur:Array Value}(hl:cur.size=c*sz)(I:m<=c)(hc:c<=maxLen):
  ah (w.alloc (.cells cur Et)) (fun k=>k<w.heap.size) [HP.row Et sz (some ⟨w.heap.size,0,none⟩) m c (cur.toList.take (m*sz))]:=
 ⟨fun k=>k=w.heap.size,⟨fun k=>by simp[Value.ownBlock,eq_comm],by simp_all,
  .inr ⟨w.heap.size,c,cur,rfl,bF _,heap_alloc_new w _,I,hc,hl,rfl⟩⟩,fun k hk=>by subst hk;simp,trivial⟩
def OW.J5{tn:Nat}{s:Operand}{z:Value}{zs:bi}(m:Nat)(hT:P.underlying t=some (.slice Et))(M:P.underlying tn=some (.int .i64))(hI:In P Et z 1 bytes)(hz:z.cells=zs.toArray)(hzl:zs.length=1)(ho:o.op=.call {callee:=.builtin .append,args:= #[s,x],argTypes:= #[t,tn]})(hg:gd ops l o.guard=some true)(hd:o.dst=some d)(hn:Nat.blt d n.sz=true)(hs:ev l s=some (.slice none 0 0))(hx:ev l x=some (.int .i64 (m:Int)))(hm:0<m)(Q:m<=maxLen)(hb:m*bytes<=281474976710656)(k:∀A c xs,OW P n w0 F ops K rest ((d,.slice A m c)::l) (HP.row Et 1 A m c xs::H)):OW P n w0 F ops K (o::rest) l H:=
 OW.step hg hd hn (fun v H'=>∃A c xs,v=.slice A m c/\H'=HP.row Et 1 A m c xs::H)
  (fun a w ha hw=>by
   obtain⟨inf,I,Z,hz1,hz2⟩:=hI.parts
   have hr:=Lib.run_append_nil_zeros (P:=P) w t tn o.type Et inf z .i64 .i64 hT M I Z m hm K1 (by unfold maxLen at Q;omega) (by rw[hz2];exact hb)
   have hge:=grownCap_ge w m 0 Et
   refine⟨_,w.drew.alloc (.cells (Builtin.zeroCells z.cells m++Builtin.zeroCells z.cells (grownCap w m 0 Et-m)) Et),_,by simp[execOp,ho,resolve,invoke,builtin,ha.ev hs,ha.ev hx,hr],⟨_,_,_,rfl,rfl⟩,(hw.drew).new _ (ah.ON (sz:=1) (m:=m) (c:=grownCap w m 0 Et) ?_ hge ?_)⟩
   ·grind [Builtin.zeroCells]
   grind [grownCap_le_maxLen])
  (fun v H' ⟨A,c,xs,hv,hH⟩=>by grind)
def OW.cut{sz h:Nat}{z:Value}{xs:bi}(hT:P.underlying t=some (.slice Et))(hI:In P Et z sz bytes)(ho:o.op=.slice t x none (some y) none)(hg:gd ops l o.guard=some true)(hd:o.dst=some d)(hn:Nat.blt d n.sz=true)(hx:ev l x=some (.slice A m c))(hy:ev l y=some (.int .i64 (h:Int)))(hi:sel H i=some (HP.row Et sz A m c xs,H'))(hle:h<=m)(k:OW P n w0 F ops K rest ((d,.slice A h c)::l) (HP.row Et sz A h c (xs.take (h*sz))::H')):OW P n w0 F ops K (o::rest) l H:=
 OW.step hg hd hn (fun v H1=>v=.slice A h c/\H1=HP.row Et sz A h c (xs.take (h*sz))::H')
  (fun a w ha hw=>by
   obtain⟨inf,M,hz0,hz1,hz2⟩:=hI.parts
   have I:P.elem t=Et:=by simp[Program.elem,hT]
   have Q:=hw.row hi
   have hmc:m<=c:=by
    rcases Q.2 with⟨Z,hm⟩|⟨g,cap,cur,Z,_,_,hnc,_⟩
    ·subst hm;omega
    grind
   have hr:=run_slice_h (P:=P) w t A m c (by rw[I];exact hT) .i64 (h:Int) K1 K1
   rw[I] at hr;have hsa:=run_sliceAt_slice (P:=P) w t (.slice A m c) none (some (.int .i64 (h:Int))) none (by rw[I];exact hT)
   have hval:sliced A 0 h c sz=.slice A h c:=by
    unfold sliced;congr 1;cases A<;>simp[Addr.add]
   refine⟨_,w,_,by simp[execOp,ho,ha.ev hx,ha.ev hy,hsa,hr,sizeOf,typeInfo,M,hz1,Result.andThen,hval],⟨rfl,rfl⟩,?_⟩
   have h1:=hw.sel hi;refine{h1 with chunks:=?_}
   obtain⟨S,⟨g1,g2⟩,g3,g4⟩:=h1.chunks;refine⟨S,⟨fun q=>by rw[g1 q];cases A<;>simp[Value.ownBlock],?_⟩,g3,g4⟩
   refine⟨by rw[cf,g2.1];simp_all,?_⟩
   rcases g2.2 with⟨Z,hm⟩|⟨g,cap,cur,Z,hb,hgg,hnc,hcap,wj,htk⟩
   ·grind
   grind [Nat.mul_le_mul_right])
  (fun v H1 ⟨Z,hH⟩=>by subst Z hH;exact k)
def Gl(h: -9223372036854775808<=p/\p<=9223372036854775807):(Lit.int .i64 p).wf=true:=by
 grind [Lit.wf,IntKind.min,IntKind.max,IntKind.signed,IntKind.bits]
def wf_wrap(p:Int):(Lit.int .i64 (IntKind.i64.wrap p)).wf=true:=Gl (by rw[IntKind.wrap_i64];omega)
def HP.map(P:Program)(k e B m:Nat)(D:List (Lit×DataW Unit)):HP where
 bA S w:=(∀q,S q↔q=B)/\w.ownsMap P k (plainElem P e) B m (DataW.map D)
 loc:=fun _ _ _ h ⟨M,Q,I,Z,r⟩=>⟨M,Q,I,by rw[h B ((M B).2 rfl)];exact Z,r⟩
theorem OW.makeMap(ho:o.op=.makeMap t none)(hg:gd ops l o.guard=some true)(hd:o.dst=some d)(I:Nat.blt d n.sz=true)(k:∀B,OW P n w0 F ops K rest ((d,.map (some B))::l) (HP.map P kt e B 0 []::H)):OW P n w0 F ops K (o::rest) l H:=
 OW.step hg hd I (fun v H'=>∃B,v=.map (some B)/\H'=HP.map P kt e B 0 []::H)
  (fun a w ha M=>⟨_,w.alloc (.map #[] 0),_,by simp[execOp,ho,run_makeMap],⟨w.heap.size,rfl,rfl⟩,
   M.new (.map #[] 0) (Hn:=[HP.map P kt e w.heap.size 0 []]) ⟨fun k=>k=w.heap.size,⟨fun _=>Iff.rfl,World.ownsMap_made w P kt _⟩,fun k hk=>by subst hk;simp,trivial⟩⟩)
  (fun v H' ⟨B,Q,Z⟩=>by subst Q Z;exact k B)
theorem HA.map{w:World}(h:HA w0 F H w){i kt e B m:Nat}{D:List (Lit×DataW Unit)}{H':List HP}(hi:E.sel H i=some (HP.map P kt e B m D,H')):w.ownsMap P kt (plainElem P e) B m (DataW.map D):=by
 obtain⟨S,I,_⟩:=(h.sel hi).chunks;exact I.2
theorem OW.lookup(hT:P.underlying t=some (.map kt e))(I:P.underlying kt=some (.int .i64))(he:P.underlying e=some (.int .i64))(hI:In P e (.int .i64 0) 1 bytes)(ho:o.op=.lookup t x y false)(hg:gd ops l o.guard=some true)(hd:o.dst=some d)(hn:Nat.blt d n.sz=true)(hx:ev l x=some (.map (some B)))(hy:ev l y=some (.int .i64 p))(hp:(Lit.int .i64 p).wf=true)(hi:sel H i=some (HP.map P kt e B m D,H'))(k:∀c:Int,OW P n w0 F ops K rest ((d,.int .i64 c)::l) H):OW P n w0 F ops K (o::rest) l H:=
 OW.step hg hd hn (fun v Q=>∃c:Int,v=.int .i64 c/\Q=H)
  (fun a w ha Z=>by
   obtain⟨c,M,_,_⟩:=(Z.map hi).lookup_int (Maps.int_keyed I) hT he (hI.zr w) (Maps.keyOf_int_mk I hp)
   exact⟨.int .i64 c,w,H,by simp[execOp,ho,ha.ev hx,ha.ev hy,M],⟨c,rfl,rfl⟩,Z⟩)
  (fun v Q ⟨c,hv,hH⟩=>by subst hv hH;exact k c)
theorem OW.mapUpdate{u:Operand}{c:Int}(hT:P.underlying t=some (.map kt e))(M:P.underlying kt=some (.int .i64))(he:P.underlying e=some (.int .i64))(ho:o.op=.mapUpdate t x y u)(hg:gd ops l o.guard=some true)(hd:o.dst=none)(hx:ev l x=some (.map (some B)))(hy:ev l y=some (.int .i64 p))(hu:ev l u=some (.int .i64 c))(hp:(Lit.int .i64 p).wf=true)(hc:(Lit.int .i64 c).wf=true)(hm:m<maxLen)(hi:sel H i=some (HP.map P kt e B m D,H'))(k:OW P n w0 F ops K rest l (HP.map P kt e B (m+1) (ChangeMaps.putKey (.int .i64 p) (.lit (.int .i64 c)) D)::H')):OW P n w0 F ops K (o::rest) l H:=
 OW.act hg hd (fun a w ha hw=>by
  obtain⟨w',Q,h1,I⟩:=(hw.map hi).update (Maps.int_keyed M) hT hm (Maps.keyOf_int_mk M hp) (plainElem_int he hc)
  refine⟨w',by simp[execOp,ho,ha.ev hx,ha.ev hy,ha.ev hu,Q,Result.andThen],?_⟩
  refine(hw.sel hi).write (Hn:=[HP.map P kt e B (m+1) (ChangeMaps.putKey (.int .i64 p) (.lit (.int .i64 c)) D)]) fun S hS hB=>⟨I.os,I.tape,I.output,I.size,fun q Z hn=>I.block q Z (fun e=>hn ((hS.1 q).2 (by injection e))),S,⟨hS.1,?_⟩,fun q Z=>⟨br (hB q Z).1 I.size,fun hh=>hh.2 Z⟩,trivial⟩
  rw[<-DataW.put_eq]
  exact h1) k
def PV.aak(Z:P.underlying t=some (.map kt e))(ho:o.op=.call {callee:=.builtin .len,args:= #[x],argTypes:= #[t]})(hx:ev l x=some (.map (some B)))(hi:sel H i=some (HP.map P kt e B m D,H')):PV P n w0 F l H o (.int .i64 D.length):=fun a w ha hw=>by
 obtain⟨Q,I,hb,_,_,M⟩:=hw.map hi
 have hk:P.underlying t=some (.map (P.mapKeyOf t) (P.mapElemOf t)):=by simp[Program.mapKeyOf,Program.mapElemOf,Z]
 have hr:=run_len_map (P:=P) (w:=w) t o.type B Q I hk hb
 have hl:D.length=Q.size:=by
  injection M with M
  rw[M,length_sorted];simp
 simp[execOp,ho,resolve,invoke,builtin,ha.ev hx,hr,goInt,hl]
def pairs:List (Int×Int)->bi
 |[]=>[]
 |p::r=>.int .i64 p.1:: .int .i64 p.2::pairs r
@[simp] theorem Um (l:List (Int×Int)):(pairs l).length=l.length*2:=by
 induction l with
 |nil=>rfl
 |cons p r I=>simp only[pairs,bI,I];omega
def IF:∀{l:List (Int×Int)} {k:Nat},k<l.length->(pairs l)[k*2]? =some (.int .i64 (l.getD k (0,0)).1)/\(pairs l)[k*2+1]? =some (.int .i64 (l.getD k (0,0)).2):=by
 intro l;induction l with
 |nil=>intro k h;simp at h
 |cons p r I=>
  grind [pairs]
variable {t:TypeId}
def PV.Kn{ps:List (Int×Int)}(I:∀w,HA w0 F H w->Rd w (Old w) A (pairs ps))(ht:Is P t 2)(ho:o.op=.load t x)(M:ev l x=some (bB A (k*2)))(hk:k<ps.length):
  PV P n w0 F l H o (.agg #[.int .i64 (ps.getD k (0,0)).1,.int .i64 (ps.getD k (0,0)).2]):=
 PV.iL (vs:=[.int .i64 (ps.getD k (0,0)).1,.int .i64 (ps.getD k (0,0)).2]) I (by exact ht) (by simp) ho M fun i v Q=>by
  have:=IF hk
  grind
structure Sl where
 A:am
 c:Nat
 l:bv
def Sl.z:Sl:=⟨.none,0,[]⟩
def Sl.v(s:Sl):Value:=.slice s.A s.l.length s.c
def yc(ss:List Sl):bi:=ss.map Sl.v
@[simp] theorem XZ (ss:List Sl):(yc ss).length=ss.length:=by simp[yc]
variable {ss:List Sl}
theorem Sl.mem(h:k<ss.length):ss.getD k Sl.z∈ss:=by
 grind
def flat(ss:List Sl)(k:Nat):bv:=(ss.take k).flatMap (·.l)
def qK(ss:List Sl):flat ss 0=[]:=by simp[flat]
def wJ(h:k<ss.length):flat ss (k+1)=flat ss k++(ss.getD k Sl.z).l:=by
 grind [flat,List.take_add_one]
def Hw(ss:List Sl)(k:Nat):(flat ss k).length<=(flat ss ss.length).length:=by
 grind [flat,List.take_append_drop]
def PV.Ha(I:∀w,HA w0 F H w->Rd w (Old w) A (yc ss))(ht:Na P t)(ho:o.op=.load t x)(M:ev l x=some (bB A k))(hk:k<ss.length):
  PV P n w0 F l H o (.slice (ss.getD k Sl.z).A (ss.getD k Sl.z).l.length (ss.getD k Sl.z).c):=PV.dR I ht ho M (by simp[yc,hk,List.getD,Sl.v])
def PV.KN{g:aP}(I:∀w,HA w0 F H w->Rd w (Old w) (some ⟨B,0,.none⟩) g.cells)(ht:Is P t 6)(ho:o.op=.load t x)(M:ev l x=some (.pointer (some ⟨B,0,.none⟩))):
  PV P n w0 F l H o g.v:=PV.iL (k:=0) I (by exact ht) (by simp[aP.cells]) ho M (fun i v Q=>by simpa using Q)
def Tm.ael(w:World)(G:Nat->Prop):Tm.z.rd w G:=⟨Rd.nil,Rd.nil,Rd.nil⟩
def aP.lz(g:aP)(k:Nat):g.q.ts.getD k Cf.T.z=(g.ts.getD k Tm.z).q:=by
 show(g.ts.map (·.q)).getD k Cf.T.z=_;rw[aW,aW,my];cases g.ts[k]? <;>rfl
def aP.eJ(g:aP):g.q.ts.length=g.ts.length:=by simp[aP.q]
end
end E
namespace Cf
def tQ:Cv []:=fun n I=>by cases I
def T.Va:T.z.fit:=⟨by simp[T.z],by simp[T.z],by simp[T.z],tQ,tQ,tQ,by simp[T.z,i64],by simp[T.z,i64],by simp[T.z,i64],by simp[T.z,i64],by simp[T.z,i64]⟩
end Cf
end
namespace Cf
def R6{p:Int}:∀{ks:bv},ks.Nodup->p∈ks->(p::ks.filter fun q=>decide (q≠p)).Perm ks:=by
 intro ks;grind
def insert_perm{H:Type}(x:Lit×DataW H):∀D:List (Lit×DataW H),(DataW.insert x D).Perm (x::D):=by
 intro D;induction D with
 |nil=>exact List.Perm.refl _
 |cons y r I=>
  unfold DataW.insert;split
  ·exact List.Perm.refl _
  exact(I.cons y).trans (List.Perm.swap _ _ _)
def Dk(l:bv)(k:Nat)(D:List (Lit×DataW Unit)):Prop:=
 ∃ks:bv,(D.map (·.1)).Perm (ks.map (Lit.int .i64))/\ks.Nodup/\(∀p,p∈ks↔p∈l.take k)/\ks.length<=k/\(ks.length=k↔(l.take k).Nodup)
def LR(l:bv):Dk l 0 []:=⟨[],List.Perm.refl _,List.nodup_nil,by simp,by simp,by simp⟩
variable {D:List (Lit×DataW Unit)}{k:Nat}
def SM{l:bv}{d:DataW Unit}(h:Dk l k D)(hk:k<l.length):Dk l (k+1) (ChangeMaps.putKey (.int .i64 (l.getD k 0)) d D):=by
 obtain⟨ks,h1,Q,I,h4,Z⟩:=h;have ht:l.take (k+1)=l.take k++[l.getD k 0]:=by simp_all
 generalize l.getD k 0=p at*
 have hp:((ChangeMaps.putKey (.int .i64 p) d D).map (·.1)).Perm ((p::ks.filter fun q=>decide (q≠p)).map (Lit.int .i64)):=by
  unfold ChangeMaps.putKey;refine((insert_perm _ _).map _).trans ?_;rw[jj,jj];refine List.Perm.cons _ ?_
  have e1:(D.filter (ChangeMaps.notKey (.int .i64 p))).map (·.1)=(D.map (·.1)).filter fun q=> !q.sameKey (.int .i64 p):=by
   rw[sO];rfl
  have e2:((ks.map (Lit.int .i64)).filter fun q=> !q.sameKey (.int .i64 p))=(ks.filter fun q=>decide (q≠p)).map (Lit.int .i64):=by
   rw[sO];congr 1;apply sQ;intro q _;simp[Lit.sameKey]
  rw[e1,<-e2];exact h1.filter _
 have hlen:(l.take k).length=k:=by rw[cf];omega
 by_cases hm:p∈ks
 ·refine⟨ks,hp.trans ((R6 Q hm).map _),Q,fun q=>?_,K1,?_⟩
  ·rw[ht,aN,bw,<-I q];constructor
   ·exact .inl
   rintro(h|rfl)
   ·exact h
   exact hm
  constructor
  ·intro e;omega
  intro M;rw[ht,jc] at M;exact absurd rfl (M.2.2 p ((I p).1 hm) p (by simp))
 have e:(ks.filter fun q=>decide (q≠p))=ks:=lE.2 fun q hq=>bu fun e=>hm (e▸hq);rw[e] at hp;refine⟨p::ks,hp,List.nodup_cons.2 ⟨hm,Q⟩,fun q=>?_,by simpa using h4,?_⟩
 ·rw[ht,aN,bw,er,<-I q];exact or_comm
 rw[bI,ht,jc];constructor
 ·intro e;refine⟨Z.1 K1,by simp,fun a ha b hb=>?_⟩
  simp at hb;subst hb;exact fun e=>hm ((I _).2 (e▸ha))
 intro M;rw[Z.2 M.1]
def Yo{l:bv}(h:Dk l k D)(hk:k=l.length):decide ((D.length:Int)=l.length)=decide l.Nodup:=by
 subst hk;obtain⟨ks,I,M,Q,Z,h5⟩:=h;have:=I.length_eq;grind
def idx(q:Int->Bool)(l:bv):Int:=match l.findIdx? q with|some i=>(i:Int)|none=> -1
def iJ{q:Int->Bool}{l:bv}(hk:k<l.length)(I:∀j,j<k->q (l.getD j 0)=false)(M:q (l.getD k 0)=true):idx q l=k:=by
 unfold idx
 have:l.findIdx? q=some k:=by
  rw[tw];grind
 rw[this]
def iK{q:Int->Bool}{l:bv}(I:∀j,j<l.length->q (l.getD j 0)=false):idx q l= -1:=by
 unfold idx
 have:l.findIdx? q=none:=by
  rw[List.findIdx?_eq_none_iff];intro x M;obtain⟨i,hi,rfl⟩:=eC M;have:=I i hi;simpa[List.getD,hi] using this
 rw[this]
def tL(q:Int->Bool)(l:bv):decide (0<=idx q l)=l.any q:=by
 unfold idx;cases h:l.findIdx? q with
 |none=>
  grind
 |some i=>
  rw[tw] at h;grind
def UI(x:Int)(l:bv):decide (0<=idx (fun y=>decide (x=y)) l)=decide (x∈l):=by
 rw[tL];grind
def ep(t:T):Bool:=decide (t=T.z)
def bC(t:T):bv:=t.h++t.p++t.d
def NS(n m:Int):Bool:=decide (1<=n)&&decide (n<=m)
def sD(t:T):List (Int×Int):=[(t.h.length,3),(t.p.length,3),(t.d.length,3),(t.n1,8),(t.n2,8),(t.n3,8),(t.n4,16),(t.n5,64)]
def numbers(t:T):Bool:=(sD t).all fun x=>NS x.1 x.2
def kH(l:ap)(t p:Int):Bool:=decide (0<=p)&&decide (p<l.length)&&Fl.own t (l.getD p.toNat 0)
def aS(l:ap)(t:Int)(m:T):Bool:=numbers m&&(bC m).all (kH l t)&&decide (bC m).Nodup
def eB(a b:Int)(l:ap)(t:Int)(m:T):Int:=if Fl.cG a b l then(if Fl.qZ t 3 then(if ep m||aS l t m then 0 else 70) else 2) else 50
theorem cz{m:T}(h:numbers m=true):(1<=m.h.length/\m.h.length<=3)/\(1<=m.p.length/\m.p.length<=3)/\(1<=m.d.length/\m.d.length<=3):=by
 unfold numbers sD NS at h;grind
theorem jf(m:T):(bC m).length=m.h.length+m.p.length+m.d.length:=by unfold bC;simp only[aF]
def JU{m:T}(h:m.fit):Cv (bC m):=fun n I=>by
 unfold bC at I
 rcases aN.1 I with I|I
 ·rcases aN.1 I with I|I
  ·exact h.hs n I
  ·exact h.ps n I
 ·exact h.ds n I
def LA{a b:Int}{l:ap}{t:Int}(I:Fl.cG a b l=true)(ht:Fl.qZ t 3=true)(p:Int):decide (p∈(Fl.js a b l t).1)=kH l t p:=by
 have M:=Fl.iA.1 ht;unfold Fl.js kH;rw[aa I,aa ht];by_cases hp:0<=p/\p<l.length
 ·rw[bu hp.1,bu hp.2,Fl.sT M (Fl.xJ I K1)];simp only[j9];refine decide_eq_decide.2 ?_;rw[Fl.uA];grind
 have:(decide (0<=p)&&decide (p<l.length))=false:=by
  rw[<-Bool.decide_and];exact aV hp
 rw[this,yN];refine aV fun h=>hp ?_;obtain⟨q,Q,_,rfl⟩:=(Fl.uA (q:=fun c=>decide (Fl.dE c=t)) (l:=l) (k:=l.length)).1 h;omega
def rW{a b:Int}{l:ap}{t:Int}(I:Fl.cG a b l=true)(ht:Fl.qZ t 3=true)(s:bv):(s.any fun p=> !decide (p∈(Fl.js a b l t).1))= !s.all (kH l t):=by
 rw[List.not_all_eq_any_not];congr 1;funext p;rw[LA I ht p]
def wu{a b:Int}{l:ap}{t:Int}{m:T}(h:¬(Fl.js a b l t).2=0):eB a b l t m=(Fl.js a b l t).2:=by
 unfold eB Fl.js at*;grind
def RH{a b:Int}{l:ap}{t:Int}(h:(Fl.js a b l t).2=0):Fl.cG a b l=true/\Fl.qZ t 3=true:=by
 unfold Fl.js at h;grind
def eV{a b:Int}{l:ap}{t:Int}{m:T}(I:Fl.cG a b l=true)(ht:Fl.qZ t 3=true):eB a b l t m=if ep m||aS l t m then 0 else 70:=by
 unfold eB;rw[aa I,aa ht]
section
variable{a b:Int}{l:ap}{t:Int}{m:T}
def Yz(I:Fl.cG a b l=true)(ht:Fl.qZ t 3=true)(ha:ep m=false)(h:((bC m).any fun p=> !decide (p∈(Fl.js a b l t).1))=true):eB a b l t m=70:=by
 rw[rW I ht,dG] at h;rw[eV I ht,ha,aS,h];simp
def YO(I:Fl.cG a b l=true)(ht:Fl.qZ t 3=true)(ha:ep m=false)(h:¬(bC m).Nodup):eB a b l t m=70:=by
 rw[eV I ht,ha,aS,aV h];simp
def XX(I:Fl.cG a b l=true)(ht:Fl.qZ t 3=true)(M:numbers m=true)(h:((bC m).any fun p=> !decide (p∈(Fl.js a b l t).1))=false)(hd:(bC m).Nodup):eB a b l t m=0:=by
 rw[rW I ht,lG] at h;rw[eV I ht,aS,M,h,bu hd];simp
end
def ag(ts:List T)(t:Int):Bool:=decide (0<=t)&&decide (t<ts.length)&& !ep (ts.getD t.toNat T.z)
def bW(ts:List T)(v:UInt8):Bool:=decide ((v.toNat:Int)=0)||decide ((v.toNat:Int)=255)||ag ts ((v.toNat:Int)-1)
def aH(ts:List T)(k:Nat):bv:=((List.range k).filter fun(t:Nat)=>ag ts (t:Int)).map fun(t:Nat)=>(t:Int)
variable {g:C}{ts:List T}
def sd(h:ag ts (k:Int)=true):aH ts (k+1)=aH ts k++[(k:Int)]:=by
 unfold aH;rw[nz,j6,dZ];simp only[sP,h,if_true,List.filter_nil,jj,ki]
def vf(h:ag ts (k:Int)=false):aH ts (k+1)=aH ts k:=by
 unfold aH;rw[nz,j6,dZ];simp only[sP,h,ke,if_false,List.filter_nil,ki,bp]
def mg(ts:List T)(k:Nat):(aH ts k).length<=k:=by
 unfold aH;rw[bZ];have:=ou (fun p=>ag ts ((p:Nat):Int)) (List.range k);simpa using this
def ib(g:C)(j:Nat):Bool:=ep (g.ts.getD j T.z)||aS g.l (j:Int) (g.ts.getD j T.z)
def bS(g:C):Bool:=decide (1<=g.ts.length)&&decide (g.ts.length<=3)&&(List.range g.ts.length).all (ib g)&&g.l.all (bW g.ts)&&g.s.all (bW g.ts)&&(List.range g.ts.length).any fun j=> !ep (g.ts.getD j T.z)
def check(g:C):Int:=if Fl.cG g.a g.b g.l then(if Fl.gp g.s then(if bS g then(if g.st<=4611686018427387904 then 0 else 2) else 70) else 60) else 50
def vt(h:k<ts.length):ag ts (k:Int)= !ep (ts.getD k T.z):=by
 unfold ag;grind
def sj(ts:List T):((List.range ts.length).any fun j=> !ep (ts.getD j T.z))= !decide (((aH ts ts.length).length:Int)=0):=by
 have e:((List.range ts.length).any fun j=> !ep (ts.getD j T.z))=(List.range ts.length).any fun j=>ag ts ((j:Nat):Int):=by
  rw[de,ik,ik];constructor
  ·rintro⟨j,I,h⟩;exact⟨j,I,by rw[vt (cu.1 I)];exact h⟩
  rintro⟨j,I,h⟩;exact⟨j,I,by rw[vt (cu.1 I)] at h;exact h⟩
 rw[e];unfold aH;rw[bZ];by_cases h:(List.range ts.length).any (fun j=>ag ts ((j:Nat):Int))=true
 ·rw[h];simp_all
 simp_all
def SJ{α:Type}{q:α->Bool}{l:List α}{z:α}(hk:k<l.length)(h:q (l.getD k z)=false):l.all q=false:=by
 grind
def NV{α:Type}{q:α->Bool}{l:List α}{z:α}(h:∀j,j<l.length->q (l.getD j z)=true):l.all q=true:=by
 refine aJ.2 fun x I=>?_;obtain⟨i,hi,rfl⟩:=eC I;grind
def qc{p:Nat->Prop}(h:∀j,j<k->p j)(e:p k):∀j,j<k+1->p j:=fun j I=>by
 rcases eG.1 I with M|rfl
 ·exact h j M
 ·exact e
def TE(h:¬Fl.gF g.a g.b g.l=0):check g=Fl.gF g.a g.b g.l:=by
 unfold check Fl.gF at*;split<;>simp_all
def Ub(I:Fl.cG g.a g.b g.l=true)(h:¬Fl.kb g.s=0):check g=Fl.kb g.s:=by
 unfold check Fl.kb at*;rw[aa I];split<;>simp_all
def sR(I:Fl.cG g.a g.b g.l=true)(hs:Fl.gp g.s=true)(h:bS g=false):check g=70:=by
 unfold check;rw[aa I,aa hs,ae (by rw[h];simp)]
def Mb(I:Fl.cG g.a g.b g.l=true)(hs:Fl.gp g.s=true)(h:bS g=true)(M:4611686018427387904<g.st):check g=2:=by
 unfold check;rw[aa I,aa hs,aa h,ae K1]
def mn(I:Fl.cG g.a g.b g.l=true)(hs:Fl.gp g.s=true)(h:bS g=true)(M:g.st<=4611686018427387904):check g=0:=by
 unfold check;rw[aa I,aa hs,aa h,aa M]
def JK{s:ap}(h:Fl.kb s=0):Fl.gp s=true:=by
 unfold Fl.kb at h;split at h
 ·assumption
 cases h
def EN(h:3<(g.ts.length:Int)):bS g=false:=by
 unfold bS;rw[aV (show¬g.ts.length<=3 by omega)];simp
def EE(h:((aH g.ts g.ts.length).length:Int)=0):bS g=false:=by
 unfold bS;rw[sj,bu h];simp
def I8{p:Nat->Bool}{n:Nat}(h:∀j,j<n->p j=true):(List.range n).all p=true:=aJ.2 fun j I=>h j (cu.1 I)
def Q8(hk:k<g.ts.length)(h:ib g k=false):bS g=false:=by
 unfold bS;grind
def Dy(h:g.l.all (bW g.ts)=false):bS g=false:=by unfold bS;rw[h];simp
def ze(h:g.s.all (bW g.ts)=false):bS g=false:=by unfold bS;rw[h];simp
def E0{sm:Bool}(h1:¬(g.ts.length:Int)<1)(h2:¬3<(g.ts.length:Int))(I:∀j,j<g.ts.length->ib g j=true)(M:g.l.all (bW g.ts)=true)(Q:g.s.all (bW g.ts)=true)(Z:sm=(List.range g.ts.length).any fun j=> !ep (g.ts.getD j T.z)):bS g=sm:=by
 unfold bS;rw[bu K1,bu K1,I8 I,M,Q,<-Z];rfl
def JG(I:Fl.cG g.a g.b g.l=true)(hk:k<3)(h:eB g.a g.b g.l (k:Int) (g.ts.getD k T.z)=0):ib g k=true:=by
 rw[eV I (Fl.iA.2 K1)] at h;unfold ib;grind
def EJ(I:Fl.cG g.a g.b g.l=true)(hk:k<3)(h:¬eB g.a g.b g.l (k:Int) (g.ts.getD k T.z)=0):ib g k=false/\eB g.a g.b g.l (k:Int) (g.ts.getD k T.z)=70:=by
 rw[eV I (Fl.iA.2 K1)] at*;unfold ib;grind
def rZ(ts:List T)(l:ap):(l.any fun x=> !bW ts x)= !l.all (bW ts):=by rw[List.not_all_eq_any_not]
def GA{l:ap}(h:(l.any fun x=> !bW ts x)=true):l.all (bW ts)=false:=by
 rw[rZ,dG] at h;exact h
def Bo{l:ap}(h:(l.any fun x=> !bW ts x)=false):l.all (bW ts)=true:=by
 rw[rZ,lG] at h;exact h
def Q7(h:¬((aH g.ts g.ts.length).length:Int)=0):true=(List.range g.ts.length).any fun j=> !ep (g.ts.getD j T.z):=by
 rw[sj,aV h];rfl
def M7(h:¬((aH g.ts g.ts.length).length:Int)=0):¬(g.ts.length:Int)<1:=fun e=>h (by
 have:=mg g.ts g.ts.length
 omega)
def dt(g:C)(t:Int):Bool×Int:=if check g=0 then(if t<0\/(g.ts.length:Int)<=t then(false,2) else(ag g.ts t,0)) else(false,check g)
def iD(g:C):bv×Int:=if check g=0 then(aH g.ts g.ts.length,0) else([],check g)
end Cf
namespace Od
structure O where
 id:Int
 pick:Int
 drop:Int
 st:Int
 tk:Int
 dn:Int
 deriving DecidableEq
structure N where
 qP:Int
 many:Int
 deriving DecidableEq
structure B where
 os:List O
 q:bv
 n:N
 deriving DecidableEq
def O.z:O:=⟨0,0,0,0,0,0⟩
def N.z:N:=⟨0,0⟩
def B.z:B:=⟨[],[],N.z⟩
def last:Int:=4611686018427387904
def within(n most:Int):Bool:=decide (1<=n)&&decide (n<=most)
def oL(o:O):Bool:=
 within o.id 64&&within (o.pick+1) 3&&within (o.drop+1) 3&&decide (1<=o.st)&&decide (o.st<=5)&&decide (o.tk<=last)&&(if o.st=4 then decide (1<=o.dn)&&decide (o.dn<=last) else decide (o.dn=0))
def created(id pick drop now:Int):Except Int O:=if oL ⟨id,pick,drop,1,now,0⟩ then .ok ⟨id,pick,drop,1,now,0⟩ else .error 2
def cJ(st:Int):Int:=if st=3 then 2 else if st=4 then 3 else 1
def Uh(o:O)(st now:Int):O:={o with st:=st,dn:=if st=4 then now else o.dn}
def fp(o:O)(st now:Int):Except Int O:=
 if oL o then
  (if 1<=st/\st<=5/\now<=last/\(¬st=4\/0<now) then(if¬st=1/\o.st=cJ st then .ok (Uh o st now) else .error 150) else .error 2)
 else .error 8
def dD(c:N)(M I:Int):Int:=if within M 64&&within I 16 then(if c.qP<=last/\0<=c.many/\c.many<=I then 0 else 8) else 2
def Ln(c:N)(I M now:Int):Except Int N:=
 if dD c I M=0 then(if now<=last then .ok (if now/I=c.qP then c else⟨now/I,0⟩) else .error 2) else .error (dD c I M)
def taken(c:N)(M I now:Int):Except Int N:=
 match Ln c M I now with
 |.ok n=>if n.many<I then .ok ⟨n.qP,n.many+1⟩ else .error 160
 |.error e=>.error e
def bR(os:List O):bv:=(os.filter fun o=>decide (o.st=1)).map (·.id)
def jU(m:Cf.T)(i:Nat)(o:O):Bool:=oL o&&decide (o.id=(i:Int)+1)&&decide (o.pick<m.p.length)&&decide (o.drop<m.d.length)
def vk(m:Cf.T)(os:List O):Bool:=(List.range os.length).all fun i=>jU m i (os.getD i O.z)
def eb(m:Cf.T)(b:B):Int:=
 if Cf.numbers m then
  (if b.os.length<=64/\(b.q.length:Int)<=m.n3/\dD b.n m.n5 m.n4=0 then(if vk m b.os then(if b.q=bR b.os then 0 else 8) else 8) else 8)
 else 70
def move(b:B)(id st now:Int):Except Int B:=
 if within id b.os.length then
  (match fp (b.os.getD (id-1).toNat O.z) st now with
   |.ok o=>.ok ⟨b.os.set (id-1).toNat o,b.q.filter fun n=> !decide (n=id),b.n⟩
   |.error e=>.error e)
 else .error 6
def dH(m:Cf.T)(b:B)(pick drop now:Int):Except Int B:=
 if eb m b=0 then
  (if 0<=pick/\pick<m.p.length/\0<=drop/\drop<m.d.length/\now<=last then
   (if b.os.length<64 then
    (if(b.q.length:Int)<m.n3 then
     (match taken b.n m.n5 m.n4 now with
      |.ok n=>(match created ((b.os.length:Int)+1) pick drop now with
       |.ok o=>.ok ⟨b.os++[o],b.q++[o.id],n⟩
       |.error e=>.error e)
      |.error e=>.error e)
    else .error 9)
   else .error 4)
  else .error 2)
 else .error (eb m b)
def l7(m:Cf.T)(b:B)(id st now:Int):Except Int B:=if eb m b=0 then move b id st now else .error (eb m b)
def assign(m:Cf.T)(b:B):Except Int (B×Int):=
 if eb m b=0 then
  (if 0<b.q.length then(match move b (b.q.getD 0 0) 2 0 with|.ok b'=>.ok (b',b.q.getD 0 0)|.error e=>.error e) else .error 6)
 else .error (eb m b)
def kq(m:Cf.T)(b:B)(id:Int):Except Int O:=
 if eb m b=0 then(if within id b.os.length then .ok (b.os.getD (id-1).toNat O.z) else .error 6) else .error (eb m b)
def res{α:Type}(z:α):Except Int α->α×Int
 |.ok v=>(v,0)
 |.error e=>(z,e)
theorem within_iff{n k:Int}:within n k=true↔1<=n/\n<=k:=by simp[within]
theorem im{o:O}:oL o=true↔(1<=o.id/\o.id<=64)/\(0<=o.pick/\o.pick<=2)/\(0<=o.drop/\o.drop<=2)/\(1<=o.st/\o.st<=5)/\o.tk<=last/\((o.st=4/\1<=o.dn/\o.dn<=last)\/(¬o.st=4/\o.dn=0)):=by
 grind [oL,within]
variable {b:B}{i:Nat}{m:Cf.T}{now:Int}
theorem o9{os:List O}:vk m os=true↔∀i,i<os.length->jU m i (os.getD i O.z)=true:=by
 grind [vk]
theorem ei{o:O}:jU m i o=true↔oL o=true/\o.id=(i:Int)+1/\o.pick<m.p.length/\o.drop<m.d.length:=by
 simp[jU,and_assoc]
structure Ok(m:Cf.T)(b:B):Prop where
 n:Cf.numbers m=true
 l:b.os.length<=64
 ql:(b.q.length:Int)<=m.n3
 c:dD b.n m.n5 m.n4=0
 o:∀i,i<b.os.length->jU m i (b.os.getD i O.z)=true
 q:b.q=bR b.os
theorem dN:eb m b=0↔Ok m b:=by
 unfold eb;constructor
 ·intro h;split at h
  ·rename_i M;split at h
   ·rename_i I;split at h
    ·rename_i Q;split at h
     ·rename_i Z;exact⟨M,I.1,I.2.1,I.2.2,o9.1 Q,Z⟩
     cases h
    cases h
   cases h
  cases h
 grind [Ok.n,Ok.l,Ok.ql,Ok.c,o9,Ok.o,Ok.q]
def rS{c:N}{w q:Int}:dD c w q=0↔(1<=w/\w<=64)/\(1<=q/\q<=16)/\c.qP<=last/\0<=c.many/\c.many<=q:=by
 grind [dD,within_iff]
def il(a b:List O):bR (a++b)=bR a++bR b:=by simp[bR]
def El:∀{os:List O} {k:Int} {i:Nat} {o:O},(∀j,j<os.length->(os.getD j O.z).id=k+(j:Int)+1)->i<os.length->¬o.st=1->bR (os.set i o)=(bR os).filter fun n=> !decide (n=k+(i:Int)+1):=by
 intro os;induction os with
 |nil=>grind
 |cons a r Z=>
  intro k i o M hi I;have ha:a.id=k+1:=by grind
  have hr:∀j,j<r.length->(r.getD j O.z).id=k+1+(j:Int)+1:=fun j hj=>by
   have:=M (j+1) (by simp;omega)
   grind
  have Q:∀n,n∈bR r->k+1<n:=fun n hn=>by
   grind [bR,List.getElem_of_mem]
  cases i with
  |zero=>
   rw[oB,show(o::r)=[o]++r from rfl,show(a::r)=[a]++r from rfl,il,il,j6];have e1:bR [o]=[]:=by simp[bR,I]
   have e2:(bR [a]).filter (fun n=> !decide (n=k+((0:Nat):Int)+1))=[]:=by
    grind [bR]
   grind [List.filter_eq_self]
  |succ i=>
   rw[List.set_cons_succ,show(a::r.set i o)=[a]++r.set i o from rfl,show(a::r)=[a]++r from rfl,il,il,j6,Z hr (by simpa using hi) I]
   grind [bR]
def WM{o:O}{st:Int}(h:jU m i o=true)(I:1<=st/\st<=5/\now<=last/\(¬st=4\/0<now))(M:¬st=1/\o.st=cJ st):jU m i (Uh o st now)=true:=by
 grind [ei,im,Uh,cJ]
def ids(h:Ok m b):∀j,j<b.os.length->(b.os.getD j O.z).id=0+(j:Int)+1:=fun j I=>by
 have:=(ei.1 (h.o j I)).2.1
 omega
def fY{α:Type}{l:List α}{j:Nat}{v d:α}(hi:i<l.length):(l.set i v).getD j d=if i=j then v else l.getD j d:=by
 grind
def iv{b':B}{id st:Int}(h:Ok m b)(I:move b id st now=.ok b'):
  Ok m b'/\(1<=id/\id<=b.os.length)/\(b.os.getD (id-1).toNat O.z).st=cJ st/\¬st=1/\b'.os=b.os.set (id-1).toNat (Uh (b.os.getD (id-1).toNat O.z) st now)/\b'.n=b.n:=by
 unfold move at I;split at I
 ·rename_i Z;rw[within_iff] at Z;have hi:(id-1).toNat<b.os.length:=K1;split at I
  ·rename_i o ho;unfold fp at ho;split at ho
   ·split at ho
    ·rename_i h2;split at ho
     ·rename_i M;cases ho;cases I;refine⟨⟨h.n,by simpa using h.l,?_,h.c,?_,?_⟩,Z,M.2,M.1,rfl,rfl⟩
      ·have:=ou (fun n=> !decide (n=id)) b.q;have:=h.ql;grind
      ·intro i hj;have Q:i<b.os.length:=by simpa using hj
       show jU m i ((b.os.set (id-1).toNat _).getD i O.z)=true;rw[fY hi];split
       ·rename_i e;subst e;exact WM (h.o _ hi) h2 M
       exact h.o i Q
      show b.q.filter _=bR (b.os.set (id-1).toNat _);rw[El (ids h) hi M.1,<-h.q];apply sQ;intro n _;congr 1;exact decide_eq_decide.2 K1
     cases ho
    cases ho
   cases ho
  cases I
 cases I
def uz{c n:N}{w q:Int}(Q:0<=now)(h:taken c w q now=.ok n):dD n w q=0:=by
 unfold taken Ln at h;split at h
 ·rename_i x I;split at I
  ·rename_i M;rw[rS] at M;split at I
   ·rename_i Z;cases I;rw[rS];by_cases e:now/w=c.qP
    ·grind
    rw[ae e] at h;by_cases h3:(0:Int)<q
    ·rw[aa (show(⟨now/w,0⟩:N).many<q from h3)] at h;cases h;refine⟨M.1,M.2.1,?_,show(0:Int)<=0+1 by omega,show(0:Int)+1<=q by omega⟩
     show now/w<=last;have:=yO w Q;omega
    omega
   cases I
  cases I
 cases h
def ji{b':B}{pick drop:Int}(M:0<=now)(I:dH m b pick drop now=.ok b'):
  Ok m b/\Ok m b'/\∃o n,o.st=1/\b'=⟨b.os++[o],b.q++[o.id],n⟩:=by
 unfold dH at I;split at I
 ·rename_i h;rw[dN] at h;split at I
  ·rename_i h1;split at I
   ·rename_i h2;split at I
    ·rename_i h3;split at I
     ·rename_i n Q;split at I
      ·rename_i o ho;cases I;unfold created at ho;split at ho
       ·rename_i h4;cases ho;refine⟨h,⟨h.n,by simp;omega,by simp;omega,uz M Q,?_,?_⟩,_,_,rfl,rfl⟩
        ·intro i hi;have Z:i<b.os.length+1:=by simpa using hi
         rw[aW,List.getElem?_append];split
         ·rename_i h5;have:=h.o i h5;grind
         grind [ei]
        grind [bR,Ok.q]
       cases ho
      cases I
     cases I
    cases I
   cases I
  cases I
 cases I
end Od
section
variable{P:Program}{n:E.Fr}{w0:World}{F:Nat->Prop}{K:E.Kt}{l:E.Env}{H:List E.HP}
namespace E
section
variable{o:Oper}
variable {A:am}{c:Code}{ops:Array Oper}{rest:List Oper}{x y:Operand}
def PV.slnil{t I e:TypeId}{m c m' c':Nat}(M:P.underlying t=some (.slice e))(ho:o.op=.binOp .eql t x y I)(Q:ev l x=some (.slice A m c))(Z:ev l y=some (.slice none m' c')):PV P n w0 F l H o (.bool A.isNone):=
 PV.bin ho Q Z (by simp[eqGuard]) fun w=>Lib.run_eql_slice_nil w t e A m c m' c' M
theorem Uf:∀{ts:List Tm} {j:Nat} {m:Tm},j<ts.length->tms (ts.set j m)=(tms ts).take (j*8)++m.cells++(tms ts).drop (j*8+8):=by
 intro ts;induction ts with
 |nil=>intro j m h;simp at h
 |cons q r M=>
  intro j m h;have I:q.cells.length=8:=rfl;cases j with
  |zero=>
   grind [tms]
  |succ j=>
   have Q:(q.cells++tms r).take ((j+1)*8)=q.cells++(tms r).take (j*8):=by
    rw[nc,I,bU K1,show(j+1)*8-8=j*8 by omega]
   have e2:(q.cells++tms r).drop ((j+1)*8+8)=(tms r).drop (j*8+8):=by
    rw[List.drop_append,I,List.drop_of_length_le K1,show(j+1)*8+8-8=j*8+8 by omega,pz]
   grind [tms]
theorem mj{α:Type}(xs ys:List α)(a n:Nat)(I:a+ys.length<=n)(M:n<=xs.length):(xs.take a++ys++xs.drop (a+ys.length)).take n=(xs.take n).take a++ys++(xs.take n).drop (a+ys.length):=by
 have hl:(xs.take a++ys).length=a+ys.length:=by grind
 grind [List.take_append,List.take_of_length_le,List.drop_take]
def vy{α:Type}:∀{l:List α} {j:Nat} (h:j<l.length),l.Perm (l[j]::l.eraseIdx j):=by
 intro l;induction l with
 |nil=>intro j h;simp at h
 |cons a r I=>
  intro j h;cases j with
  |zero=>exact List.Perm.refl _
  |succ j=>
   simp only[List.getElem_cons_succ,List.eraseIdx_cons_succ];exact((I (by simpa using h)).cons a).trans (List.Perm.swap _ _ _)
def OW.Pq{d t Et bytes:Nat}{kx ky:IntKind}{Z:Int}(m:Nat)(hT:P.underlying t=some (.slice Et))(hI:In P Et Tm.z.v 8 bytes)(ho:o.op=.makeSlice t x y)(hg:gd ops l o.guard=some true)(hd:o.dst=some d)(hn:Nat.blt d n.sz=true)(hx:ev l x=some (.int kx Z))(hy:ev l y=some (.int ky Z))(hm:Z=(m:Int))(I:m<=maxLen)(hb:bytes*m<=281474976710656)(k:∀A,OW P n w0 F ops K rest ((d,.slice A m m)::l) (HP.row Et 8 A m m (tms (List.replicate m Tm.z))::H)):OW P n w0 F ops K (o::rest) l H:=
 OW.step hg hd hn (fun v H'=>∃A,v=.slice A m m/\H'=HP.row Et 8 A m m (tms (List.replicate m Tm.z))::H)
  (fun a w ha hw=>by
   obtain⟨inf,Q,hz0,hz1,hz2⟩:=hI.parts
   subst hm hz2
   have hb':(inf.bytes:Int)*(m:Int)<=281474976710656:=by
    omega
   have M:(m:Int)<=9223372036854775807:=by unfold maxLen at I;omega
   have hr:=run_make (P:=P) w t Et inf Tm.z.v hT Q hz0 kx ky m m K1 K1 hb' M
   have wj:(madeCells Tm.z.v.cells (m*inf.size))=(tms (List.replicate m Tm.z)).toArray:=by
    rw[hz1];apply Array.ext
    ·simp[madeCells]
    intro i h1 h2;have hi:i<m*8:=by simp_all
    have hj:i%8<Tm.z.cells.length:=by simp[Tm.cells];omega
    have h3:=sX (ts:=List.replicate m Tm.z) (k:=i/8) (j:=i%8) (v:=Tm.z.cells[i%8]) (by simp;omega) (by simp[List.getD,show i/8<m by omega])
    rw[show i/8*8+i%8=i by omega] at h3
    have h4:(tms (List.replicate m Tm.z)).toArray[i]'h2=Tm.z.cells[i%8]:=by
     grind
    rw[h4];have h8:Tm.z.v.cells=Tm.z.cells.toArray:=rfl;have h9:Tm.z.cells.length=8:=rfl;grind [madeCells]
   simp only[j3,wj] at hr
   exact⟨_,_,_,by simp[execOp,ho,ha.ev hx,ha.ev hy,hr],⟨_,rfl,rfl⟩,hw.new _ (ah.tq (by simp) I)⟩)
  (fun v H' ⟨A,hv,hH⟩=>by subst hv hH;exact k A)
def OW.L3{t:TypeId}{Et i m c j:Nat}{q:Tm}{ts:List Tm}{H':List HP}(Z:∀w,(sizeOf t).run P w=.ok 8 w)(ho:o.op=.store t x y)(hg:gd ops l o.guard=some true)(hd:o.dst=none)(hx:ev l x=some (bB A (j*8)))(hy:ev l y=some q.v)(hi:sel H i=some (HP.row Et 8 A m c (tms ts),H'))(hj:j<m)(hm:ts.length=m)(k:OW P n w0 F ops K rest l (HP.row Et 8 A m c (tms (ts.set j q))::H')):OW P n w0 F ops K (o::rest) l H:=
 OW.act hg hd (fun a w ha hw=>by
  have I:=hw.row hi
  rcases I.2 with⟨hv,hm0⟩|⟨g,cap,cur,hv,_,M,hnc,Q,wj,htk⟩
  ·omega
  ·injection hv with hA _ hcc
   subst hA hcc
   have hx':ev l x=some (.pointer (some ⟨g,j*8,.none⟩)):=by
    grind [bB,Addr.add]
   have h8:q.cells.length=8:=rfl;have hst:=run_storeCells_at P g (j*8) Et q.cells 0 cur w M (by rw[h8];omega) (fun u hu=>q.one u hu)
   refine⟨w.setRow g (cur.toList.take (j*8)++q.cells++cur.toList.drop (j*8+8)).toArray,?_,?_⟩
   ·have hc:q.v.cells=q.cells.toArray:=rfl;simp[execOp,ho,ha.ev hx',ha.ev hy,Instr.storeAt,Instr.sureAddr,storeVar,hc,h8,Z w];simp_all
   refine(hw.sel hi).ox (A:=some ⟨g,0,.none⟩) (A':=some ⟨g,0,.none⟩) (m:=m) (m':=m) (c:=c) (c':=c) (xs:=tms ts) ?_ ?_ (.inl rfl)
   ·refine⟨rfl,rfl,rfl,by simp[World.setRow],fun k hk hne=>?_⟩
    grind [World.setRow,Value.ownBlock]
   refine⟨by simp[hm],.inr ⟨g,c,_,rfl,bF _,setRow_heap w g cur _ Et _ M,hnc,Q,?_,?_⟩⟩
   ·grind
   grind [mj,Uf]) k
def ah.aaQ{w:World}{U:Nat->Prop}{r:List HP}(k:Nat)(h:ah w U r):ah w U (HP.tms (List.replicate k Tm.z)::r):=by
 refine⟨fun _=>False,?_,fun _ hk=>hk.elim,h.congr fun q=>by simp⟩
 show yA w (fun _=>False) ((List.replicate k Tm.z).map HP.tm);have I:(HP.row 3 1 .none 0 0 []).bA (fun _=>False) w:=⟨fun k=>by simp[Value.ownBlock],World.ownsRow_nil w 0 3 1⟩
 have M:(HP.tm Tm.z).bA (fun _=>False) w:=
  ⟨fun _=>False,fun _=>False,fun _=>by simp,fun _ h=>h.elim,I,fun _=>False,fun _=>False,fun _=>by simp,fun _ h=>h.elim,I,fun _=>False,fun _=>False,fun _=>by simp,fun _ h=>h.elim,I,fun _ h=>h⟩
 induction k with
 |zero=>exact fun _ h=>h
 |succ k Q=>exact⟨fun _=>False,fun _=>False,fun _=>by simp,fun _ h=>h.elim,M,Q⟩
def CW.adX(k:Nat)(h:CW P n w0 F c K l (HP.tms (List.replicate k Tm.z)::H)):CW P n w0 F c K l H:=CW.conv (fun w U hc=>ah.aaQ k hc) h
def CW.YQ{M:List HP}{m:Tm}{ts:List Tm}(i k j:Nat){Q:List HP}(hi:sel H i=some (HP.tm m,M))(hk:sel M k=some (HP.tms ts,Q))(Z:j<ts.length)(h:CW P n w0 F c K l (HP.tms (ts.set j m)::Q)):CW P n w0 F c K l H:=fun a w ha hw=>by
 have h1:=hw.perm ((an hi).trans ((an hk).cons _))
 refine h a w ha {h1 with chunks:=?_}
 obtain⟨S,g1,b1,T,g2,b2,g3⟩:=h1.chunks
 have hp:(ts.map HP.tm).Perm (HP.tm ts[j]::(ts.eraseIdx j).map HP.tm):=by
  rw[<-jj];exact(vy Z).map _
 have I:(HP.tm m::(ts.eraseIdx j).map HP.tm).Perm ((ts.set j m).map HP.tm):=by
  rw[<-jj];refine List.Perm.map _ ?_;have:=(vy (l:=ts.set j m) (j:=j) (by simpa using Z)).symm
  grind
 obtain⟨T1,T2,e1,e2,e3,e4⟩:=rK hp g2;refine⟨fun q=>S q\/T2 q,rK I ⟨S,T2,fun _=>Iff.rfl,fun q I ht=>(b2 q ((e1 q).2 (.inr ht))).2 (.inr I),g1,e4⟩,fun q I=>?_,g3.mono fun q I=>?_⟩
 ·grind
 grind
def aP.z:aP:=⟨0,0,[],[],[],0,.none,0,.none,0,.none,0⟩
def ah.acG{w:World}{U:Nat->Prop}{r:List HP}(h:ah w U r):ah w U (HP.cfg aP.z::r):=by
 refine⟨fun _=>False,?_,fun _ hk=>hk.elim,h.congr fun q=>by simp⟩
 have I:∀e s,(HP.row e s .none 0 0 []).bA (fun _=>False) w:=fun e s=>⟨fun k=>by simp[Value.ownBlock],World.ownsRow_nil w 0 e s⟩
 exact⟨fun _=>False,fun _=>False,fun _=>by simp,fun _ h=>h.elim,I 5 1,fun _=>False,fun _=>False,fun _=>by simp,fun _ h=>h.elim,I 5 1,fun _=>False,fun _=>False,fun _=>by simp,fun _ h=>h.elim,I 65 8,
  fun _=>False,fun _=>False,fun _=>by simp,fun _ h=>h.elim,(fun _ h=>h),fun _ h=>h⟩
def CW.Kv(h:CW P n w0 F c K l (HP.cfg aP.z::H)):CW P n w0 F c K l H:=CW.conv (fun w U hc=>ah.acG hc) h
end
end E
namespace Cf
def eh(f:UInt8->UInt8)(l:ap)(k:Nat):ap:=(l.take k).map f++l.drop k
@[simp] theorem GR (f:UInt8->UInt8) (l:ap) (k:Nat):(eh f l k).length=l.length:=by simp[eh];omega
def CX(f:UInt8->UInt8)(l:ap):eh f l 0=l:=by simp[eh]
def Hg(f:UInt8->UInt8)(l:ap):eh f l l.length=l.map f:=by simp[eh]
variable {f:UInt8->UInt8}{k:Nat}
theorem yC{l:ap}(h:k<l.length):(eh f l k).getD k 0=l.getD k 0:=by
 grind [eh]
def vh{l:ap}(h:k<l.length){x:UInt8}(e:f (l.getD k 0)=x):(eh f l k).set k x=eh f l (k+1):=by
 subst e;unfold eh;rw[jS,aC h,Option.toList_some,dZ,oo _ _ (by simp;omega),bZ,cf,nv K1,oD,List.drop_eq_getElem_cons h,oB]
 simp_all
def Bv{l:ap}(h:k<l.length)(e:f (l.getD k 0)=l.getD k 0):eh f l k=eh f l (k+1):=by
 rw[<-vh h rfl,e];apply nB;intro i;grind [yC]
def oc(t:Int)(v:UInt8):UInt8:=if(v.toNat:Int)=t+1\/(v.toNat:Int)=255 then v else 0
def os(t:Int)(v:UInt8):UInt8:=if(v.toNat:Int)=t+1 then v else 0
def bV(ts:List T)(t:Int)(k:Nat):List T:=(List.range k).map fun(i:Nat)=>if(i:Int)=t then ts.getD i T.z else T.z
def only(g:C)(t:Int):C:=⟨g.a,g.b,g.l.map (oc t),g.s.map (os t),bV g.ts t g.ts.length,g.st⟩
def zero:C:=⟨0,0,[],[],[],0⟩
def CK{ts:List T}{t:Int}(h:0<=t/\t<ts.length):(List.replicate ts.length T.z).set t.toNat (ts.getD t.toNat T.z)=bV ts t ts.length:=by
 apply fU (by simp[bV])
 grind [bV]
end Cf
namespace E
section
variable{α:Type}{f:α->bi}{sz:Nat}
def fl(f:α->bi):List α->bi
 |[]=>[]
 |x::l=>f x++fl f l
structure Fx(f:α->bi)(sz:Nat):Prop where
 len:∀x,(f x).length=sz
 one:∀x,∀u∈f x,u.oneCell'=true
 pos:0<sz
theorem Fx.ct(h:Fx f sz):∀l:List α,(fl f l).length=l.length*sz:=by
 intro l;induction l with
 |nil=>simp[fl]
 |cons x l I=>rw[fl,aF,h.len,I,bI,jw];omega
def Fx.aaG(h:Fx f sz):∀{l:List α},∀u∈fl f l,u.oneCell'=true:=by
 intro l;induction l with
 |nil=>intro u I;cases I
 |cons x l Q=>
  intro u I;rcases aN.1 I with M|M
  ·exact h.one x u M
  exact Q u M
theorem zy:∀{a b:List α},fl f (a++b)=fl f a++fl f b:=by
 intro a b;induction a with
 |nil=>rfl
 |cons x a I=>rw[jC,fl,fl,I,aQ]
def Fx.get(h:Fx f sz){z:α}:∀{l:List α} {k j:Nat} {v:Value},k<l.length->(f (l.getD k z))[j]? =some v->(fl f l)[k*sz+j]? =some v:=by
 intro l;induction l with
 |nil=>grind
 |cons m r Q=>
  intro k j v hk I
  have Z:j<sz:=by
   rcases dd j sz with M|M
   ·exact M
   rw[fH (by rw[h.len];omega)] at I;cases I
  cases k with
  |zero=>
   grind [fl]
  |succ k=>
   rw[fl,List.getElem?_append_right (by rw[h.len,jw];omega),h.len,show(k+1)*sz+j-sz=k*sz+j by rw[jw];omega]
   simp_all
def acy:∀{cs:bi} {j:Nat} {vs:bi},j+vs.length<=cs.length->wr cs j vs=some (cs.take j++vs++cs.drop (j+vs.length)):=by
 intro cs;induction cs with
 |nil=>
  intro j vs h;have I:j=0:=by grind
  have M:vs=[]:=j4 (by grind)
  subst I M;rfl
 |cons u r Q=>
  intro j vs h;cases j with
  |zero=>
   cases vs with
   |nil=>simp[wr]
   |cons v vs=>
    grind [wr]
  |succ j=>
   grind [wr]
def Wa{a b b' c vs:bi}{m j:Nat}(ha:a.length=m)(I:j+vs.length<=b.length)(h:wr b j vs=some b'):wr (a++(b++c)) (m+j) vs=some (a++(b'++c)):=by
 obtain⟨_,M⟩:=pH h;subst ha M;rw[acy (by grind)]
 congr 1;rw[gK (l₁:=b) (l₂:=c) (i:=j) K1|>fun e=>show(a++(b++c)).take (a.length+j)=a++b.take j by rw[List.take_length_add_append,e]]
 rw[show(a++(b++c)).drop (a.length+j+vs.length)=b.drop (j+vs.length)++c by rw[Nat.add_assoc,List.drop_length_add_append,List.drop_append_of_le_length I]]
 grind
theorem Fx.set(h:Fx f sz){z:α}:∀{l:List α} {k j:Nat} {vs:bi} {x':α},k<l.length->wr (f (l.getD k z)) j vs=some (f x')->wr (fl f l) (k*sz+j) vs=some (fl f (l.set k x')):=by
 intro l k j vs x' hk I;obtain⟨M,h2⟩:=pH I;rw[h.len] at M
 have Q:l=l.take k++l.getD k z::l.drop (k+1):=by
  simp_all
 have e2:l.set k x'=l.take k++x'::l.drop (k+1):=by grind
 have Z:fl f l=fl f (l.take k)++(f (l.getD k z)++fl f (l.drop (k+1))):=by
  rw[<-fl,<-zy,<-Q]
 have lt:(fl f (l.take k)).length=k*sz:=by grind [ct]
 rw[Z,e2,zy,fl,Wa lt (by rw[h.len];omega) I]
end
section
variable{o:Oper}{α:Type}{f:α->bi}{sz:Nat}
variable {A:am}
def PV.nm{t:TypeId}{x:Operand}{k:Nat}{xs:List α}(z:α)(I:Fx f sz)(M:∀w,HA w0 F H w->Rd w (Old w) A (fl f xs))(ht:Is P t sz)(ho:o.op=.load t x)(Q:ev l x=some (bB A (k*sz)))(hk:k<xs.length):
  PV P n w0 F l H o (.agg (f (xs.getD k z)).toArray):=
 PV.iL M (by rw[I.len];exact ht) (by rw[I.len];exact I.pos) ho Q fun i v Z=>I.get hk Z
def OW.qA{ops:Array Oper}{I:List Oper}{d:Nat}{s x:Operand}{t Et i bytes c cc:Nat}{z:Value}{zs:bi}{A2:am}{xs ys:List α}{H':List HP}(M:Fx f sz)(hT:P.underlying t=some (.slice Et))(hI:In P Et z sz bytes)(hz:z.cells=zs.toArray)(Q:zs.length=sz)(ho:o.op=.call {callee:=.builtin .append,args:= #[s,x],argTypes:= #[t,t]})(hg:gd ops l o.guard=some true)(hd:o.dst=some d)(hn:Nat.blt d n.sz=true)(hs:ev l s=some (.slice A xs.length c))(hx:ev l x=some (.slice A2 ys.length cc))(hi:sel H i=some (HP.row Et sz A xs.length c (fl f xs),H'))(hR:∀w,HA w0 F H w->Rd w (Old w) A2 (fl f ys))(hb:(xs.length+ys.length)*bytes<=140737488355328)(Z:xs.length+ys.length<=maxLen)(k:∀A' c',OW P n w0 F ops K I ((d,.slice A' (xs++ys).length c')::l) (HP.row Et sz A' (xs++ys).length c' (fl f (xs++ys))::H')):OW P n w0 F ops K (o::I) l H:=
 OW.append hT hI hz Q M.pos ho hg hd hn hs hx hi hR (M.ct ys) M.aaG Z hb fun A' c'=>by
  grind [zy]
end
def pn(e:Int):List PanicEntry:=[{v:=.iface 397 (.agg #[.int .i64 e]),recovered:=false}]
end E
namespace Od
def PQ{n k:Int}:within n k=false↔n<1\/k<n:=by rw[<-kT,within_iff];omega
def CP{m:Cf.T}:Cf.numbers m=true↔(within m.h.length 3=true/\within m.p.length 3=true/\within m.d.length 3=true)/\within m.n1 8=true/\within m.n2 8=true/\within m.n3 8=true/\within m.n4 16=true/\within m.n5 64=true:=by
 simp[Cf.numbers,Cf.sD,Cf.NS,within,and_assoc]
def FW{c:N}{w q:Int}(h:dD c w q=0):1<=w/\w<=64/\1<=q/\q<=16/\c.qP<=last/\0<=c.many/\c.many<=q:=by
 grind [dD,within_iff]
def aa8{c n:N}{w q k:Int}(h:Ln c w q k=.ok n):dD c w q=0/\k<=last/\0<=n.many/\n.many<=q:=by
 unfold Ln at h;split at h
 ·rename_i I;have M:=FW I;grind
 cases h
def O.cs(o:O):bi:=[.int .i64 o.id,.int .i64 o.pick,.int .i64 o.drop,.int .u8 o.st,.int .u64 o.tk,.int .u64 o.dn]
def O.v(o:O):Value:=.agg o.cs.toArray
def N.v(c:N):Value:=.agg #[.int .u64 c.qP,.int .i64 c.many]
def O.fx:E.Fx O.cs 6:=⟨fun _=>rfl,fun x u I=>by simp[O.cs] at I;rcases I with rfl|rfl|rfl|rfl|rfl|rfl<;>rfl,K1⟩
end Od
namespace E
structure Bk where
 q:Od.B
 A1:am
 c1:Nat
 A2:am
 c2:Nat
def Bk.cells(b:Bk):bi:=[.slice b.A1 b.q.os.length b.c1,.slice b.A2 b.q.q.length b.c2,.int .u64 b.q.n.qP,.int .i64 b.q.n.many]
def Bk.v(b:Bk):Value:=.agg b.cells.toArray
structure Bk.rd(w:World)(G:Nat->Prop)(b:Bk):Prop where
 o:Rd w G b.A1 (fl Od.O.cs b.q.os)
 q:Rd w G b.A2 (ints b.q.q)
def HP.bk(b:Bk):HP:=HP.dj [HP.row 324 6 b.A1 b.q.os.length b.c1 (fl Od.O.cs b.q.os),HP.row 3 1 b.A2 b.q.q.length b.c2 (ints b.q.q)]
section
variable{w0:World}{F:Nat->Prop}{H:List HP}
variable {w:World}
def HA.HX(h:HA w0 F H w){b:Bk}(I:b.rd w0 F):b.rd w (Old w):=⟨h.rd I.o,h.rd I.q⟩
def abl{S:Nat->Prop}{b:Bk}(h:(HP.bk b).bA S w):b.rd w (Old w):=by
 obtain⟨_,_,_,_,I,_,_,_,_,M,_⟩:=h;exact⟨mq I,mq M⟩
def HA.MD(h:HA w0 F H w){i:Nat}{b:Bk}{H':List HP}(hi:E.sel H i=some (HP.bk b,H')):b.rd w (Old w):=by
 obtain⟨S,I,_⟩:=(h.sel hi).chunks;exact abl I
end
end E
namespace E
def iO(m:Nat)(f:Nat->Bool):bi:=(List.range m).map fun i=>.bool (f i)
def oQ(m:Nat)(f:Nat->Int):bi:=(List.range m).map fun i=>.int .i64 (f i)
def ea(m:Nat)(A:Nat->am)(len c:Nat->Nat):bi:=(List.range m).map fun i=>.slice (A i) (len i) (c i)
@[simp] theorem WR (m:Nat) (f:Nat->Bool):(iO m f).length=m:=by simp[iO]
@[simp] theorem Xk (m:Nat) (f:Nat->Int):(oQ m f).length=m:=by simp[oQ]
@[simp] theorem Bb (m:Nat) (A:Nat->am) (len c:Nat->Nat):(ea m A len c).length=m:=by simp[ea]
def up{α:Type}(f:Nat->α)(k:Nat)(v:α):Nat->α:=fun i=>if i=k then v else f i
variable {α:Type}
theorem di(f:Nat->α)(k:Nat)(v:α):up f k v k=v:=aa rfl
theorem fN(f:Nat->α){k i:Nat}(v:α)(h:i≠k):up f k v i=f i:=ae h
def xl(m:Nat)(f:Nat->α)(g:Nat->Value)(h:α->Value)(k:Nat)(v:α)(hg:∀i,g i=h (f i)):
  ((List.range m).map g).set k (h v)=(List.range m).map fun i=>h (up f k v i):=by
 apply fU (by simp)
 grind [di,fN]
def RZ(m:Nat)(f:Nat->Bool)(k:Nat)(v:Bool):(iO m f).set k (.bool v)=iO m (up f k v):=xl m f _ .bool k v fun _=>rfl
def UC(m:Nat)(f:Nat->Int)(k:Nat)(v:Int):(oQ m f).set k (.int .i64 v)=oQ m (up f k v):=xl m f _ (.int .i64) k v fun _=>rfl
def U5(m:Nat):List.replicate m (.bool false)=iO m fun _=>false:=by
 apply fU (by simp);intro i I M;simp[iO]
def SZ(m:Nat):List.replicate m (.int .i64 0)=oQ m fun _=>0:=by
 apply fU (by simp);intro i I M;simp[oQ]
def NF(m:Nat):List.replicate m (.slice none 0 0)=ea m (fun _=>none) (fun _=>0) fun _=>0:=by
 apply fU (by simp);intro i I M;simp[ea]
def Rl(m:Nat)(A:Nat->am)(len c:Nat->Nat)(k:Nat)(A':am)(I c':Nat):
  (ea m A len c).set k (.slice A' I c')=ea m (up A k A') (up len k I) (up c k c'):=by
 grind [List.ext_getElem,List.length_set,Bb,ea,di,fN]
def IC(m:Nat)(A:Nat->am)(len c:Nat->Nat)(A':am)(I c':Nat):
  ea m A len c++[.slice A' I c']=ea (m+1) (up A m A') (up len m I) (up c m c'):=by
 grind [ea,List.range_succ,di,List.map_congr_left,fN]
section
variable{o:Oper}
variable {A A':am}{B:Nat->am}{Et bytes d i j k m:Nat}{c len:Nat->Nat}{kx ky:IntKind}{ops:Array Oper}{px:Int}{rest:List Oper}{t:TypeId}{x y:Operand}{xs:Nat->bi}
def PV.ni{f:Nat->Bool}(I:∀w,HA w0 F H w->Rd w (Old w) A (iO m f))(ht:Na P t)(ho:o.op=.load t x)(M:ev l x=some (bB A k))(hk:k<m):
  PV P n w0 F l H o (.bool (f k)):=PV.dR I ht ho M (by simp[iO,hk])
def PV.tM{f:Nat->Int}(I:∀w,HA w0 F H w->Rd w (Old w) A (oQ m f))(ht:Na P t)(ho:o.op=.load t x)(M:ev l x=some (bB A k))(hk:k<m):
  PV P n w0 F l H o (.int .i64 (f k)):=PV.dR I ht ho M (by simp[oQ,hk])
def PV.ta(I:∀w,HA w0 F H w->Rd w (Old w) A (ea m B len c))(ht:Na P t)(ho:o.op=.load t x)(M:ev l x=some (bB A k))(hk:k<m):
  PV P n w0 F l H o (.slice (B k) (len k) (c k)):=PV.dR I ht ho M (by simp[ea,hk])
variable {H':List HP}
def OW.mi{c:Nat}{b:Bool}{f:Nat->Bool}(I:∀w,(sizeOf t).run P w=.ok 1 w)(ho:o.op=.store t x y)(hg:gd ops l o.guard=some true)(hd:o.dst=none)(M:ev l x=some (bB A j))(Q:ev l y=some (.bool b))(hi:sel H i=some (HP.row Et 1 A m c (iO m f),H'))(Z:j<m)(k:OW P n w0 F ops K rest l (HP.row Et 1 A m c (iO m (up f j b))::H')):OW P n w0 F ops K (o::rest) l H:=
 OW.kG I ho hg hd M Q rfl rfl hi Z (by rw[RZ];exact k)
def OW.CR{c:Nat}{b:Int}{f:Nat->Int}(I:∀w,(sizeOf t).run P w=.ok 1 w)(ho:o.op=.store t x y)(hg:gd ops l o.guard=some true)(hd:o.dst=none)(M:ev l x=some (bB A j))(Q:ev l y=some (.int .i64 b))(hi:sel H i=some (HP.row Et 1 A m c (oQ m f),H'))(Z:j<m)(k:OW P n w0 F ops K rest l (HP.row Et 1 A m c (oQ m (up f j b))::H')):OW P n w0 F ops K (o::rest) l H:=
 OW.kG I ho hg hd M Q rfl rfl hi Z (by rw[UC];exact k)
def OW.Bq{cc M c':Nat}(I:∀w,(sizeOf t).run P w=.ok 1 w)(ho:o.op=.store t x y)(hg:gd ops l o.guard=some true)(hd:o.dst=none)(Q:ev l x=some (bB A j))(Z:ev l y=some (.slice A' M c'))(hi:sel H i=some (HP.row Et 1 A m cc (ea m B len c),H'))(hj:j<m)(k:OW P n w0 F ops K rest l (HP.row Et 1 A m cc (ea m (up B j A') (up len j M) (up c j c'))::H')):OW P n w0 F ops K (o::rest) l H:=
 OW.kG I ho hg hd Q Z rfl rfl hi hj (by rw[Rl];exact k)
def OW.gg{t:Nat}(m:Nat)(M:P.underlying t=some (.slice Et))(Q:In P Et (.bool false) 1 bytes)(ho:o.op=.makeSlice t x y)(hg:gd ops l o.guard=some true)(hd:o.dst=some d)(Z:Nat.blt d n.sz=true)(hx:ev l x=some (.int kx px))(hy:ev l y=some (.int ky px))(hm:px=(m:Int))(I:m<=maxLen)(hb:bytes*m<=281474976710656)(k:∀A,OW P n w0 F ops K rest ((d,.slice A m m)::l) (HP.row Et 1 A m m (iO m fun _=>false)::H)):OW P n w0 F ops K (o::rest) l H:=
 OW.make m M Q rfl ho hg hd Z hx hy hm I hb (fun A=>by rw[U5];exact k A)
def OW.Hy{t:Nat}(m:Nat)(M:P.underlying t=some (.slice Et))(Q:In P Et (.int .i64 0) 1 bytes)(ho:o.op=.makeSlice t x y)(hg:gd ops l o.guard=some true)(hd:o.dst=some d)(Z:Nat.blt d n.sz=true)(hx:ev l x=some (.int kx px))(hy:ev l y=some (.int ky px))(hm:px=(m:Int))(I:m<=maxLen)(hb:bytes*m<=281474976710656)(k:∀A,OW P n w0 F ops K rest ((d,.slice A m m)::l) (HP.row Et 1 A m m (oQ m fun _=>0)::H)):OW P n w0 F ops K (o::rest) l H:=
 OW.make m M Q rfl ho hg hd Z hx hy hm I hb (fun A=>by rw[SZ];exact k A)
def OW.pZ{t:Nat}(m:Nat)(M:P.underlying t=some (.slice Et))(Q:In P Et (.slice none 0 0) 1 bytes)(ho:o.op=.makeSlice t x y)(hg:gd ops l o.guard=some true)(hd:o.dst=some d)(Z:Nat.blt d n.sz=true)(hx:ev l x=some (.int kx px))(hy:ev l y=some (.int ky px))(hm:px=(m:Int))(I:m<=maxLen)(hb:bytes*m<=281474976710656)(k:∀A,OW P n w0 F ops K rest ((d,.slice A m m)::l) (HP.row Et 1 A m m (ea m (fun _=>none) (fun _=>0) fun _=>0)::H)):OW P n w0 F ops K (o::rest) l H:=
 OW.make m M Q rfl ho hg hd Z hx hy hm I hb (fun A=>by rw[NF];exact k A)
def HP.rows(Et m:Nat)(A:Nat->am)(len c:Nat->Nat)(xs:Nat->bi):HP:=HP.dj ((List.range m).map fun k=>HP.row Et 1 (A k) (len k) (c k) (xs k))
def IQ{α:Type}(m k:Nat)(hk:k<m)(f g:Nat->α)(hg:∀i,i≠k->g i=f i):∃r:List α,((List.range m).map f).Perm (f k::r)/\((List.range m).map g).Perm (g k::r):=by
 have hp:=List.perm_cons_erase (cu.2 hk);grind [List.map_congr_left,List.nodup_range]
variable {A:Nat->am}
def OW.NR{A':Nat->am}{len' c':Nat->Nat}{xs':Nat->bi}(i:Nat)(hi:E.sel H i=some (HP.rows Et m A len c xs,H'))(hk:k<m)(hg:∀j,j≠k->HP.row Et 1 (A' j) (len' j) (c' j) (xs' j)=HP.row Et 1 (A j) (len j) (c j) (xs j))(h:∀r:HP,(∀Q R (K1:Kt) (I:List Oper),OW P n w0 F ops K1 I Q (HP.rows Et m A' len' c' xs'::R)->OW P n w0 F ops K1 I Q (HP.row Et 1 (A' k) (len' k) (c' k) (xs' k)::r::R))->
   OW P n w0 F ops K rest l (HP.row Et 1 (A k) (len k) (c k) (xs k)::r::H')):OW P n w0 F ops K rest l H:=by
 obtain⟨r,Z,h2⟩:=IQ m k hk (fun k=>HP.row Et 1 (A k) (len k) (c k) (xs k)) (fun k=>HP.row Et 1 (A' k) (len' k) (c' k) (xs' k)) hg;intro a w ha M;refine h (HP.dj r) (fun Q R K1 I hc a w ha M=>hc a w ha {M with chunks:=ah.jx h2.symm (ah.mB M.chunks)}) a w ha ?_
 have hs:=M.sel hi;exact{hs with chunks:=ah.tG (ah.jx Z hs.chunks)}
def OW.Ew{N q:Nat}{D:Nat->Nat->Int}{b:Int}(I:∀w,(sizeOf t).run P w=.ok 1 w)(ho:o.op=.store t x y)(hg:gd ops l o.guard=some true)(hd:o.dst=none)(Q:ev l x=some (bB (A q) j))(Z:ev l y=some (.int .i64 b))(hi:sel H i=some (HP.rows Et m A (fun _=>N) c (fun k=>oQ N (D k)),H'))(hq:q<m)(hj:j<N)(k:OW P n w0 F ops K rest l (HP.rows Et m A (fun _=>N) c (fun k=>oQ N (up D q (up (D q) j b) k))::H')):OW P n w0 F ops K (o::rest) l H:=by
 refine OW.NR (A':=A) (len':=fun _=>N) (c':=c) (xs':=fun k=>oQ N (up D q (up (D q) j b) k)) i hi hq (fun s hs=>by rw[fN _ _ hs]) fun r M=>?_
 refine OW.CR (i:=0) I ho hg hd Q Z rfl hj ?_;grind [di]
def wx{I c':Nat}{ys:bi}{w:World}{U:Nat->Prop}{R:List HP}(h:ah w U (HP.row Et 1 A' I c' ys::HP.rows Et m A len c xs::R)):ah w U (HP.rows Et (m+1) (up A m A') (up len m I) (up c m c') (up xs m ys)::R):=by
 refine ah.jx ?_ (ah.mB h);rw[nz,dZ,jj,ki,di,di,di,di];grind [List.map_congr_left,fN,List.perm_append_comm]
def CW.Bj{I:Code}(k:CW P n w0 F I K l (HP.rows Et 0 A len c xs::H)):CW P n w0 F I K l H:=CW.conv (fun w U h=>h.oV) k
end
end E
end
namespace Bf
structure G where
 n:Nat
 K:Nat
 cell:Nat->Bool
 al:Nat->Nat->Bool
 nr:Nat->List Nat
 goal:Nat
structure G.ok(x:G):Prop where
 K0:0<x.K
 rV:∀p q,p<x.n->q∈x.nr p->q<x.n
 sym:∀p q,p<x.n->q∈x.nr p->p∈x.nr q
 zh:x.goal<x.n
 gal:∀k,k<x.K->x.al k x.goal=true
 EY:∀k p,x.al k p=true->x.cell p=true
def W(x:G):Nat->Nat->Nat->Prop
 |0,_,p=>p=x.goal
 |m+1,k,p=>∃q,q∈x.nr p/\x.al ((k+1)%x.K) q=true/\W x m ((k+1)%x.K) q
def vZ(x:G)(k:Nat):Nat:=(k+x.K-1)%x.K
variable {h i k p:Nat}{m:Int}{q:List (Nat×Nat)}{x:G}
def DV(h:x.ok)(k:Nat):vZ x k<x.K:=gk _ h.K0
def Dz(h:x.ok)(hk:k<x.K):(vZ x k+1)%x.K=k:=by
 have:=h.K0;unfold vZ;rcases tD k with rfl|I
 ·rw[show 0+x.K-1=x.K-1 by omega,fQ (show x.K-1<x.K by omega),show x.K-1+1=x.K by omega,Nat.mod_self]
 rw[show k+x.K-1=(k-1)+x.K by omega,oU,fQ (show k-1<x.K by omega),show k-1+1=k by omega,fQ hk]
theorem OS(h:x.ok)(hk:k<x.K):vZ x ((k+1)%x.K)=k:=by
 have:=h.K0;unfold vZ;rcases dd (k+1) x.K with I|I
 ·rw[fQ I,show k+1+x.K-1=k+x.K by omega,oU,fQ hk]
 grind [Nat.mod_self,Nat.mod_eq_of_lt]
abbrev DD:=Nat->Nat->Int
def eh(D:DD)(k p:Nat)(v:Int):DD:=fun k' I=>if k'=k/\I=p then v else D k' I
def oK(D:DD)(p k:Nat)(m:Int):DD:=if D k p<0 then eh D k p m else D
def sB(x:G)(D:DD)(q:List (Nat×Nat))(p k:Nat):List (Nat×Nat):=if D k p<0/\x.al k p=true then q++[(p,k)] else q
def at_(q:List (Nat×Nat))(i:Nat):Nat×Nat:=q.getD i (0,0)
theorem at_mem(h:i<q.length):at_ q i∈q:=by simp[at_,List.getD,h]
def EW{r:List (Nat×Nat)}(h:i<q.length):at_ (q++r) i=at_ q i:=by simp[at_,List.getD,List.getElem?_append_left h]
theorem Y7{s:Nat×Nat}:at_ (q++[s]) q.length=s:=by simp[at_,List.getD]
structure j8(x:G)(D:DD)(q:List (Nat×Nat))(h:Nat):Prop where
 mem:∀s,s∈q->s.1<x.n/\s.2<x.K/\x.al s.2 s.1=true/\0<=D s.2 s.1
 nd:q.Nodup
 tF:∀k p,k<x.K->p<x.n->D k p= -1\/(0<=D k p/\W x (D k p).toNat k p)
 Lo:∀k p,k<x.K->p<x.n->0<=D k p->x.al k p=true->(p,k)∈q
 so:∀i j,i<=j->j<q.length->D (at_ q i).2 (at_ q i).1<=D (at_ q j).2 (at_ q j).1
 le:h<q.length->∀k p,k<x.K->p<x.n->D k p<=D (at_ q h).2 (at_ q h).1+1
 ix:∀j,j<q.length->D (at_ q j).2 (at_ q j).1<=j
 bd:∀k p,k<x.K->p<x.n->D k p<=q.length
 pr:∀i,i<h->i<q.length->∀p,p∈x.nr (at_ q i).1->x.cell p=true->0<=D (vZ x (at_ q i).2) p/\D (vZ x (at_ q i).2) p<=D (at_ q i).2 (at_ q i).1+1
variable {D:DD}
def gj(b:j8 x D q h):q.length<=x.n*x.K:=by
 have I:q⊆(List.range x.n).flatMap fun p=>(List.range x.K).map fun k=>(p,k):=by
  intro s hs;obtain⟨I,M,_⟩:=b.mem s hs;grind
 have M:=b.nd.length_le_of_subset I
 have Q:((List.range x.n).flatMap fun p=>(List.range x.K).map fun k=>(p,k)).length=x.n*x.K:=by
  simp[List.length_flatMap,List.map_const']
 omega
def j8.Vb(ok:x.ok)(b:j8 x D q h)(hk:k<x.K)(hp:p<x.n)(hm:0<=m)(hw:W x m.toNat k p)(hq:∀k p,k<x.K->p<x.n->D k p<=m)(hi:m<=q.length)(hl:h<q.length->m<=D (at_ q h).2 (at_ q h).1+1)(hh:h<=q.length):
  j8 x (oK D p k m) (sB x D q p k) h:=by
 unfold oK sB;by_cases hd:D k p<0
 ·rw[aa hd]
  have hold:∀k' I,k'<x.K->I<x.n->0<=D k' I->eh D k p m k' I=D k' I:=by
   grind [eh]
  have M:∀s,s∈q->eh D k p m s.2 s.1=D s.2 s.1:=fun s hs=>hold _ _ (b.mem s hs).2.1 (b.mem s hs).1 (b.mem s hs).2.2.2;have hnew:eh D k p m k p=m:=by simp[eh]
  have hdm:∀k' I,k'<x.K->I<x.n->eh D k p m k' I<=m:=by
   grind [eh]
  have has:∀k' I,k'<x.K->I<x.n->eh D k p m k' I= -1\/(0<=eh D k p m k' I/\W x (eh D k p m k' I).toNat k' I):=by
   intro k' I Q Z;unfold eh;split
   ·grind
   exact b.tF k' I Q Z
  have hnin:(p,k)∉q:=fun hin=>by grind
  have hpr:∀i,i<h->i<q.length->∀I,I∈x.nr (at_ q i).1->x.cell I=true->0<=eh D k p m (vZ x (at_ q i).2) I/\eh D k p m (vZ x (at_ q i).2) I<=eh D k p m (at_ q i).2 (at_ q i).1+1:=by
   intro i Q Z I h3 h4;have h5:=b.pr i Q Z I h3 h4;have h6:=b.mem _ (at_mem Z);rw[hold _ _ (DV ok _) (ok.rV _ _ h6.1 h3) h5.1,M _ (at_mem Z)];exact h5
  by_cases ha:x.al k p=true
  ·rw[aa ⟨hd,ha⟩]
   have hat:∀i,i<(q++[(p,k)]).length->(i<q.length/\at_ (q++[(p,k)]) i=at_ q i)\/(i=q.length/\at_ (q++[(p,k)]) i=(p,k)):=by
    intro i Q;rw[aF,List.length_singleton] at Q;rcases dd i q.length with Z|Z
    ·exact .inl ⟨Z,EW Z⟩
    grind [Y7]
   refine⟨?_,?_,has,?_,?_,?_,?_,?_,?_⟩
   ·intro s hs;rcases aN.1 hs with Q|Q
    ·rw[M s Q];exact b.mem s Q
    grind
   ·exact jc.2 ⟨b.nd,by simp,fun s Q t Z e=>by grind⟩
   ·intro k' I Q Z h3 h4;by_cases e:k'=k/\I=p
    ·grind
    have:eh D k p m k' I=D k' I:=by unfold eh;rw[ae e]
    rw[this] at h3;exact aN.2 (.inl (b.Lo k' I Q Z h3 h4))
   ·intro i j hij hj;rcases hat j hj with⟨Q,Z⟩|⟨Q,Z⟩
    ·rw[Z,(EW (oI hij Q):at_ (q++[(p,k)]) i=_),M _ (at_mem Q),M _ (at_mem (oI hij Q))];exact b.so i j hij Q
    rw[Z];simp only;rw[hnew];rcases hat i K1 with⟨h3,h4⟩|⟨h3,h4⟩
    ·rw[h4];have:=b.mem _ (at_mem h3);grind
    grind
   ·intro _ k' I Q Z;have:=hdm k' I Q Z;rcases hat h (by simp;omega) with⟨h3,h4⟩|⟨h3,h4⟩
    ·rw[h4,M _ (at_mem h3)];have:=hl h3;omega
    grind
   ·intro j hj;rcases hat j hj with⟨Q,Z⟩|⟨Q,Z⟩
    ·rw[Z,M _ (at_mem Q)];exact b.ix j Q
    grind
   ·grind
   intro i Q Z I h3 h4;rcases hat i Z with⟨h5,h6⟩|⟨h5,h6⟩
   ·grind
   omega
  rw[ae (fun e=>ha e.2)];refine⟨?_,b.nd,has,?_,?_,?_,?_,?_,hpr⟩
  ·intro s hs;rw[M s hs];exact b.mem s hs
  ·intro k' I Q Z h3 h4;by_cases e:k'=k/\I=p
   ·grind
   have:eh D k p m k' I=D k' I:=by unfold eh;rw[ae e]
   rw[this] at h3;exact b.Lo k' I Q Z h3 h4
  ·intro i j hij hj;rw[M _ (at_mem hj),M _ (at_mem (oI hij hj))];exact b.so i j hij hj
  ·grind [at_mem]
  ·intro j hj;rw[M _ (at_mem hj)];exact b.ix j hj
  grind
 grind
def E7(h:¬D k p<0):sB x D q p k=q/\oK D p k m=D:=⟨ae fun e=>h e.1,ae h⟩
def zC(h:D k p<0)(ha:x.al k p=false):sB x D q p k=q/\oK D p k m=eh D k p m:=⟨ae fun e=>by grind,aa h⟩
def EC(h:D k p<0)(ha:x.al k p=true):sB x D q p k=q++[(p,k)]/\oK D p k m=eh D k p m:=⟨aa ⟨h,ha⟩,aa h⟩
def TZ(h:x.ok)(k:Nat):((k:Int)+(x.K:Int)-1)%(x.K:Int)=((vZ x k:Nat):Int):=by
 grind [G.ok.K0,vZ]
def qL{k' I:Nat}(h:0<=D k' I):oK D p k m k' I=D k' I:=by
 unfold oK;grind [eh]
def LO(I:0<=m):0<=oK D p k m k p/\(oK D p k m k p=m\/oK D p k m k p=D k p):=by
 unfold oK;grind [eh]
def TD:q.length<=(sB x D q p k).length:=by
 grind [sB]
def yU(h:i<q.length):at_ (sB x D q p k) i=at_ q i:=by
 unfold sB;split
 ·exact EW h
 rfl
structure Part(x:G)(D:DD)(q:List (Nat×Nat))(h j:Nat):Prop where
 b:j8 x D q h
 hl:h<q.length
 g:∀k,k<x.K->D k x.goal=0
 nb:∀i,i<j->i<(x.nr (at_ q h).1).length->x.cell ((x.nr (at_ q h).1).getD i 0)=true->
  0<=D (vZ x (at_ q h).2) ((x.nr (at_ q h).1).getD i 0)/\D (vZ x (at_ q h).2) ((x.nr (at_ q h).1).getD i 0)<=D (at_ q h).2 (at_ q h).1+1
def Part.skip{j:Nat}(a:Part x D q h j)(hc:x.cell ((x.nr (at_ q h).1).getD j 0)=false):Part x D q h (j+1):=
 ⟨a.b,a.hl,a.g,fun i Z M Q=>by
  rcases dd i j with I|I
  ·exact a.nb i I M Q
  grind⟩
theorem Part.Vb{x:G}(ok:x.ok){D:DD}{q:List (Nat×Nat)}{h j:Nat}(a:Part x D q h j)(hj:j<(x.nr (at_ q h).1).length)(hc:x.cell ((x.nr (at_ q h).1).getD j 0)=true):
  Part x (oK D ((x.nr (at_ q h).1).getD j 0) (vZ x (at_ q h).2) (D (at_ q h).2 (at_ q h).1+1)) (sB x D q ((x.nr (at_ q h).1).getD j 0) (vZ x (at_ q h).2)) h (j+1):=by
 obtain⟨M,Q,m3,m4⟩:=a.b.mem _ (at_mem a.hl);have hp:(x.nr (at_ q h).1).getD j 0∈x.nr (at_ q h).1:=by simp[List.getD,hj]
 have hn:=ok.rV _ _ M hp;have hb:=DV ok (at_ q h).2;have Z:=a.b.le a.hl;have hix:=a.b.ix h a.hl
 have hw:W x (D (at_ q h).2 (at_ q h).1+1).toNat (vZ x (at_ q h).2) ((x.nr (at_ q h).1).getD j 0):=by
  rw[show(D (at_ q h).2 (at_ q h).1+1).toNat=(D (at_ q h).2 (at_ q h).1).toNat+1 by omega]
  refine⟨(at_ q h).1,ok.sym _ _ M hp,?_,?_⟩
  ·rw[Dz ok Q];exact m3
  rw[Dz ok Q];rcases a.b.tF _ _ Q M with h1|⟨_,h1⟩
  ·omega
  exact h1
 have I:=a.b.Vb ok (p:=(x.nr (at_ q h).1).getD j 0) (k:=vZ x (at_ q h).2) (m:=D (at_ q h).2 (at_ q h).1+1) hb hn K1 hw Z (by have:=a.hl;omega) (fun _=>ov _) (by have:=a.hl;omega)
 refine⟨I,br a.hl TD,fun k hk=>?_,fun i h1 h2 h3=>?_⟩
 ·rw[qL (by rw[a.g k hk];omega)];exact a.g k hk
 rw[yU a.hl] at h2 h3⊢;rw[qL m4];rcases dd i j with h4|h4
 ·have h5:=a.nb i h4 h2 h3;rw[qL h5.1];exact h5
 have:i=j:=K1;subst this;have h5:=LO (D:=D) (p:=(x.nr (at_ q h).1).getD i 0) (k:=vZ x (at_ q h).2) (m:=D (at_ q h).2 (at_ q h).1+1) K1;grind
def j8.next(b:j8 x D q h)(hh:h<q.length)(hp:∀p,p∈x.nr (at_ q h).1->x.cell p=true->0<=D (vZ x (at_ q h).2) p/\D (vZ x (at_ q h).2) p<=D (at_ q h).2 (at_ q h).1+1):j8 x D q (h+1):=by
 refine{b with le:=fun Z k p I M=>?_,pr:=fun i Z I p M h4=>?_}
 ·have h4:=b.le hh k p I M;have Q:=b.so h (h+1) K1 Z;omega
 rcases dd i h with Q|Q
 ·exact b.pr i Q I p M h4
 grind
def Part.done{j:Nat}(a:Part x D q h j)(Q:(x.nr (at_ q h).1).length<=j):j8 x D q (h+1):=
 a.b.next a.hl fun p I M=>by
  obtain⟨i,hi,rfl⟩:=eC I
  have Z:=a.nb i K1 hi (by simpa[List.getD,hi] using M)
  grind
structure Start(x:G)(D:DD)(q:List (Nat×Nat))(j:Nat):Prop where
 b:j8 x D q 0
 g:∀k,k<j->D k x.goal=0
 o:∀k p,D k p= -1\/D k p=0
 u:∀k p,j<=k->D k p= -1
def Start.zero(x:G)(h:∀k p,D k p= -1):Start x D [] 0:=
 ⟨⟨(fun s hs=>absurd hs (by simp)),List.nodup_nil,fun k p _ _=>.inl (h k p),fun k p _ _ M _=>by rw[h k p] at M;omega,fun i j _ I=>by simp at I,fun h=>by simp at h,fun j I=>by simp at I,fun k p _ _=>by rw[h k p];simp,fun i h=>by omega⟩,
  fun k h=>by omega,fun k p=>.inl (h k p),fun k p _=>h k p⟩
theorem Start.Vb{x:G}(ok:x.ok){D:DD}{q:List (Nat×Nat)}{j:Nat}(a:Start x D q j)(Z:j<x.K):Start x (oK D x.goal j 0) (sB x D q x.goal j) (j+1):=by
 have hd:=a.u j x.goal (bb _);have I:∀k p,D k p<=0:=fun k p=>by rcases a.o k p with h|h<;>omega
 have M:oK D x.goal j 0=eh D j x.goal 0:=aa K1;refine⟨a.b.Vb ok Z ok.zh (ov _) rfl (fun k p _ _=>I k p) K1 (fun h=>?_) K1,fun k hk=>?_,fun k p=>?_,fun k p hk=>?_⟩
 ·have:=(a.b.mem _ (at_mem h)).2.2.2;omega
 ·rw[M];rcases dd k j with Q|Q
  ·unfold eh;rw[ae K1];exact a.g k Q
  have:k=j:=K1;subst this;simp[eh]
 ·rw[M];unfold eh;split
  ·exact .inr rfl
  exact a.o k p
 rw[M];unfold eh;rw[ae K1];exact a.u k p K1
def j8.part(b:j8 x D q h)(hl:h<q.length)(hg:∀k,k<x.K->D k x.goal=0):Part x D q h 0:=⟨b,hl,hg,fun i hi=>by omega⟩
theorem j8.min(ok:x.ok)(b:j8 x D q q.length)(hg:∀k,k<x.K->D k x.goal=0):
  ∀m k p,k<x.K->p<x.n->x.cell p=true->W x m k p->0<=D k p/\D k p<=m:=by
 intro m;induction m with
 |zero=>
  intro k p hk hp hc hw;have:p=x.goal:=hw;grind
 |succ m ih=>
  intro k p hk hp hc ⟨Q,h1,h2,h3⟩;have I:=ok.rV p Q hp h1;have M:(k+1)%x.K<x.K:=gk _ ok.K0;obtain⟨h4,h5⟩:=ih _ Q M I (ok.EY _ _ h2) h3;have h6:=b.Lo _ _ M I h4 h2;obtain⟨i,hi,he⟩:=eC h6;have Z:at_ q i=(Q,(k+1)%x.K):=by simp[at_,List.getD,hi,he]
  have h7:=b.pr i hi hi p (by rw[Z];exact ok.sym p Q hp h1) hc
  grind [OS]
def Ar(x:G)(k p:Nat)(v:Int):Prop:=(v= -1/\∀m,¬W x m k p)\/(0<=v/\v<=x.n*x.K/\W x v.toNat k p/\∀m,W x m k p->v<=m)
def j8.ar(ok:x.ok)(b:j8 x D q q.length)(hg:∀k,k<x.K->D k x.goal=0)(hk:k<x.K)(hp:p<x.n)(hc:x.cell p=true):Ar x k p (D k p):=by
 rcases b.tF k p hk hp with h|⟨M,Q⟩
 ·refine .inl ⟨h,fun m I=>?_⟩;have:=b.min ok hg m k p hk hp hc I;omega
 refine .inr ⟨M,?_,Q,fun m I=>(b.min ok hg m k p hk hp hc I).2⟩;have Z:=b.bd k p hk hp;have h4:=gj b;grind
def Ar.uniq{v u:Int}(h:Ar x k p v)(I:Ar x k p u):v=u:=by
 rcases h with⟨rfl,h⟩|⟨h1,_,Q,h3⟩<;>rcases I with⟨rfl,I⟩|⟨Z,_,M,h3'⟩
 ·rfl
 ·exact absurd M (h _)
 ·exact absurd Q (I _)
 grind
end Bf
section
variable{P:Program}{n:E.Fr}{w0:World}{F:Nat->Prop}{K:E.Kt}{l:E.Env}{H:List E.HP}
namespace Cf
def lI(g:C)(t:Int):C×Int:=if check g=0 then(if ag g.ts t then(only g t,0) else(zero,2)) else(zero,check g)
variable {g:C}{t:Int}{v:UInt8}
def q8{ts:List T}(h:ag ts t=true):0<=t/\t<ts.length:=by
 grind [ag]
theorem az(h:check g=0):Fl.cG g.a g.b g.l=true/\Fl.gp g.s=true/\bS g=true/\g.st<=4611686018427387904:=by
 grind [check]
def dw(h:bS g=true):1<=g.ts.length/\g.ts.length<=3:=by
 grind [bS]
def acb(I:¬(v.toNat:Int)=t+1)(M:¬(v.toNat:Int)=255):oc t v=0:=ae K1
def XE(h:(v.toNat:Int)=t+1\/(v.toNat:Int)=255):oc t v=v:=aa h
def abo(I:¬(v.toNat:Int)=t+1):os t v=0:=ae I
def Xc(h:(v.toNat:Int)=t+1):os t v=v:=aa h
def O0{g:E.aP}{m:E.Tm}(h:0<=t/\t<g.ts.length)(I:m.q=(g.ts.getD t.toNat E.Tm.z).q):((List.replicate g.ts.length E.Tm.z).set t.toNat m).map (·.q)=bV g.q.ts t g.q.ts.length:=by
 have e:=CK (ts:=g.q.ts) (t:=t) (by rw[E.aP.eJ];exact h)
 rw[<-e,mc,List.map_replicate,I,E.aP.lz,E.aP.eJ];rfl
theorem kM:zero.fit:=⟨by simp[zero,i64],by simp[zero,i64],by simp[zero],by simp[zero],by simp[zero],(fun t ht=>by cases ht),by simp[zero]⟩
theorem Nd(h:g.fit):(only g t).fit:=⟨h.a,h.b,by simp[only];exact h.l,by simp[only];exact h.s,by simp[only,bV];exact h.t,fun q I=>by
 simp only[only,bV,cm,cu] at I
 obtain⟨i,hi,rfl⟩:=I
 split
 ·exact h.m _ (by grind)
 ·exact T.Va,h.st⟩
def Km(h:g.fit):(lI g t).1.fit:=by
 grind [lI,Nd,kM]
end Cf
namespace E
section
def CW.chunk{c:Code}(i:Nat){p:HP}(I:HP){H':List HP}(hi:sel H i=some (p,H'))(M:p=I)(k:CW P n w0 F c K l (I::H')):CW P n w0 F c K l H:=fun a w ha Q=>k a w ha (M▸Q.sel hi)
end
end E
namespace Cf
def eo(n:Int):UInt8:=UInt8.ofNat (n%256).toNat
theorem jH(n:Int):IntKind.u8.wrap n=((eo n).toNat:Int):=by
 grind [eo,UInt8.toNat_ofNat',IntKind.wrap_u8]
def iT(l:bv):ap:=eo l.length::l.map eo
def nR(t:T):bv:=[t.n1,t.n2,t.n3,t.n4,t.n5]
def sE(t:T):ap:=iT t.h++if t.h.length=0 then[] else iT t.p++iT t.d++(nR t).map eo
def gJ(ts:List T)(k:Nat):ap:=(ts.take k).flatMap sE
def be(n:Int)(k:Nat):ap:=(List.range k).map fun(i:Nat)=>eo (n/256^(7-i))
def head(g:C):ap:=[eo g.a,eo g.b]++g.l++[eo g.s.length]++g.s++[eo g.ts.length]
def enc(g:C):ap:=head g++gJ g.ts g.ts.length++be g.st 8
def kZ(g:C):ap×Int:=if check g=0 then(enc g,0) else([],check g)
variable {g:C}{k:Nat}{ts:List T}
def qX(h:k<ts.length):ts.getD k T.z∈ts:=by
 grind
theorem oH(h:k<ts.length):gJ ts (k+1)=gJ ts k++sE (ts.getD k T.z):=by
 grind [gJ,List.take_add_one]
def yW(n:Int)(k:Nat):be n (k+1)=be n k++[eo (n/256^(7-k))]:=by
 grind [be,List.range_succ]
def wZ{l:bv}(h:k<l.length){x:UInt8}(e:eo (l.getD k 0)=x):(l.take k).map eo++[x]=(l.take (k+1)).map eo:=by
 grind [List.take_add_one]
theorem Ml(i:Nat):(256:Int)^i=2^(8*i):=by rw[show(256:Int)=2^8 from rfl,<-Int.pow_mul]
def UH(n:Int)(h:k<=7):IntKind.u8.wrap (n/2^min (8*(7-(k:Int))).toNat IntKind.u64.bits)=((eo (n/256^(7-k))).toNat:Int):=by
 grind [IntKind.bits,Ml,jH]
theorem OU(n:Int)(j:Nat):n/256^j/256=n/256^(j+1):=by
 rw[Int.pow_succ,Int.ediv_ediv_of_nonneg (Int.pow_nonneg K1)]
theorem Hl(n:Int):n%256=((eo n).toNat:Int):=by
 unfold eo;rw[UInt8.toNat_ofNat'];omega
def gY{n:Int}(h:0<=n/\n<256):n=((eo n).toNat:Int):=by
 unfold eo;rw[UInt8.toNat_ofNat'];omega
def small(t:T):Prop:=t.h.length<=3/\t.p.length<=3/\t.d.length<=3
def vj{t:T}(hk:bS g=true)(ht:t∈g.ts):small t:=by
 obtain⟨i,hi,rfl⟩:=eC ht;unfold bS at hk;simp only[ay,aJ,cu] at hk;have:=hk.1.1.1.2 i hi;unfold ib at this;have e:g.ts.getD i T.z=g.ts[i]:=by simp[List.getD,hi]
 rw[e,dI] at this;rcases this with h|h
 ·have:g.ts[i]=T.z:=bf h;rw[this];exact⟨by simp[T.z],by simp[T.z],by simp[T.z]⟩
 unfold aS at h;simp only[ay] at h;have:=cz h.1.1;exact⟨this.1.2,this.2.1.2,this.2.2.2⟩
theorem Oz{t:T}(h:small t):(sE t).length<=17:=by
 unfold sE iT nR;obtain⟨I,M,Q⟩:=h;grind
def Jp(h:∀t∈ts,small t):∀k,k<=ts.length->(gJ ts k).length<=17*k:=by
 intro k;induction k with
 |zero=>intro _;simp[gJ]
 |succ k I=>
  intro hk;grind [oH,Oz]
def LW(h:check g=0):(head g).length<=90:=by
 grind [az,Fl.jo,Fl.eX,head,only]
def xu(h:check g=0):∀t∈g.ts,small t:=fun t ht=>vj (az h).2.2.1 ht
def CD(h:check g=0)(hk:k<=g.ts.length):(head g++gJ g.ts k).length<=200:=by
 have I:=LW h;have M:=Jp (xu h) k hk;have Q:=dw (az h).2.2.1;grind
end Cf
namespace E
section
variable{o:Oper}
theorem PV.nilCheck{x:Operand}{ad:Addr}(ho:o.op=.nilCheck x)(I:ev l x=some (.pointer (some ad))):PV P n w0 F l H o (.pointer (some ad)):=fun a w ha _=>by
 simp[execOp,ho,ha.ev I]
theorem PV.shr{t M:TypeId}{x y:Operand}{k I:IntKind}{p q:Int}(ho:o.op=.binOp .shr t x y M)(Q:ev l x=some (.int k p))(Z:ev l y=some (.int I q))(hq:0<=q):PV P n w0 F l H o (.int k (p/2^min q.toNat k.bits)):=
 PV.bin ho Q Z fh fun w=>by
  rw[show binOp .shr t (.int k p) (.int I q)=Op.shift .shr k p I q from by simp[binOp],shift_shr_any k I p q hq];rfl
def PV.Ts{t I:TypeId}{x y:Operand}{p q:Int}(ho:o.op=.binOp .quo t x y I)(M:ev l x=some (.int .u64 p))(Q:ev l y=some (.int .u64 q))(hp:0<=p/\p<18446744073709551616)(hq:0<q):
  PV P n w0 F l H o (.int .u64 (p/q)):=
 PV.bin ho M Q fh fun w=>by
  have Z:p.tdiv q=p/q:=Int.tdiv_eq_ediv_of_nonneg hp.1
  have h2:0<=p/q:=nj hp.1 K1
  have h3:p/q<=p:=yO _ hp.1
  have:IntKind.u64.wrap (p/q)=p/q:=by rw[IntKind.wrap_u64];omega
  rw[binOp_quo]
  simp[Op.intDiv,show q≠0 by omega,Z,this]
def HP.Jd(B:Nat)(bs:ap):HP where
 bA S w:=∃A c,(HP.dj [HP.aw B 74 [.slice A bs.length c],HP.row 5 1 A bs.length c (aA bs)]).bA S w
 loc:=fun S w w' h ⟨A,c,I⟩=>⟨A,c,(HP.dj _).loc S w w' h I⟩
variable {A:am}{B:Nat}{H1:List HP}{S:Nat->Prop}{bs:ap}{ops:Array Oper}{rest:List Oper}{w:World}
def CW.Dp{c:Code}(i j:Nat){cc:Nat}{I:List HP}(hi:sel H i=some (HP.aw B 74 [.slice A bs.length cc],H1))(Q:sel H1 j=some (HP.row 5 1 A bs.length cc (aA bs),I))(k:CW P n w0 F c K l (HP.Jd B bs::I)):CW P n w0 F c K l H:=fun a w ha Z=>by
 have M:=Z.perm ((an hi).trans ((an Q).cons _))
 refine k a w ha {M with chunks:=?_}
 have h2:=ah.aX (ps:=[HP.aw B 74 [.slice A bs.length cc],HP.row 5 1 A bs.length cc (aA bs)]) (r:=I) M.chunks
 obtain⟨S,g1,g2,g3⟩:=h2
 exact⟨S,⟨A,cc,g1⟩,g2,g3⟩
def CW.VS{c:Code}(i:Nat)(hi:sel H i=some (HP.Jd B bs,H1))(k:∀A cc,CW P n w0 F c K l (HP.aw B 74 [.slice A bs.length cc]::HP.row 5 1 A bs.length cc (aA bs)::H1)):CW P n w0 F c K l H:=fun a w ha M=>by
 have I:=M.sel hi
 obtain⟨S,⟨A,cc,Q⟩,Z,g3⟩:=I.chunks
 exact k A cc a w ha {I with chunks:=ah.open (ps:=[HP.aw B 74 [.slice A bs.length cc],HP.row 5 1 A bs.length cc (aA bs)]) ⟨S,Q,Z,g3⟩}
def OW.Dp(i j:Nat){cc:Nat}{I:List HP}(hi:sel H i=some (HP.aw B 74 [.slice A bs.length cc],H1))(Q:sel H1 j=some (HP.row 5 1 A bs.length cc (aA bs),I))(k:OW P n w0 F ops K rest l (HP.Jd B bs::I)):OW P n w0 F ops K rest l H:=fun a w ha Z=>by
 have M:=Z.perm ((an hi).trans ((an Q).cons _))
 refine k a w ha {M with chunks:=?_}
 obtain⟨S,g1,g2,g3⟩:=ah.aX (ps:=[HP.aw B 74 [.slice A bs.length cc],HP.row 5 1 A bs.length cc (aA bs)]) (r:=I) M.chunks
 exact⟨S,⟨A,cc,g1⟩,g2,g3⟩
def Fm(w:World)(S:Nat->Prop):Nat->Prop:=fun k=>k<w.heap.size/\¬S k
def HA.au{p:HP}(I:p.bA S w)(M:∀k,S k->k<w.heap.size):HA w (Fm w S) [p] w:=
 ⟨rfl,rfl,rfl,bb _,fun _ h=>h.1,fun _ _=>rfl,S,I,fun k hk=>⟨M k hk,fun h=>h.2 hk⟩,trivial⟩
def HA.fD(h:HA w0 F H w){xs:bi}(I:Rd w0 F A xs)(M:∀k,S k->k<w.heap.size/\¬F k):Rd w (Fm w S) A xs:=fun Q=>by
 obtain⟨ad,rfl,hg,hc⟩:=I Q
 refine⟨ad,rfl,⟨br (h.z1 _ hg) h.size,fun hs=>(M _ hs).2 hg⟩,fun j u Z=>?_⟩
 rw[World.cell?_of_block (w:=w0) (a:=ad.add j) (by rw[Addr.gq];exact h.kept _ hg)]
 exact hc j u Z
def HA.vD(h:HA w0 F H w){m:Tm}(I:m.rd w0 F)(M:∀k,S k->k<w.heap.size/\¬F k):m.rd w (Fm w S):=⟨h.fD I.1 M,h.fD I.2.1 M,h.fD I.2.2 M⟩
def OW.chunk(i:Nat){p:HP}(I:HP){H':List HP}(hi:sel H i=some (p,H'))(M:p=I)(k:OW P n w0 F ops K rest l (I::H')):OW P n w0 F ops K rest l H:=fun a w ha Q=>k a w ha (M▸Q.sel hi)
end
end E
namespace E
variable {A:am}{Et m:Nat}{S:Nat->Prop}{cs xs:bi}{len:Nat->Nat}{w:World}
def Rd.mono{G:Nat->Prop}(h:Rd w S A xs)(hg:∀k,S k->G k):Rd w G A xs:=fun I=>by
 obtain⟨ad,M,Q,Z⟩:=h I;grind
def GG{sz c:Nat}(h:(HP.row Et sz A m c xs).bA S w):Rd w S A xs:=by
 intro hx;obtain⟨Q,h⟩:=h;rcases h.2 with⟨I,hm⟩|⟨g,cap,cur,I,_,hg,_,_,Z,ht⟩
 ·have M:=h.1;grind
 injection I with M h2 h3
 subst M;refine⟨_,rfl,(Q g).2 rfl,fun j u hu=>?_⟩;grind [Addr.add,cell_of_row]
def yl{B T:Nat}(h:(HP.aw B T cs).bA S w):Rd w S (some ⟨B,0,none⟩) cs:=fun Q=>by
 refine⟨_,rfl,(h.1 B).2 rfl,fun j u M=>?_⟩
 have I:(⟨B,0,none⟩:Addr).add j=⟨B,j,none⟩:=by unfold Addr.add;split<;>simp_all
 rw[I,cell_of_row w B j _ T (0,0) h.2]
 simpa using M
variable {ps:List HP}
def mE{p:HP}(hp:p∈ps):∀{S:Nat->Prop},yA w S ps->∃I:Nat->Prop,(∀k,I k->S k)/\p.bA I w:=by
 induction ps with
 |nil=>cases hp
 |cons q r M=>
  intro S ⟨Q,Z,h1,_,h3,h4⟩;grind
def pv{sz c:Nat}(h:(HP.dj ps).bA S w)(hp:HP.row Et sz A m c xs∈ps):Rd w S A xs:=by
 obtain⟨Q,I,M⟩:=mE hp h;exact(GG M).mono I
def SF{B T:Nat}(h:(HP.dj ps).bA S w)(hp:HP.aw B T cs∈ps):Rd w S (some ⟨B,0,none⟩) cs:=by
 obtain⟨Q,I,M⟩:=mE hp h;exact(yl M).mono I
variable {A:Nat->am}{xs:Nat->bi}
def DN{c:Nat->Nat}(h:(HP.rows Et m A len c xs).bA S w){k:Nat}(hk:k<m):Rd w S (A k) (xs k):=
 pv (Et:=Et) (sz:=1) (m:=len k) (c:=c k) h (cm.2 ⟨k,cu.2 hk,rfl⟩)
def Cp{c:Nat->Nat}(h:(HP.dj ps).bA S w)(hp:HP.rows Et m A len c xs∈ps){k:Nat}(hk:k<m):Rd w S (A k) (xs k):=by
 obtain⟨Q,I,M⟩:=mE hp h;exact(DN M hk).mono I
theorem ah.at_{i:Nat}{H H':List HP}{p:HP}{U:Nat->Prop}(hc:ah w U H)(hi:sel H i=some (p,H')):∃S:Nat->Prop,p.bA S w/\∀k,S k->k<w.heap.size/\¬U k:=by
 obtain⟨S,I,M,_⟩:=hc.perm (an hi);exact⟨S,I,M⟩
theorem HA.at_{w0 w:World}{F:Nat->Prop}{i:Nat}{H H':List HP}{p:HP}(h:HA w0 F H w)(hi:E.sel H i=some (p,H')):∃S:Nat->Prop,p.bA S w/\∀k,S k->k<w.heap.size/\¬F k:=h.chunks.at_ hi
structure Pl where
 B:Nat
 x:Bf.G
 Ac:am
 cc:Nat
 Aa:am
 ca:Nat
 Xa:Nat->am
 ua:Nat->Nat
 Ad:am
 cd:Nat
 Xd:Nat->am
 ud:Nat->Nat
 An:am
 cn:Nat
 Xn:Nat->am
 un:Nat->Nat
def nn(x:Bf.G)(p:Nat):bv:=(x.nr p).map fun(q:Nat)=>(q:Int)
@[simp] theorem aat (x:Bf.G) (p:Nat):(nn x p).length=(x.nr p).length:=by simp[nn]
def Wv(x:Bf.G)(p j:Nat):(nn x p).getD j 0=(((x.nr p).getD j 0:Nat):Int):=by
 grind [nn]
def Pl.cells(y:Pl):bi:=[.int .i64 (y.x.K:Int),.slice y.Ac y.x.n y.cc,.slice y.Aa y.x.K y.ca,.slice y.Ad y.x.K y.cd,.slice y.An y.x.n y.cn]
def Pl.v(y:Pl):Value:=.pointer (some ⟨y.B,0,none⟩)
structure Pl.rC(w:World)(G:Nat->Prop)(y:Pl):Prop where
 b:Rd w G (some ⟨y.B,0,none⟩) y.cells
 c:Rd w G y.Ac (iO y.x.n y.x.cell)
 a:Rd w G y.Aa (ea y.x.K y.Xa (fun _=>y.x.n) y.ua)
 ar:∀k,k<y.x.K->Rd w G (y.Xa k) (iO y.x.n (y.x.al k))
 d:Rd w G y.Ad (ea y.x.K y.Xd (fun _=>y.x.n) y.ud)
 n:Rd w G y.An (ea y.x.n y.Xn (fun p=>(y.x.nr p).length) y.un)
 nr:∀p,p<y.x.n->Rd w G (y.Xn p) (ints (nn y.x p))
def Pl.DU(w:World)(G:Nat->Prop)(y:Pl)(D:Nat->Nat->Int):Prop:=∀k,k<y.x.K->Rd w G (y.Xd k) (oQ y.x.n (D k))
def HP.fP(y:Pl)(D:Nat->Nat->Int):HP:=HP.rows 3 y.x.K y.Xd (fun _=>y.x.n) y.ud (fun k=>oQ y.x.n (D k))
def HP.y8(y:Pl):HP:=HP.dj [HP.aw y.B 120 y.cells,HP.row 4 1 y.Ac y.x.n y.cc (iO y.x.n y.x.cell),HP.row 116 1 y.Aa y.x.K y.ca (ea y.x.K y.Xa (fun _=>y.x.n) y.ua),HP.rows 4 y.x.K y.Xa (fun _=>y.x.n) y.ua (fun k=>iO y.x.n (y.x.al k)),
 HP.row 63 1 y.Ad y.x.K y.cd (ea y.x.K y.Xd (fun _=>y.x.n) y.ud),HP.row 63 1 y.An y.x.n y.cn (ea y.x.n y.Xn (fun p=>(y.x.nr p).length) y.un),HP.rows 3 y.x.n y.Xn (fun p=>(y.x.nr p).length) y.un (fun p=>ints (nn y.x p))]
def HP.jM(y:Pl)(D:Nat->Nat->Int):HP:=HP.dj [HP.y8 y,HP.fP y D]
theorem Pl.rC.mono{w:World}{S G:Nat->Prop}{y:Pl}(h:y.rC w S)(hg:∀k,S k->G k):y.rC w G:=
 ⟨h.b.mono hg,h.c.mono hg,h.a.mono hg,fun k hk=>(h.ar k hk).mono hg,h.d.mono hg,h.n.mono hg,fun k hk=>(h.nr k hk).mono hg⟩
theorem Pl.DU.mono{w:World}{S G:Nat->Prop}{y:Pl}{D:Nat->Nat->Int}(h:y.DU w S D)(hg:∀k,S k->G k):y.DU w G D:=fun k hk=>(h k hk).mono hg
def Ho{y:Pl}(h:(HP.y8 y).bA S w):y.rC w S where
 b:=SF (T:=120) h (by simp)
 c:=pv (Et:=4) (sz:=1) (m:=y.x.n) (c:=y.cc) h (by simp)
 a:=pv (Et:=116) (sz:=1) (m:=y.x.K) (c:=y.ca) h (by simp)
 ar:=fun k hk=>Cp (Et:=4) (len:=fun _=>y.x.n) (c:=y.ua) (xs:=fun k=>iO y.x.n (y.x.al k)) h (by simp) hk
 d:=pv (Et:=63) (sz:=1) (m:=y.x.K) (c:=y.cd) h (by simp)
 n:=pv (Et:=63) (sz:=1) (m:=y.x.n) (c:=y.cn) h (by simp)
 nr:=fun p hp=>Cp (Et:=3) (len:=fun p=>(y.x.nr p).length) (c:=y.un) (xs:=fun p=>ints (nn y.x p)) h (by simp) hp
def Dt{y:Pl}{D:Nat->Nat->Int}(h:(HP.fP y D).bA S w):y.DU w S D:=fun k hk=>DN (xs:=fun k=>oQ y.x.n (D k)) h hk
def CA{y:Pl}{D:Nat->Nat->Int}(h:(HP.jM y D).bA S w):y.rC w S/\y.DU w S D:=by
 obtain⟨S1,I,M⟩:=mE (p:=HP.y8 y) (by simp) h
 obtain⟨S2,Q,Z⟩:=mE (p:=HP.fP y D) (by simp) h
 exact⟨(Ho M).mono I,(Dt Z).mono Q⟩
section
variable{o:Oper}
theorem HA.rC{w:World}(h:HA w0 F H w){y:Pl}(I:y.rC w0 F):y.rC w (Old w):=
 ⟨h.rd I.b,h.rd I.c,h.rd I.a,fun k hk=>h.rd (I.ar k hk),h.rd I.d,h.rd I.n,fun k hk=>h.rd (I.nr k hk)⟩
variable {H':List HP}{S:Nat->Prop}{i:Nat}{w:World}
def HA.abE(h:HA w0 F H w){y:Pl}(I:y.rC w0 F)(M:∀k,S k->k<w.heap.size/\¬F k):y.rC w (Fm w S):=
 ⟨h.fD I.b M,h.fD I.c M,h.fD I.a M,fun k hk=>h.fD (I.ar k hk) M,h.fD I.d M,h.fD I.n M,fun k hk=>h.fD (I.nr k hk) M⟩
theorem HA.DU{w:World}(h:HA w0 F H w){y:Pl}{D:Nat->Nat->Int}(I:y.DU w0 F D):y.DU w (Old w) D:=fun k hk=>h.rd (I k hk)
def yI{y:Pl}(I:y.rC w0 F):∀w,HA w0 F H w->y.rC w (Old w):=fun w M=>M.rC I
def srd{y:Pl}{D:Nat->Nat->Int}(I:y.DU w0 F D):∀w,HA w0 F H w->y.DU w (Old w) D:=fun w M=>M.DU I
def aaH{y:Pl}{D:Nat->Nat->Int}(hi:sel H i=some (HP.fP y D,H')):∀w,HA w0 F H w->y.DU w (Old w) D:=fun w I=>by
 obtain⟨S,M,Q⟩:=I.at_ hi;exact(Dt M).mono fun k hk=>(Q k hk).1
def uO{y:Pl}{D:Nat->Nat->Int}(hi:sel H i=some (HP.jM y D,H')):∀w,HA w0 F H w->y.rC w (Old w):=fun w I=>by
 obtain⟨S,M,Q⟩:=I.at_ hi;exact(CA M).1.mono fun k hk=>(Q k hk).1
def KZ{y:Pl}{D:Nat->Nat->Int}(hi:sel H i=some (HP.jM y D,H')):∀w,HA w0 F H w->y.DU w (Old w) D:=fun w I=>by
 obtain⟨S,M,Q⟩:=I.at_ hi;exact(CA M).2.mono fun k hk=>(Q k hk).1
section
variable{y:Pl}{D:Nat->Nat->Int}
def ye(h:∀w,HA w0 F H w->y.rC w (Old w)):∀w,HA w0 F H w->Rd w (Old w) (some ⟨y.B,0,none⟩) y.cells:=fun w I=>(h w I).b
def ya(h:∀w,HA w0 F H w->y.rC w (Old w)):∀w,HA w0 F H w->Rd w (Old w) y.Ac (iO y.x.n y.x.cell):=fun w I=>(h w I).c
def p_a(h:∀w,HA w0 F H w->y.rC w (Old w)):∀w,HA w0 F H w->Rd w (Old w) y.Aa (ea y.x.K y.Xa (fun _=>y.x.n) y.ua):=fun w I=>(h w I).a
def abj(h:∀w,HA w0 F H w->y.rC w (Old w)){k:Nat}(hk:k<y.x.K):∀w,HA w0 F H w->Rd w (Old w) (y.Xa k) (iO y.x.n (y.x.al k)):=fun w I=>(h w I).ar k hk
def Rs(h:∀w,HA w0 F H w->y.rC w (Old w)):∀w,HA w0 F H w->Rd w (Old w) y.Ad (ea y.x.K y.Xd (fun _=>y.x.n) y.ud):=fun w I=>(h w I).d
def AZ(h:∀w,HA w0 F H w->y.rC w (Old w)):∀w,HA w0 F H w->Rd w (Old w) y.An (ea y.x.n y.Xn (fun p=>(y.x.nr p).length) y.un):=fun w I=>(h w I).n
def adf(h:∀w,HA w0 F H w->y.rC w (Old w)){p:Nat}(hp:p<y.x.n):∀w,HA w0 F H w->Rd w (Old w) (y.Xn p) (ints (nn y.x p)):=fun w I=>(h w I).nr p hp
def BG(h:∀w,HA w0 F H w->y.DU w (Old w) D){k:Nat}(hk:k<y.x.K):∀w,HA w0 F H w->Rd w (Old w) (y.Xd k) (oQ y.x.n (D k)):=fun w I=>h w I k hk
end
variable {A:am}{B:Nat->am}{H1 H2:List HP}{cs:bi}{m:Nat}{ops:Array Oper}{q:List (Nat×Nat)}{rest:List Oper}{t:TypeId}{x:Operand}
def PV.nk{B j:Nat}{v:Value}(I:∀w,HA w0 F H w->Rd w (Old w) (some ⟨B,0,none⟩) cs)(ht:Na P t)(ho:o.op=.load t x)(Q:ev l x=some (.pointer (some ⟨B,j,none⟩)))(M:cs[j]? =some v):PV P n w0 F l H o v:=by
 refine PV.dR (A:=some ⟨B,0,none⟩) (k:=j) I ht ho ?_ M;grind [bB,Addr.add]
def PV.nQ{k N:Nat}{c:Nat->Nat}(I:∀w,HA w0 F H w->Rd w (Old w) A (ea m B (fun _=>N) c))(ht:Na P t)(ho:o.op=.load t x)(M:ev l x=some (bB A k))(hk:k<m):
  PV P n w0 F l H o (.slice (B k) N (c k)):=PV.ta I ht ho M hk
def PV.Ig{k:Nat}{g:Bf.G}{c:Nat->Nat}(I:∀w,HA w0 F H w->Rd w (Old w) A (ea m B (fun p=>(g.nr p).length) c))(ht:Na P t)(ho:o.op=.load t x)(M:ev l x=some (bB A k))(hk:k<m):
  PV P n w0 F l H o (.slice (B k) (g.nr k).length (c k)):=PV.ta I ht ho M hk
def PV.Rx{j p:Nat}{g:Bf.G}(I:∀w,HA w0 F H w->Rd w (Old w) A (ints (nn g p)))(ht:Na P t)(ho:o.op=.load t x)(M:ev l x=some (bB A j))(Q:j<(g.nr p).length):
  PV P n w0 F l H o (.int .i64 (((g.nr p).getD j 0:Nat):Int)):=by
 have h:=PV.qf (P:=P) (n:=n) I ht ho M (by simpa using Q)
 rwa[Wv] at h
def qI(q:List (Nat×Nat)):List (Int×Int):=q.map fun s=>((s.1:Int),(s.2:Int))
@[simp] theorem I5 (q:List (Nat×Nat)):(qI q).length=q.length:=by simp[qI]
def Pg(q:List (Nat×Nat))(j:Nat):(qI q).getD j (0,0)=(((Bf.at_ q j).1:Int),((Bf.at_ q j).2:Int)):=by
 grind [qI,Bf.at_]
def TQ(q:List (Nat×Nat))(p k:Nat):pairs (qI (q++[(p,k)]))=pairs (qI q)++[.int .i64 (p:Int),.int .i64 (k:Int)]:=by
 have:∀a b:List (Int×Int),pairs (a++b)=pairs a++pairs b:=by
  intro a b;induction a with
  |nil=>rfl
  |cons x r I=>simp only[jC,pairs,I]
 simp only[qI,dZ,jj,ki,this];rfl
def HP.MP(B:Nat)(q:List (Nat×Nat))(h:Nat):HP where
 bA S w:=∃A c,(HP.dj [HP.aw B 235 [.slice A q.length c,.int .i64 (h:Int)],HP.row 238 2 A q.length c (pairs (qI q))]).bA S w
 loc:=fun S w w' h ⟨A,c,I⟩=>⟨A,c,(HP.dj _).loc S w w' h I⟩
def OW.kz(h:∀w U,ah w U H->ah w U H')(k:OW P n w0 F ops K rest l H'):OW P n w0 F ops K rest l H:=fun a w ha I=>k a w ha {I with chunks:=h w _ I.chunks}
def AW.conv{M:List HP}{T:List Nat}{fuel:Nat}{I:Array Bool}(h:∀w U,ah w U H->ah w U H')(k:AW P n w0 F ops K M T fuel I l H'):AW P n w0 F ops K M T fuel I l H:=fun a w ha Q=>k a w ha {Q with chunks:=h w _ Q.chunks}
def yV{is:List Nat}(hs:E.sels H is=some H'):∀w U,ah w U H->ah w U H':=fun _ _ h=>ch hs h
theorem cg(i:Nat){p:HP}(I:HP)(hi:sel H i=some (p,H'))(M:p=I):∀w U,ah w U H->ah w U (I::H'):=fun _ _ h=>M▸h.perm (an hi)
def ec(is:List Nat)(m:Nat){ps r:List HP}(hs:E.sels H is=some H1)(I:spl H1 m=some (ps,r)):∀w U,ah w U H->ah w U (HP.dj ps::r):=fun w U h=>by
 grind [ch,rJ,ah.aX]
variable {B:Nat}
def pd(i j:Nat){cc h:Nat}{xs:bi}(hi:sel H i=some (HP.aw B 235 [.slice A m cc,.int .i64 (h:Int)],H1))(I:sel H1 j=some (HP.row 238 2 A m cc xs,H2))(M:m=q.length)(Q:xs=pairs (qI q)):
  ∀w U,ah w U H->ah w U (HP.MP B q h::H2):=fun w U hc=>by
 subst M Q
 have Z:=hc.perm ((an hi).trans ((an I).cons _))
 obtain⟨S,g1,g2,g3⟩:=ah.aX (ps:=[HP.aw B 235 [.slice A q.length cc,.int .i64 (h:Int)],HP.row 238 2 A q.length cc (pairs (qI q))]) (r:=H2) Z
 exact⟨S,⟨A,cc,g1⟩,g2,g3⟩
def MH(y:Pl)(D:Nat->Nat->Int)(k p:Nat)(m:Int):HP.rows 3 y.x.K y.Xd (fun _=>y.x.n) y.ud (fun k'=>oQ y.x.n (up D k (up (D k) p m) k'))=HP.fP y (Bf.eh D k p m):=by
 unfold HP.fP;congr 1;funext k';congr 1;funext i;unfold up Bf.eh;by_cases h1:k'=k
 ·simp_all
 simp[h1]
def OW.vw{o:Oper}{d:Nat}{f:Nat}{fo:Operand}{xs:List Operand}{ts:Array TypeId}{vs aE:bi}(Q:Nm P f)(hg:gd ops l o.guard=some true)(hd:o.dst=some d)(hn:Nat.blt d n.sz=true)(ho:o.op=.call {callee:=.value fo,args:=xs.toArray,argTypes:=ts})(hfo:ev l fo=some (.func (.func f) #[] aE.toArray))(hx:evs l xs=some vs)(R:Value->List HP->Prop)(i:Nat){p:HP}(hi:E.sel H i=some (p,H'))(h:∀w S,HA w0 F (p::H') w->p.bA S w->(∀k,S k->k<w.heap.size/\¬F k)->ah w (fun k=>F k\/S k) H'->Calls P f (vs++aE).toArray w (bK w (fun k=>k<w.heap.size/\¬S k) R))(k:∀v Hn,R v Hn->OW P n w0 F ops K rest ((d,v)::l) (Hn++H')):OW P n w0 F ops K (o::rest) l H:=fun a w ha Z=>by
 refine wpListIn_step fun K' hK'=>?_
 rw[aa (ha.wanted hg)]
 refine gP (kp Q (ha.ev hfo) ho (ha.evs hx)) ?_
 have hw1:=Z.perm (an hi)
 obtain⟨S,h1,h2,h3⟩:=hw1.chunks
 have M:=h w S hw1 h1 h2 h3
 rw[show(vs++aE).toArray=vs.toArray++aE.toArray by simp] at M
 refine M.mono fun e w' ⟨v,Hn,he,hR,I⟩=>?_
 refine⟨v,he,?_⟩
 rw[hd]
 refine hK' _ _ (k v Hn hR _ _ (ha.put hn v) ?_)
 have hF:∀k,F k->k<w.heap.size/\¬S k:=fun k Q=>⟨br (Z.z1 k Q) Z.size,fun hs=>(h2 k hs).2 Q⟩
 refine⟨I.os.trans Z.os,I.tape.trans Z.tape,I.output.trans Z.output,ic Z.size I.size,Z.z1,fun k Q=>(I.kept k (hF k Q)).trans (Z.kept k Q),?_⟩
 refine ah.app (G:=fun k=>k<w.heap.size/\¬S k) ?_ ?_
 ·exact I.chunks.congr fun k=>⟨.inr,fun hk'=>hk'.elim (hF k) id⟩
 ·exact fj.of (w:=w) I.size (fun k hk'=>I.kept k hk') (U:=fun k=>F k\/S k) (fun k hlt hn=>⟨hlt,fun hs=>hn (.inr hs)⟩) (fun k Q=>.inl Q) h3
def We{y:Pl}(hc:ah w (fun k=>F k\/S k) H')(hi:sel H' i=some (HP.y8 y,H2)):y.rC w (Fm w S):=by
 obtain⟨T,M,I⟩:=hc.at_ hi;exact(Ho M).mono fun k hk=>⟨(I k hk).1,fun hs=>(I k hk).2 (.inr hs)⟩
def zu{T:Nat}(hc:ah w (fun k=>F k\/S k) H')(hi:sel H' i=some (HP.aw B T cs,H2)):Rd w (Fm w S) (some ⟨B,0,none⟩) cs:=by
 obtain⟨T,M,I⟩:=hc.at_ hi;exact(yl M).mono fun k hk=>⟨(I k hk).1,fun hs=>(I k hk).2 (.inr hs)⟩
def CW.Po{c:Code}(i:Nat){h:Nat}(hi:sel H i=some (HP.MP B q h,H1))(k:∀A cc,CW P n w0 F c K l (HP.aw B 235 [.slice A q.length cc,.int .i64 (h:Int)]::HP.row 238 2 A q.length cc (pairs (qI q))::H1)):CW P n w0 F c K l H:=fun a w ha M=>by
 have I:=M.sel hi
 obtain⟨S,⟨A,cc,Q⟩,Z,g3⟩:=I.chunks
 exact k A cc a w ha {I with chunks:=ah.open (ps:=[HP.aw B 235 [.slice A q.length cc,.int .i64 (h:Int)],HP.row 238 2 A q.length cc (pairs (qI q))]) ⟨S,Q,Z,g3⟩}
end
end E
namespace E
section
variable{o:Oper}{α:Type}{f:α->bi}{sz:Nat}
variable {A:am}{Et c d i j k m off s:Nat}{H' Hn:List HP}{aE:Array Value}{ops:Array Oper}{p:HP}{rest:List Oper}{t:TypeId}{ts:Array TypeId}{v:Value}{vs:bi}{w:World}{x y:Operand}{xs:List α}
def PV.oq{f:Nat}{xs:bi}(I:∀w,HA w0 F H w->Rd w (Old w) A xs)(M:FG P s f off)(ho:o.op=.fieldAddr s x f)(Q:ev l x=some (bB A k))(hk:k<xs.length):
  PV P n w0 F l H o (bB A (k+off)):=fun a w ha Z=>by
 obtain⟨ad,h1,_⟩:=I w Z K1
 subst h1
 have h2:ev l x=some (.pointer (some (ad.add k))):=Q
 simp[execOp,ho,ha.ev h2,M (ad.add k) w,bB,Addr.ku]
def PV.eU{f':Nat}(I:Fx f sz)(M:∀w,HA w0 F H w->Rd w (Old w) A (fl f xs))(Q:FG P s f' off)(ho:o.op=.fieldAddr s x f')(Z:ev l x=some (bB A (k*sz)))(hk:k<xs.length):
  PV P n w0 F l H o (bB A (k*sz+off)):=PV.oq M Q ho Z (by rw[I.ct];exact br (by have:=I.pos;rw[jw];omega) (qp sz hk))
def PV.Ex{f':Nat}(I:Fx f sz)(M:∀w,HA w0 F H w->Rd w (Old w) A (fl f xs))(Q:FG P s f' off)(ho:o.op=.fieldAddr s x f')(Z:ev l x=some (bB A (k*sz+j)))(hk:k<xs.length)(hj:Nat.blt j sz=true):
  PV P n w0 F l H o (bB A (k*sz+(j+off))):=by
 have hj:j<sz:=by simp_all
 have h:=PV.oq (n:=n) M Q ho Z (by rw[I.ct];exact br (by rw[jw];omega) (qp sz hk))
 rwa[Nat.add_assoc] at h
def PV.oZ(z:α)(I:Fx f sz)(M:∀w,HA w0 F H w->Rd w (Old w) A (fl f xs))(ht:Na P t)(ho:o.op=.load t x)(Q:ev l x=some (bB A (k*sz+j)))(hk:k<xs.length)(Z:(f (xs.getD k z))[j]? =some v):PV P n w0 F l H o v:=PV.dR M ht ho Q (I.get hk Z)
def PV.kv(z:α)(I:Fx f sz)(M:∀w,HA w0 F H w->Rd w (Old w) A (fl f xs))(ht:Is P t m)(ho:o.op=.load t x)(Q:ev l x=some (bB A (k*sz+j)))(hk:k<xs.length)(hs:slc (f (xs.getD k z)) j m=some vs)(Z:0<m):PV P n w0 F l H o (.agg vs.toArray):=by
 obtain⟨h1,h2⟩:=oR hs;subst h1;refine PV.iL M ht Z ho Q fun i v hv=>?_;rw[Nat.add_assoc];exact I.get hk (h2 i v hv)
def PV.MZ{B:Nat}{cs:bi}(I:∀w,HA w0 F H w->Rd w (Old w) (some ⟨B,0,.none⟩) cs)(ht:Is P t m)(ho:o.op=.load t x)(hx:ev l x=some (.pointer (some ⟨B,j,.none⟩)))(hs:slc cs j m=some vs)(M:0<m):PV P n w0 F l H o (.agg vs.toArray):=by
 obtain⟨Q,Z⟩:=oR hs;subst Q;refine PV.iL (A:=some ⟨B,0,.none⟩) (k:=j) I ht M ho ?_ Z;grind [bB,Addr.add]
def OW.um{xs xs':bi}(hsz:∀w,(sizeOf t).run P w=.ok vs.length w)(ho:o.op=.store t x y)(hg:gd ops l o.guard=some true)(hd:o.dst=none)(hx:ev l x=some (bB A j))(hy:ev l y=some v)(hc:v.cells=vs.toArray)(h1:∀u∈vs,u.oneCell'=true)(hp:0<vs.length)(hi:sel H i=some (HP.row Et sz A m c xs,H'))(hw':wr xs j vs=some xs')(k:OW P n w0 F ops K rest l (HP.row Et sz A m c xs'::H')):OW P n w0 F ops K (o::rest) l H:=
 OW.act hg hd (fun a w ha hw=>by
  have I:=hw.row hi
  obtain⟨hle,hxs'⟩:=pH hw'
  rcases I.2 with⟨hv,hm0⟩|⟨g,cap,cur,hv,_,M,hnc,Q,wj,htk⟩
  ·have:=I.1;grind
  ·injection hv with hA _ hcc
   subst hA hcc
   have hx':ev l x=some (.pointer (some ⟨g,j,.none⟩)):=by
    grind [bB,Addr.add]
   have hxl:xs.length=m*sz:=I.1;have hmc:m*sz<=cur.size:=by grind
   have Z:=run_storeCells_at P g j Et vs 0 cur w M (by simp;omega) h1
   refine⟨w.setRow g (cur.toList.take j++vs++cur.toList.drop (j+vs.length)).toArray,?_,?_⟩
   ·simp[execOp,ho,ha.ev hx',ha.ev hy,Instr.storeAt,Instr.sureAddr,storeVar,hc,hsz w];simp at Z;rw[Z];rfl
   refine(hw.sel hi).ox (A:=some ⟨g,0,.none⟩) (A':=some ⟨g,0,.none⟩) (m:=m) (m':=m) (c:=c) (c':=c) (xs:=xs) ?_ ?_ (.inl rfl)
   ·refine⟨rfl,rfl,rfl,by simp[World.setRow],fun k hk hne=>?_⟩
    grind [World.setRow,Value.ownBlock]
   refine⟨by grind,.inr ⟨g,c,_,rfl,bF _,setRow_heap w g cur _ Et _ M,hnc,Q,?_,?_⟩⟩
   ·grind
   grind [mj]) k
def OW.u6(u z:α)(I:Fx f sz)(M:∀w,(sizeOf t).run P w=.ok sz w)(ho:o.op=.store t x y)(hg:gd ops l o.guard=some true)(hd:o.dst=none)(Q:ev l x=some (bB A (k*sz)))(Z:ev l y=some (.agg (f u).toArray))(hi:sel H i=some (HP.row Et sz A m c (fl f xs),H'))(hk:k<xs.length)(k':OW P n w0 F ops K rest l (HP.row Et sz A m c (fl f (xs.set k u))::H')):OW P n w0 F ops K (o::rest) l H:=
 OW.um (vs:=f u) (by rw[I.len];exact M) ho hg hd Q Z rfl (I.one u) (by rw[I.len];exact I.pos) hi (by
  have h:=I.set (z:=z) (j:=0) (vs:=f u) (x':=u) hk (E5 _ _ (by rw[I.len,I.len]))
  rwa[Nat.add_zero] at h) k'
def OW.kr(u z:α)(Q:Fx f sz)(I:∀w,(sizeOf t).run P w=.ok vs.length w)(ho:o.op=.store t x y)(hg:gd ops l o.guard=some true)(hd:o.dst=none)(Z:ev l x=some (bB A (k*sz+j)))(hy:ev l y=some v)(hc:v.cells=vs.toArray)(h1:vs.all (·.oneCell')=true)(hp:0<vs.length)(hi:sel H i=some (HP.row Et sz A m c (fl f xs),H'))(M:wr (f (xs.getD k z)) j vs=some (f u))(hk:k<xs.length)(k':OW P n w0 F ops K rest l (HP.row Et sz A m c (fl f (xs.set k u))::H')):OW P n w0 F ops K (o::rest) l H:=
 OW.um (vs:=vs) I ho hg hd Z hy hc (fun u hu=>aJ.1 h1 u hu) hp hi (Q.set hk M) k'
def OW.dJ{s:Operand}{t bytes cc:Nat}{z:Value}{zs:bi}{A2:am}{u:α}{H2 I:List HP}(hf:Fx f sz)(hT:P.underlying t=some (.slice Et))(hI:In P Et z sz bytes)(hz:z.cells=zs.toArray)(M:zs.length=sz)(ho:o.op=.call {callee:=.builtin .append,args:= #[s,x],argTypes:= #[t,t]})(hg:gd ops l o.guard=some true)(hd:o.dst=some d)(hn:Nat.blt d n.sz=true)(hs:ev l s=some (.slice A xs.length c))(hx:ev l x=some (.slice A2 1 cc))(hj:sel H j=some (HP.row Et sz A2 1 cc (fl f [u]),H2))(hi:sel H2 i=some (HP.row Et sz A xs.length c (fl f xs),I))(hb:(xs.length+1)*bytes<=140737488355328)(Q:xs.length+1<=maxLen)(k:∀A' c',OW P n w0 F ops K rest ((d,.slice A' (xs++[u]).length c')::l) (HP.row Et sz A' (xs++[u]).length c' (fl f (xs++[u]))::I)):OW P n w0 F ops K (o::rest) l H:=by
 have Z:=(an hj).trans ((an hi).cons _|>.trans (List.Perm.swap _ _ _))
 exact fun a w ha hw=>OW.qA (H:=HP.row Et sz A xs.length c (fl f xs)::HP.row Et sz A2 1 cc (fl f [u])::I) (i:=0) (H':=HP.row Et sz A2 1 cc (fl f [u])::I) (ys:=[u]) hf hT hI hz M ho hg hd hn hs hx rfl
  (fun w hw=>hw.bh (i:=1) rfl) hb Q (fun A' c'=>OW.drop 1 rfl (k A' c')) a w ha (hw.perm Z)
def HA.turn{w':World}{S:Nat->Prop}(M:HA w0 F (p::H') w)(h2:∀k,S k->k<w.heap.size/\¬F k)(h3:ah w (fun k=>F k\/S k) H')(I:HA w (fun k=>k<w.heap.size/\¬S k) Hn w'):HA w0 F (Hn++H') w':=by
 have hF:∀k,F k->k<w.heap.size/\¬S k:=fun k Q=>⟨br (M.z1 k Q) M.size,fun hs=>(h2 k hs).2 Q⟩;refine⟨I.os.trans M.os,I.tape.trans M.tape,I.output.trans M.output,ic M.size I.size,M.z1,fun k Q=>(I.kept k (hF k Q)).trans (M.kept k Q),?_⟩;refine ah.app (G:=fun k=>k<w.heap.size/\¬S k) ?_ ?_
 ·exact I.chunks.congr fun k=>⟨.inr,fun Z=>Z.elim (hF k) id⟩
 exact fj.of (w:=w) I.size (fun k Z=>I.kept k Z) (U:=fun k=>F k\/S k) (fun k hlt hn=>⟨hlt,fun hs=>hn (.inr hs)⟩) (fun k Q=>.inl Q) h3
variable {xs:List Operand}
def OW.eR{o:Oper}{f:Nat}{fo:Operand}(hf:Nm P f)(hg:gd ops l o.guard=some true)(hd:o.dst=some d)(hn:Nat.blt d n.sz=true)(ho:o.op=.call {callee:=.value fo,args:=xs.toArray,argTypes:=ts})(hfo:ev l fo=some (.func (.func f) #[] aE))(hx:evs l xs=some vs)(R:Value->List HP->Prop)(X:List PanicEntry->List HP->Prop)(i:Nat)(hi:E.sel H i=some (p,H'))(h:∀w S,HA w0 F (p::H') w->p.bA S w->(∀k,S k->k<w.heap.size/\¬F k)->ah w (fun k=>F k\/S k) H'->Calls P f (vs.toArray++aE) w (db w (fun k=>k<w.heap.size/\¬S k) R X))(hX:∀c Q,X c Q->K (.panic c) l (Q++H'))(k:∀v Hn,R v Hn->OW P n w0 F ops K rest ((d,v)::l) (Hn++H')):OW P n w0 F ops K (o::rest) l H:=fun a w ha hw=>by
 refine wpListIn_step fun K' hK'=>?_
 rw[aa (ha.wanted hg)]
 refine rN (kp hf (ha.ev hfo) ho (ha.evs hx)) ?_
 have I:=hw.perm (an hi)
 obtain⟨S,h1,h2,h3⟩:=I.chunks
 refine(h w S I h1 h2 h3).mono fun e w' Z=>?_
 rcases Z with⟨v,Hn,Z,hR,M⟩|⟨c,Q,Z,hc,M⟩
 ·refine .inl ⟨v,Z,?_⟩
  rw[hd]
  exact hK' _ _ (k v Hn hR _ _ (ha.put hn v) (I.turn h2 h3 M))
 ·exact .inr ⟨c,Z,l,Q++H',ha,I.turn h2 h3 M,hX c Q hc⟩
def OW.NL{o:Oper}{f:Nat}{fo:Operand}(hf:Nm P f)(hg:gd ops l o.guard=some true)(hd:o.dst=some d)(hn:Nat.blt d n.sz=true)(ho:o.op=.call {callee:=.value fo,args:=xs.toArray,argTypes:=ts})(M:ev l fo=some (.func (.func f) #[] aE))(hx:evs l xs=some vs)(R:Value->List HP->Prop)(i:Nat)(hi:E.sel H i=some (p,H'))(h:∀w S,HA w0 F (p::H') w->p.bA S w->(∀k,S k->k<w.heap.size/\¬F k)->ah w (fun k=>F k\/S k) H'->Calls P f (vs.toArray++aE) w (bK w (fun k=>k<w.heap.size/\¬S k) R))(k:∀v Hn,R v Hn->OW P n w0 F ops K rest ((d,v)::l) (Hn++H')):OW P n w0 F ops K (o::rest) l H:=fun a w ha hw=>by
 refine wpListIn_step fun K' Q=>?_
 rw[aa (ha.wanted hg)]
 refine gP (kp hf (ha.ev M) ho (ha.evs hx)) ?_
 have I:=hw.perm (an hi)
 obtain⟨S,h1,h2,h3⟩:=I.chunks
 refine(h w S I h1 h2 h3).mono fun e w' ⟨v,Hn,he,hR,Z⟩=>?_
 refine⟨v,he,?_⟩
 rw[hd]
 exact Q _ _ (k v Hn hR _ _ (ha.put hn v) (I.turn h2 h3 Z))
def HA.one(h:HA w0 F (p::H') w):HA w0 F [p] w:={h with chunks:=by obtain⟨S,I,M,_⟩:=h.chunks;exact⟨S,I,M,trivial⟩}
def HA.qS(h:HA w0 F (Hn++H) w):HA w0 F (HP.dj Hn::H) w:={h with chunks:=h.chunks.aX}
def HA.Dm(h:HA w0 F (HP.dj Hn::H) w):HA w0 F (Hn++H) w:={h with chunks:=h.chunks.open}
theorem OW.qS{ops:Array Oper}{rest:List Oper}{Hn:List HP}(k:OW P n w0 F ops K rest l (HP.dj Hn::H)):OW P n w0 F ops K rest l (Hn++H):=fun a w ha I=>k a w ha I.qS
def HA.behind{M:World}(Q:HA w0 F H w)(I:HA w (Old w) Hn M):HA w0 F (Hn++H) M:=Q.make I.os I.tape I.output I.size (fun k hk=>I.kept k hk) I.chunks
def TI{I:Func}{r M:ResultVar}{v2:Value}{a:Act}(ha:Ag n l a)(Q:HA w0 F H w)(Z:I.results= #[r,M])(h1:rv P l H r v)(h2:rv P l H M v2):(results I a.tmps).run P w=.ok (.tuple #[v,v2]) w:=qe Z _ _ (h1.run ha Q) (h2.run ha Q)
def nM(w:World):Fm w (fun _=>False)=Old w:=by funext k;simp[Fm,Old]
def vB(w:World):HP.none.bA (fun _=>False) w:=fun _ h=>h
end
end E
namespace E
abbrev Mem:=List (am×bi)
def dc(w:World)(G:Nat->Prop)(L:Mem):Prop:=∀p∈L,Rd w G p.1 p.2
variable {A:am}{L:Mem}{S:Nat->Prop}{xs:bi}
def Rd.loc{w w':World}(h:∀k,S k->w'.heap[k]? =w.heap[k]?)(I:Rd w S A xs):Rd w' S A xs:=fun M=>by
 obtain⟨ad,Q,Z,h3⟩:=I M
 grind [World.cell?_of_block,Addr.gq]
def HP.ro(L:Mem):HP where
 bA S w:=dc w S L
 loc:=fun S w w' h I p hp=>(I p hp).loc h
theorem dc.mono{w:World}{S G:Nat->Prop}{L:Mem}(h:dc w S L)(hg:∀k,S k->G k):dc w G L:=fun p hp=>(h p hp).mono hg
def dc.sub{w:World}{I:Mem}(h:dc w S L)(hs:I⊆L):dc w S I:=fun p hp=>h p (hs hp)
def dc.app{w:World}{I:Mem}(h:dc w S L)(M:dc w S I):dc w S (L++I):=fun p hp=>(aN.1 hp).elim (h p) (M p)
def dc.at{w:World}(h:dc w S L)(i:Nat){p:am×bi}(hi:L[i]? =some p):Rd w S p.1 p.2:=h p (List.mem_of_getElem? hi)
theorem dc.mem{w:World}(h:dc w S L)(hi:(A,xs)∈L):Rd w S A xs:=h _ hi
class Ro(p:HP)(L:outParam Mem):Prop where
 h:∀S w,p.bA S w->dc w S L
instance Ro.row{Et sz m c:Nat}{A:am}{xs:bi}:Ro (HP.row Et sz A m c xs) [(A,xs)]:=⟨fun S w h p hp=>by rw[bw.1 hp];exact GG h⟩
instance Ro.aw{B T:Nat}{cs:bi}:Ro (HP.aw B T cs) [(some ⟨B,0,none⟩,cs)]:=⟨fun S w h p hp=>by rw[bw.1 hp];exact yl h⟩
instance Ro.ro{L:Mem}:Ro (HP.ro L) L:=⟨fun _ _ h=>h⟩
instance Ro.nil:Ro (HP.dj []) []:=⟨fun _ _ _ p hp=>by cases hp⟩
instance Ro.cons{p:HP}{ps:List HP}{L I:Mem}[h1:Ro p L][h2:Ro (HP.dj ps) I]:Ro (HP.dj (p::ps)) (L++I):=⟨fun S w ⟨Q,Z,M,_,g3,g4⟩=>((h1.h Q w g3).mono fun k hk=>(M k).2 (.inl hk)).app ((h2.h Z w g4).mono fun k hk=>(M k).2 (.inr hk))⟩
def Bk.mem(b:Bk):Mem:=[(b.A1,fl Od.O.cs b.q.os),(b.A2,ints b.q.q)]
instance Ro.bk{b:Bk}:Ro (HP.bk b) b.mem:=⟨fun S w h=>(Ro.h (p:=HP.dj [HP.row 324 6 b.A1 b.q.os.length b.c1 (fl Od.O.cs b.q.os),HP.row 3 1 b.A2 b.q.q.length b.c2 (ints b.q.q)]) S w h:dc w S _)⟩
def Bk.sy{w:World}{G:Nat->Prop}{b:Bk}:b.rd w G↔dc w G b.mem:=⟨fun h p hp=>by
 grind [mem,rd.o,rd.q],fun h=>⟨h (b.A1,fl Od.O.cs b.q.os) (by simp[Bk.mem]),h (b.A2,ints b.q.q) (by simp[Bk.mem])⟩⟩
section
variable{o:Oper}
variable {H':List HP}{L:Mem}{i:Nat}{p:HP}
def HA.sy{w:World}(h:HA w0 F H w)(I:dc w0 F L):dc w (Old w) L:=fun p hp=>h.rd (I p hp)
def HA.vJ{w:World}(h:HA w0 F H w)(I:dc w0 F L){S:Nat->Prop}(M:∀k,S k->k<w.heap.size/\¬F k):dc w (Fm w S) L:=fun p hp=>h.fD (I p hp) M
def HA.aL{w:World}(h:HA w0 F H w)[hp:Ro p L](hi:E.sel H i=some (p,H')):dc w (Old w) L:=by
 obtain⟨S,I,M,_⟩:=(h.sel hi).chunks;exact(hp.h S w I).mono fun k hk=>(M k hk).1
def HA.j0{w:World}(h:HA w0 F H w)[hp:Ro p L](hi:E.sel H i=some (p,H'))(j:Nat){q:am×bi}(I:L[j]? =some q):Rd w (Old w) q.1 q.2:=(h.aL hi).at j I
def ez{w:World}{S:Nat->Prop}(hc:ah w (fun k=>F k\/S k) H')[hp:Ro p L]{M:List HP}(hi:E.sel H' i=some (p,M)):dc w (Fm w S) L:=by
 obtain⟨T,Q,I,_⟩:=hc.perm (an hi);exact(hp.h T w Q).mono fun k hk=>⟨(I k hk).1,fun hs=>(I k hk).2 (.inr hs)⟩
def ah.gT{w:World}{U:Nat->Prop}[hp:Ro p L]{r:List HP}(h:ah w U (p::r)):ah w U (HP.ro L::r):=by
 obtain⟨S,I,M⟩:=h;exact⟨S,hp.h S w I,M⟩
def ah.Vy{w:World}{U:Nat->Prop}{I:Mem}{r:List HP}(hs:I⊆L)(h:ah w U (HP.ro L::r)):ah w U (HP.ro I::r):=by
 obtain⟨S,M,Q⟩:=h;exact⟨S,M.sub hs,Q⟩
theorem HA.gT{w:World}(h:HA w0 F H w){I ps r:List HP}(is:List Nat)(m:Nat)(hs:E.sels H is=some I)(Z:spl I m=some (ps,r)){L:Mem}[hp:Ro (HP.dj ps) L]{M:Mem}(hl:M⊆L):HA w0 F (HP.ro M::r) w:=
 {h with
  chunks:=by
   have Q:=ch hs h.chunks;rw[rJ Z] at Q
   exact(Q.aX.gT (hp:=hp)).Vy hl}
theorem CW.gT{c:Code}{I ps r:List HP}(is:List Nat)(m:Nat)(hs:E.sels H is=some I)(Q:spl I m=some (ps,r)){L:Mem}[hp:Ro (HP.dj ps) L](M:Mem)(hl:M⊆L)(k:CW P n w0 F c K l (HP.ro M::r)):CW P n w0 F c K l H:=fun a w ha Z=>k a w ha (Z.gT is m hs Q hl)
theorem OW.gT{ops:Array Oper}{rest:List Oper}{I ps r:List HP}(is:List Nat)(m:Nat)(hs:E.sels H is=some I)(Q:spl I m=some (ps,r)){L:Mem}[hp:Ro (HP.dj ps) L](M:Mem)(hl:M⊆L)(k:OW P n w0 F ops K rest l (HP.ro M::r)):OW P n w0 F ops K rest l H:=fun a w ha Z=>k a w ha (Z.gT is m hs Q hl)
def CW.wg{c:Code}(k:CW P n w0 F c K l (HP.ro []::H)):CW P n w0 F c K l H:=CW.conv (H':=HP.ro []::H) (fun w U h=>show ah w U (HP.ro []::H) from⟨fun _=>False,⟨show dc w (fun _=>False) [] from(fun p hp=>absurd hp (bg)),⟨fun _ hk=>hk.elim,h.congr fun k=>by simp⟩⟩⟩) k
end
section
variable{w0 w:World}{F G:Nat->Prop}{H:List HP}
def HA.LJ(h:HA w0 F H w)(hg:∀k,G k->F k):HA w0 G H w:=⟨h.os,h.tape,h.output,h.size,fun k hk=>h.z1 k (hg k hk),fun k hk=>h.kept k (hg k hk),h.chunks.mono hg⟩
def HA.wg(h:HA w0 F H w){L:Mem}(I:∀p∈L,p.2=[]):HA w0 F (HP.ro L::H) w:={h with
 chunks:=show ah w F (HP.ro L::H) from⟨fun _=>False,⟨show dc w (fun _=>False) L from fun p hp M=>by grind,⟨fun _ hk=>hk.elim,h.chunks.congr fun k=>by simp⟩⟩⟩}
def Bk.U6:∀p∈(Bk.mk Od.B.z .none 0 .none 0).mem,p.2=[]:=fun p hp=>by
 simp only[Bk.mem,er,bg,or_false] at hp
 rcases hp with rfl|rfl<;>rfl
end
section
variable{α:Type}{f:α->bi}{sz:Nat}
variable {k:Nat}{u:α}
def uf{l:List α}{z:α}(hk:k<l.length):(l.set k u).getD k z=u:=by
 rw[aW,List.getElem?_set_self hk,dW]
def tJ{l:List α}{z:α}(hk:k<l.length):l.set k (l.getD k z)=l:=by
 rw[aW,aC hk,dW,List.set_getElem_self]
def Fx.adu(h:Fx f sz){l:List α}{j:Nat}{v:Value}(hk:k<l.length)(I:(f u)[j]? =some v):(fl f (l.set k u))[k*sz+j]? =some v:=
 h.get (z:=u) (by grind) (by grind)
def Fx.ad6(h:Fx f sz){l:List α}{j:Nat}{vs:bi}{I:α}(hk:k<l.length)(M:wr (f u) j vs=some (f I)):wr (fl f (l.set k u)) (k*sz+j) vs=some (fl f (l.set k I)):=by
 have:=h.set (z:=u) (l:=l.set k u) (k:=k) (j:=j) (vs:=vs) (x':=I) (by grind) (by grind)
 simp_all
def Fx.iW(h:Fx f sz){l:List α}:(fl f (l.set k u)).length=l.length*sz:=by rw[h.ct,aM]
end
section
variable{o:Oper}{α:Type}{f:α->bi}{sz:Nat}
variable {A:am}{Et k m:Nat}{H':List HP}{ops:Array Oper}{rest:List Oper}{u:α}{x:Operand}{xs:List α}
def PV.Ps{t:TypeId}{j:Nat}{v:Value}(I:Fx f sz)(M:∀w,HA w0 F H w->Rd w (Old w) A (fl f (xs.set k u)))(ht:Na P t)(ho:o.op=.load t x)(Q:ev l x=some (bB A (k*sz+j)))(hk:k<xs.length)(Z:(f u)[j]? =some v):PV P n w0 F l H o v:=PV.dR M ht ho Q (I.adu hk Z)
def PV.Dc{s f' off:Nat}(I:Fx f sz)(M:∀w,HA w0 F H w->Rd w (Old w) A (fl f (xs.set k u)))(Q:FG P s f' off)(ho:o.op=.fieldAddr s x f')(Z:ev l x=some (bB A (k*sz)))(hk:k<xs.length):
  PV P n w0 F l H o (bB A (k*sz+off)):=PV.eU I M Q ho Z (by grind)
def OW.JB{t:TypeId}{y:Operand}{i c j:Nat}{v:Value}{vs:bi}(Q:α)(Z:Fx f sz)(I:∀w,(sizeOf t).run P w=.ok vs.length w)(ho:o.op=.store t x y)(hg:gd ops l o.guard=some true)(hd:o.dst=none)(hx:ev l x=some (bB A (k*sz+j)))(hy:ev l y=some v)(hc:v.cells=vs.toArray)(h1:vs.all (·.oneCell')=true)(hp:0<vs.length)(hi:sel H i=some (HP.row Et sz A m c (fl f (xs.set k u)),H'))(M:wr (f u) j vs=some (f Q))(hk:k<xs.length)(k':OW P n w0 F ops K rest l (HP.row Et sz A m c (fl f (xs.set k Q))::H')):OW P n w0 F ops K (o::rest) l H:=
 OW.um (vs:=vs) I ho hg hd hx hy hc (fun u hu=>aJ.1 h1 u hu) hp hi (Z.ad6 hk M) k'
def PV.wK{xs:bi}(I:∀w,HA w0 F H w->Rd w (Old w) A xs)(ho:o.op=.nilCheck x)(M:ev l x=some (bB A k))(h:0<xs.length):PV P n w0 F l H o (bB A k):=fun a w ha Q=>by
 obtain⟨ad,Z,_⟩:=I w Q h
 subst Z
 have h2:ev l x=some (.pointer (some (ad.add k))):=M
 simp[execOp,ho,ha.ev h2,bB]
def PV.jh(I:Fx f sz)(M:∀w,HA w0 F H w->Rd w (Old w) A (fl f xs))(ho:o.op=.nilCheck x)(Q:ev l x=some (bB A k))(h:0<xs.length):PV P n w0 F l H o (bB A k):=PV.wK M ho Q (by rw[I.ct];exact jG h I.pos)
def PV.IX{q:Nat}(I:Fx f sz)(M:∀w,HA w0 F H w->Rd w (Old w) A (fl f (xs.set q u)))(ho:o.op=.nilCheck x)(Q:ev l x=some (bB A k))(h:0<xs.length):PV P n w0 F l H o (bB A k):=PV.wK M ho Q (by rw[I.iW];exact jG h I.pos)
def CW.cur{c:Code}{cc:Nat}(i k:Nat)(z:α)(hi:sel H i=some (HP.row Et sz A m cc (fl f xs),H'))(hk:k<xs.length)(h:CW P n w0 F c K l (HP.row Et sz A m cc (fl f (xs.set k (xs.getD k z)))::H')):CW P n w0 F c K l H:=fun a w ha I=>
 h a w ha (by rw[tJ hk];exact I.sel hi)
def OW.cur{cc:Nat}(i k:Nat)(z:α)(hi:sel H i=some (HP.row Et sz A m cc (fl f xs),H'))(hk:k<xs.length)(h:OW P n w0 F ops K rest l (HP.row Et sz A m cc (fl f (xs.set k (xs.getD k z)))::H')):OW P n w0 F ops K rest l H:=fun a w ha I=>
 h a w ha (by rw[tJ hk];exact I.sel hi)
def CW.bO{c:Code}(i:Nat){p:HP}(I:HP)(hi:sel H i=some (p,H'))(M:p=I)(k:CW P n w0 F c K l (I::H')):CW P n w0 F c K l H:=fun a w ha Q=>k a w ha (M▸Q.sel hi)
end
end E
end
namespace Cr
open Od (O N B Ok)
structure R where
 pl:Int
 st:Int
 od:Int
 lf:Int
 sl:Int
 du:Bool
 deriving DecidableEq
structure W where
 rs:List R
 b:B
 mv:Int
 deriving DecidableEq
def R.z:R:=⟨0,0,0,0,0,false⟩
def W.z:W:=⟨[],B.z,0⟩
structure Ev where
 m:Cf.T
 K:Int
 dz:Int->Bool
 al:Int->Int->Bool
 arr:Int->Int->Int->Int
 next:Int->Int->Int->Int×Int
 rt:Int->Int->Int->bv×Int
def held(r:R):Bool:=decide (0<r.sl)
def lM(r:R):Bool:=decide (r.st=2)||decide (r.st=5)||decide (r.st=8)
def bt(b:B)(id:Int):Bool:=Od.within id b.os.length
def ord(b:B)(id:Int):O:=if bt b id then b.os.getD (id-1).toNat O.z else O.z
def goal(e:Ev)(b:B)(n:Nat)(r:R):Int×Bool:=
 if r.st=1\/r.st=2 then(if bt b r.od then(e.m.p.getD (ord b r.od).pick.toNat 0,true) else(0,false))
 else if r.st=4\/r.st=5 then(if bt b r.od then(e.m.d.getD (ord b r.od).drop.toNat 0,true) else(0,false))
 else if r.st=7\/r.st=8 then(e.m.h.getD n 0,true) else(0,false)
def at_(rs:List R)(n:Nat):R:=rs.getD n R.z
def free(rs:List R)(p:Int):Bool:= !rs.any fun r=>decide (r.pl=p)
def assigned(b:B)(id:Int):Bool:=bt b id&&decide ((ord b id).st=2)
def en(b:B)(id:Int):Bool:=bt b id&&decide ((ord b id).st=3)
def work(e:Ev)(st:Int):Int:=if st=3 then e.m.n1 else if st=6 then e.m.n2 else 0
def fits(e:Ev)(b:B)(n:Nat)(r:R):Bool:=
 if r.st=0 then !bt b r.od&&decide (r.pl=e.m.h.getD n 0)
 else if r.st=1 then assigned b r.od&&decide (r.pl=e.m.h.getD n 0)
 else if r.st=2 then assigned b r.od
 else if r.st=3 then assigned b r.od&&decide (r.pl=e.m.p.getD (ord b r.od).pick.toNat 0)
 else if r.st=4 then en b r.od&&decide (r.pl=e.m.p.getD (ord b r.od).pick.toNat 0)
 else if r.st=5 then en b r.od
 else if r.st=6 then en b r.od&&decide (r.pl=e.m.d.getD (ord b r.od).drop.toNat 0)
 else if r.st=7 then !bt b r.od&&decide (r.pl∈e.m.d)
 else if r.st=8 then !bt b r.od else false
def mU(e:Ev)(r:R):Bool:=if work e r.st=0 then decide (r.lf=0) else decide (1<=r.lf)&&decide (r.lf<=work e r.st)
def zv(e:Ev)(r:R):Bool:=decide (0<=r.sl)&&decide (r.sl<=e.K)&& !(held r&&(r.du||e.dz r.pl))
def right(e:Ev)(k:Int)(b:B)(mv:Int)(n:Nat)(r:R):Bool:=
 (e.al r.pl k&&(bt b r.od== !decide (r.od=0)))&&(mU e r&&(zv e r&&(fits e b n r&&(lM r==decide ((n:Int)=mv)))))
def apart(rs:List R)(i:Nat):Bool:=(List.range i).all fun j=> !decide ((at_ rs j).pl=(at_ rs i).pl)&&(decide ((at_ rs i).od=0)|| !decide ((at_ rs j).od=(at_ rs i).od))
def goes(e:Ev)(k:Int)(w:W):Bool:=
 (goal e w.b w.mv.toNat (at_ w.rs w.mv.toNat)).2&&((decide ((at_ w.rs w.mv.toNat).pl=(goal e w.b w.mv.toNat (at_ w.rs w.mv.toNat)).1)||free w.rs (goal e w.b w.mv.toNat (at_ w.rs w.mv.toNat)).1)&&decide (e.arr (at_ w.rs w.mv.toNat).pl (goal e w.b w.mv.toNat (at_ w.rs w.mv.toNat)).1 k=0))
def valid(e:Ev)(k:Int)(w:W):Bool:=
 (decide (w.rs.length=e.m.h.length)&&(decide (-1<=w.mv)&&(decide (w.mv<w.rs.length)&&decide (Od.eb e.m w.b=0))))&&
 (((List.range w.rs.length).all fun i=>right e k w.b w.mv i (at_ w.rs i)&&apart w.rs i)&&
  ((w.b.os.all fun o=> !(decide (o.st=2)||decide (o.st=3))||w.rs.any fun r=>decide (r.od=o.id))&&(decide (w.mv<0)||goes e k w)))
def bE(e:Ev)(r:R):R:=if r.du&& !e.dz r.pl then{r with du:=false,sl:=e.K} else r
def jB(e:Ev)(w:W):W:={w with rs:=w.rs.map (bE e)}
def call1(m:Cf.T)(b:B)(r:R):B×R:=
 if r.st=0/\held r=false then(match Od.assign m b with|.ok x=>(x.1,{r with st:=1,od:=x.2})|.error _=>(b,r)) else(b,r)
def callsF(m:Cf.T):B->List R->B×List R
 |b,[]=>(b,[])
 |b,r::rs=>((callsF m (call1 m b r).1 rs).1,(call1 m b r).2::(callsF m (call1 m b r).1 rs).2)
def calls(e:Ev)(w:W):W:={w with rs:=(callsF e.m w.b w.rs).2,b:=(callsF e.m w.b w.rs).1}
def lP(e:Ev)(k:Int)(w:W)(n:Nat):Bool:=
 (decide ((at_ w.rs n).st=7)||decide ((at_ w.rs n).st=1)||decide ((at_ w.rs n).st=4))&&(free w.rs (goal e w.b n (at_ w.rs n)).1&&decide (e.arr (at_ w.rs n).pl (goal e w.b n (at_ w.rs n)).1 k=0))
def pK(w:W)(n:Nat):Int:=if(at_ w.rs n).st=7 then n else 3+(at_ w.rs n).od
def best(e:Ev)(k:Int)(w:W):Nat->Int×Int
 |0=>(-1,0)
 |n+1=>if lP e k w n=true then(if(best e k w n).1<0\/pK w n<(best e k w n).2 then((n:Int),pK w n) else best e k w n) else best e k w n
def leaves(e:Ev)(k:Int)(w:W):W:=
 if 0<=w.mv then w
 else if 0<=(best e k w w.rs.length).1/\held (at_ w.rs (best e k w w.rs.length).1.toNat)=false then
  {w with mv:=(best e k w w.rs.length).1,rs:=w.rs.set (best e k w w.rs.length).1.toNat {at_ w.rs (best e k w w.rs.length).1.toNat with st:=(at_ w.rs (best e k w w.rs.length).1.toNat).st+1}}
 else w
def cq(m:Cf.T)(k:Int)(b:B)(r:R):B×R×bv:=
 if held r=true\/¬(r.st=3\/r.st=6) then(b,r,[])
 else if 0<r.lf-1 then(b,{r with lf:=r.lf-1},[])
 else if r.st=3 then((Od.res B.z (Od.l7 m b r.od 3 0)).1,{r with lf:=r.lf-1,st:=4},[])
 else((Od.res B.z (Od.l7 m b r.od 4 (k+1))).1,{r with lf:=r.lf-1,st:=7,od:=0},[r.od])
def bl(m:Cf.T)(k:Int):B->List R->B×List R×bv
 |b,[]=>(b,[],[])
 |b,r::rs=>((bl m k (cq m k b r).1 rs).1,(cq m k b r).2.1::(bl m k (cq m k b r).1 rs).2.1,(cq m k b r).2.2++(bl m k (cq m k b r).1 rs).2.2)
def cx(e:Ev)(k:Int)(w:W):W×bv:=({w with rs:=(bl e.m k w.b w.rs).2.1,b:=(bl e.m k w.b w.rs).1},(bl e.m k w.b w.rs).2.2)
def dY(e:Ev)(r:R):R:=if r.st=2 then{r with st:=3,lf:=e.m.n1} else if r.st=5 then{r with st:=6,lf:=e.m.n2} else if r.st=8 then{r with st:=0} else r
def dQ(e:Ev)(k:Int)(b:B)(n:Nat)(r:R):R:=
 if(e.next r.pl (goal e b n r).1 k).2=0 then{r with pl:=(e.next r.pl (goal e b n r).1 k).1} else r
def steps(e:Ev)(k:Int)(w:W):W:=
 if w.mv<0\/held (at_ w.rs w.mv.toNat)=true then w
 else if(dQ e k w.b w.mv.toNat (at_ w.rs w.mv.toNat)).pl=(goal e w.b w.mv.toNat (at_ w.rs w.mv.toNat)).1 then
  {w with mv:= -1,rs:=w.rs.set w.mv.toNat (dY e (dQ e k w.b w.mv.toNat (at_ w.rs w.mv.toNat)))}
 else{w with rs:=w.rs.set w.mv.toNat (dQ e k w.b w.mv.toNat (at_ w.rs w.mv.toNat))}
def cA(r:R):R:=if held r then{r with sl:=r.sl-1} else r
def FD(w:W):W:={w with rs:=w.rs.map cA}
def eD(e:Ev)(k:Int)(w:W):W:=leaves e k (calls e (jB e w))
def iI(e:Ev)(k:Int)(w:W):W:=FD (steps e k w)
structure Ev.ok(e:Ev):Prop where
 num:Cf.numbers e.m=true
 K1:1<=e.K
 nd:(Cf.bC e.m).Nodup
 spot:∀p,p∈Cf.bC e.m->e.dz p=false/\∀k,0<=k->k<=Od.last+1->e.al p k=true
 own:∀p k k',e.al p k=true->e.dz p=false->0<=k'->k'<=Od.last+1->e.al p k'=true
 stay:∀p q k,0<=k->k<Od.last->e.al p k=true->e.dz p=false->e.arr p q k=0->e.arr p q (k+1)=0
 step:∀p q k,0<=k->k<Od.last->e.arr p q k=0->p≠q->∃r,e.next p q k=(r,0)/\e.al r (k+1)=true/\e.arr r q (k+1)=0/\(r=p\/r=q\/¬r∈Cf.bC e.m)
 stop:∀p k,¬(e.next p p k).2=0
def dK(b:B)(id st:Int):Prop:=(1<=id/\id<=b.os.length)/\(b.os.getD (id-1).toNat O.z).st=st
def pk(b:B)(id:Int):Nat:=(b.os.getD (id-1).toNat O.z).pick.toNat
def dp(b:B)(id:Int):Nat:=(b.os.getD (id-1).toNat O.z).drop.toNat
def Fit(e:Ev)(b:B)(n:Nat)(r:R):Prop:=
 (r.st=0/\r.od=0/\r.pl=e.m.h.getD n 0/\r.lf=0)\/(r.st=1/\dK b r.od 2/\r.pl=e.m.h.getD n 0/\r.lf=0)\/(r.st=2/\dK b r.od 2/\r.lf=0)\/
 (r.st=3/\dK b r.od 2/\r.pl=e.m.p.getD (pk b r.od) 0/\1<=r.lf/\r.lf<=e.m.n1)\/(r.st=4/\dK b r.od 3/\r.pl=e.m.p.getD (pk b r.od) 0/\r.lf=0)\/(r.st=5/\dK b r.od 3/\r.lf=0)\/
 (r.st=6/\dK b r.od 3/\r.pl=e.m.d.getD (dp b r.od) 0/\1<=r.lf/\r.lf<=e.m.n2)\/(r.st=7/\r.od=0/\r.pl∈e.m.d/\r.lf=0)\/(r.st=8/\r.od=0/\r.lf=0)
structure Rg(e:Ev)(k:Int)(b:B)(mv:Int)(n:Nat)(r:R):Prop where
 al:e.al r.pl k=true
 fit:Fit e b n r
 sl:0<=r.sl/\r.sl<=e.K
 hd:0<r.sl->r.du=false/\e.dz r.pl=false
 lg:(r.st=2\/r.st=5\/r.st=8)↔(n:Int)=mv
variable {b:B}{e:Ev}{id:Int}{r:R}
theorem bP:bt b id=true↔1<=id/\id<=b.os.length:=Od.within_iff
def fw(h:1<=id/\id<=b.os.length):ord b id=b.os.getD (id-1).toNat O.z:=aa (bP.2 h)
theorem eF{st:Int}:(bt b id&&decide ((ord b id).st=st))=true↔dK b id st:=by
 rw[ay,bP,ax];unfold dK;exact⟨fun⟨I,M⟩=>⟨I,by rw[<-fw I];exact M⟩,fun⟨I,M⟩=>⟨I,by rw[fw I];exact M⟩⟩
def nK{m:Cf.T}(h:Cf.numbers m=true):(1<=m.n1/\m.n1<=8)/\(1<=m.n2/\m.n2<=8):=by
 grind [Cf.numbers,Cf.sD,Cf.NS]
theorem ju:held r=true↔0<r.sl:=by simp[held]
theorem jT(I:¬r.st=3)(M:¬r.st=6):mU e r=true↔r.lf=0:=by
 grind [mU,work]
def Vl(h:r.st=3)(I:1<=e.m.n1):mU e r=true↔1<=r.lf/\r.lf<=e.m.n1:=by
 grind [mU,work]
def VH(h:r.st=6)(I:1<=e.m.n2):mU e r=true↔1<=r.lf/\r.lf<=e.m.n2:=by
 grind [mU,work]
def qY(hn:Cf.numbers e.m=true){k:Int}{mv:Int}{n:Nat}:right e k b mv n r=true↔Rg e k b mv n r:=by
 obtain⟨h1,h2⟩:=nK hn
 have hlg:(lM r==decide ((n:Int)=mv))=true↔((r.st=2\/r.st=5\/r.st=8)↔(n:Int)=mv):=by
  grind [lM]
 have hst:zv e r=true↔(0<=r.sl/\r.sl<=e.K)/\(0<r.sl->r.du=false/\e.dz r.pl=false):=by
  grind [zv,ju]
 have hfit:(((bt b r.od== !decide (r.od=0))=true)/\mU e r=true/\fits e b n r=true)↔Fit e b n r:=by
  have hno:bt b r.od=true->¬r.od=0:=fun h=>by have:=bP.1 h;omega
  have hz:r.od=0->bt b r.od=false:=fun h=>by
   cases hh:bt b r.od with
   |false=>rfl
   |true=>exact absurd h (hno hh)
  have hin:∀{st:Int},dK b r.od st->bt b r.od=true/\¬r.od=0:=fun h=>⟨bP.2 h.1,by have:=h.1;omega⟩
  constructor
  ·rintro⟨q1,M,I⟩;rw[beq_iff_eq] at q1
   have hf:bt b r.od=false->r.od=0:=fun h=>by
    grind
   unfold fits at I;split at I
   ·rename_i s;rw[ay,dG,ax] at I;rw[jT K1 K1] at M;exact .inl ⟨s,hf I.1,I.2,M⟩
   split at I
   ·rename_i s;rw[ay,ax] at I;rw[jT K1 K1] at M;exact .inr (.inl ⟨s,eF.1 I.1,I.2,M⟩)
   split at I
   ·rename_i s;rw[jT K1 K1] at M;exact .inr (.inr (.inl ⟨s,eF.1 I,M⟩))
   split at I
   ·rename_i s;rw[ay,ax] at I;rw[Vl s h1.1] at M;have h9:=eF.1 I.1;rw[fw h9.1] at I;exact .inr (.inr (.inr (.inl ⟨s,h9,I.2,M⟩)))
   split at I
   ·rename_i s;rw[ay,ax] at I;rw[jT K1 K1] at M;have h9:=eF.1 I.1;rw[fw h9.1] at I;exact .inr (.inr (.inr (.inr (.inl ⟨s,h9,I.2,M⟩))))
   split at I
   ·rename_i s;rw[jT K1 K1] at M;exact .inr (.inr (.inr (.inr (.inr (.inl ⟨s,eF.1 I,M⟩)))))
   split at I
   ·rename_i s;rw[ay,ax] at I;rw[VH s h2.1] at M;have h9:=eF.1 I.1;rw[fw h9.1] at I;exact .inr (.inr (.inr (.inr (.inr (.inr (.inl ⟨s,h9,I.2,M⟩))))))
   split at I
   ·rename_i s;rw[ay,dG,ax] at I;rw[jT K1 K1] at M;exact .inr (.inr (.inr (.inr (.inr (.inr (.inr (.inl ⟨s,hf I.1,I.2,M⟩)))))))
   split at I
   ·rename_i s;rw[dG] at I;rw[jT K1 K1] at M;exact .inr (.inr (.inr (.inr (.inr (.inr (.inr (.inr ⟨s,hf I,M⟩)))))))
   cases I
  unfold Fit;have Z:∀{st:Int},dK b r.od st->(bt b r.od== !decide (r.od=0))=true:=fun h=>by grind
  have hnil:r.od=0->(bt b r.od== !decide (r.od=0))=true:=fun h=>by grind
  unfold fits assigned en;rintro(⟨s,Q,g2,g3⟩|⟨s,Q,g2,g3⟩|⟨s,Q,g3⟩|⟨s,Q,g2,g3⟩|⟨s,Q,g2,g3⟩|⟨s,Q,g3⟩|⟨s,Q,g2,g3⟩|⟨s,Q,g2,g3⟩|⟨s,Q,g3⟩)
  ·grind [jT]
  ·grind [jT,eF]
  ·grind [jT,eF]
  ·refine⟨Z Q,(Vl s h1.1).2 g3,?_⟩;rw[ae K1,ae K1,ae K1,aa s,eF.2 Q,fw Q.1,j9];exact bu g2
  ·refine⟨Z Q,(jT K1 K1).2 g3,?_⟩;rw[ae K1,ae K1,ae K1,ae K1,aa s,eF.2 Q,fw Q.1,j9];exact bu g2
  ·grind [jT,eF]
  ·refine⟨Z Q,(VH s h2.1).2 g3,?_⟩;rw[ae K1,ae K1,ae K1,ae K1,ae K1,ae K1,aa s,eF.2 Q,fw Q.1,j9];exact bu g2
  ·grind [jT]
  grind [jT]
 unfold right;rw[ay,ay,ay,ay,ay,hst,hlg];constructor
 ·rintro⟨⟨q1,M⟩,I,⟨q4,q5⟩,q6,q7⟩;exact⟨q1,hfit.1 ⟨M,I,q6⟩,q4,q5,q7⟩
 rintro⟨q1,M,q4,q5,q7⟩;grind
end Cr
end Go.Proofs.YtcgecopggfjojaaGreatDoor
