/- Contracts and laws for the proof, joined by a program. No condition. -/
import Derived.KernelRfl
import Derived.Calls
import Derived.Conc.Own
import Derived.Laws.Sem
import Derived.Conc.TraceLaws
import Derived.Conc.Know
import Derived.Conc.Deaf
import Derived.Conc.Beside
import Derived.Conc.CrowdComm
import Derived.Conc.QuitsD
import Derived.ChangeArms
import Derived.LaidMore
import Derived.ProofKit
import Derived.Below
import Derived.SizedLaws
import Derived.Conc.LeavingOf
import Derived.Stop.Joined
import Derived.Carry
import Derived.RowKit
import Derived.ChangeFn
import Derived.LaidLaws
import Derived.SevenTiedAt
import Derived.Test.YtpkjbclajflhbaaGreatDoorProg
import Derived.Test.YtpkjbclajflhbaaGreatDoorRows
import Derived.Test.YtpkjbclajflhbaaGreatDoorCards
import Derived.Test.YtpkjbclajflhbaaGreatDoorTie
import Derived.OpenShut
import Derived.Laws.Strings
import Derived.Lib.ItoaNum
import Derived.Lib.Bytealg
import Derived.Stop.Asserts
set_option linter.all false
noncomputable section
open Go Go.Conc
namespace Go.TM
section
abbrev Cells:=Nat->Option (Bool×Obj)
def notHole:Value->Bool
 | .tuple a=>!a.isEmpty
 | _=>true
def isHole:Obj->Nat->Prop
 | .pending c _,i=>∀ v,c[i]?=some v->notHole v=false
 | _,_=>False
def subO:Obj->Obj->Prop
 | .pending c e,o'=>∃ c':Array Value,o'=.cells c' e (0,0)/\c'.size=c.size/\∀ (i:Nat) (v:Value),c[i]?=some v->notHole v=true->c'[i]?=some v
 | o,o'=>o'=o
def keepO(o o₁ o₂:Obj):Prop:=(∃ i,isHole o i)->∃ c₁ c₂ e f,o₁=.cells c₁ e f/\o₂=.cells c₂ e f/\c₂.size=c₁.size/\∀ i:Nat,isHole o i->c₂[i]?=c₁[i]?
@[reducible] def unpend (o:Obj) (p:Prop):Prop:=match o with
 | .pending _ _=>False
 | _=>p
variable {o o₁:Obj}{p:Prop}{r n:Nat}{a:Addr}{v v₀:Value}{w w₁:World}{x:Bool×Obj}{P:Program}
theorem unpend.out(h:unpend o p):p:=by
 cases o<;>first|exact h|exact h.elim
theorem unpend.mono{q:Prop}(h:unpend o p)(a:p->q):unpend o q:=by
 cases o<;>first|exact a h|exact h.elim
theorem unpend.refl(h:unpend o p):subO o o:=by
 cases o<;>first|exact rfl|exact h.elim
theorem hole_end(c:Array Value)(e:TypeId):isHole (.pending c e) c.size:=by
 intro v hv;simp at hv
theorem Y5{a:Obj}(b:∀ i,¬ isHole o i)(h:subO o a):a=o:=by
 cases o with
 | pending c e=>exact absurd (hole_end c e) (b _)
 | _=>exact h
def Fits(h:Cells)(w:World):Prop:=∀ r m o,h r=some (m,o)->∃ o',w.heap[r]?=some o'/\subO o o'
def Cells.upd(h:Cells)(r:Nat)(x:Bool×Obj):Cells:=fun r'=>if r'=r then some x else h r'
theorem Qn(h:Cells)(r:Nat)(x:Bool×Obj):h.upd r x r=some x:=by simp[Cells.upd]
theorem Qp(h:Cells){a:Nat}(x:Bool×Obj)(hr:a≠r):h.upd r x a=h a:=by simp[Cells.upd,hr]
def Cells.le(h h':Cells):Prop:=∀ r x,h r=some x->h' r=some x
theorem Cells.le_refl(h:Cells):h.le h:=fun _ _ h=>h
theorem Cells.le_trans{a b c:Cells}(h1:a.le b)(h2:b.le c):a.le c:=fun r x h=>h2 r x (h1 r x h)
theorem Zc{h:Cells}(x:Bool×Obj)(hr:h r=none):h.le (h.upd r x):=by
 intro b y a;have:b≠r:=by rintro rfl;rw[hr]at a;cases a
 rw[Qp _ _ this];exact a
def Cells.cell?(h:Cells)(a:Addr):Option Value :=
 match h a.block with
 | some (_,.cells c _ _)=>if a.spot.isSome then none else c[a.off]?
 | some (_,.pending c _)=>if a.spot.isSome then none else (c[a.off]?).filter notHole
 | _=>none
theorem Qo{h h':Cells}(hle:h.le h')(hc:h.cell? a=some v):h'.cell? a=some v:=by
 unfold Cells.cell? at hc ⊢;split at hc
 ·rename_i m c e f he;rw[hle _ _ he];exact hc
 ·rename_i m c e he;rw[hle _ _ he];exact hc
 ·cases hc
def Cells.shape?(h:Cells)(r:Nat):Option (TypeId×Nat) :=
 match h r with
 | some (_,.cells c elem _)=>some (elem,c.size)
 | some (_,.pending c elem)=>some (elem,c.size)
 | _=>none
def Cells.frozen?(h:Cells)(a:Addr):Bool :=
 match h a.block with
 | some (_,.cells _ _ (lo,hi))=>lo<=a.off&&a.off<hi
 | _=>false
def Cells.setCell(h:Cells)(a:Addr)(v:Value):Cells:=fun r =>
 if r=a.block then
  match h r with
  | some (m,.cells c elem fz)=>some (m,.cells (if a.spot.isSome then c else c.setIfInBounds a.off v) elem fz)
  | some (m,.pending c elem)=>some (m,.pending (if a.spot.isSome then c else c.setIfInBounds a.off v) elem)
  | x=>x
 else h r
def Cells.own(h:Cells)(r:Nat):Prop:=∃ o,h r=some (true,o)
def Cells.ownW(h:Cells)(r:Nat):Prop:=∃ o,h r=some (true,o)/\∀ i,¬ isHole o i
def isOne:Value->Bool
 | .agg _ | .tuple _=>false
 | _=>true
def notCells:Obj->Prop
 | .cells ..=>False
 | .pending ..=>False
 | _=>True
def softM(m:Mark):Prop:=m=.noRoom\/∃ f,m=.extern f
def frzO(a:Addr)(n:Nat)(o:Obj):Obj :=
 match o with
 | .cells c elem (lo,hi)=>.cells c elem (if lo==hi then (a.off,a.off+n) else (min lo a.off,max hi (a.off+n)))
 | o=>o
def Cells.freeze(h:Cells)(a:Addr)(n:Nat):Cells:=fun r=>if r=a.block then (h r).map fun x=>(x.1,frzO a n x.2) else h r
def Qe{α:Type}(P:Program):Sem α->(α->Cells->Prop)->(Halt->Cells->Prop)->Cells->Prop
 | .pure a,Q,_,h=>Q a h
 | .load m a k,Q,E,h=>m=.plain/\∃ v,h.cell? a=some v/\Qe P (k v) Q E h
 | .store m a v k,Q,E,h=>m=.plain/\isOne v=true/\h.own a.block/\(∃ v₀,h.cell? a=some v₀)/\h.frozen? a=false/\Qe P k Q E (h.setCell a v)
 | .new o k,Q,E,h=>unpend o (∀ r,h r=none->Qe P (k r) Q E (h.upd r (true,o)))
 | .shape r k,Q,E,h=>(∃ x,h r=some x)/\Qe P (k (h.shape? r)) Q E h
 | .freeze a n k,Q,E,h=>n≠0/\h.ownW a.block/\Qe P k Q E (h.freeze a n)
 | .frozen a k,Q,E,h=>(∃ x,h a.block=some x)/\Qe P (k (h.frozen? a)) Q E h
 | .getObj r k,Q,E,h=>∃ m o,h r=some (m,o)/\notCells o/\Qe P (k o) Q E h
 | .setObj r o k,Q,E,h=>(∃ o₀,h r=some (true,o₀)/\notCells o₀)/\unpend o (Qe P k Q E (h.upd r (true,o)))
 | .choose q k,Q,E,h=>if q.forced then Qe P (k 0) Q E h else ∀ t,Qe P (k (q.cut t)) Q E h
 | .sys _ _,_,_,_=>False
 | .program k,Q,E,h=>Qe P (k P) Q E h
 | .mark m k,Q,E,h=>softM m/\Qe P k Q E h
 | .halt e,_,E,h=>E e h
def EvOk(h:Cells)(n n':Nat)(e:Event):Prop :=
 match e.loc with
 | .cell a=>e.sync=false/\((n<=a.block/\a.block<n')\/∃ x,h a.block=some x/\(e.write=true->x.1=true)/\¬ isHole x.2 a.off)
 | .obj r=>(n<=r/\r<n')\/∃ x,h r=some x/\(e.write=true->x.1=true)/\∀ i,¬ isHole x.2 i
 | .mark m=>softM m
 | _=>False
structure Tr(h:Cells)(w:World)(h':Cells)(w':World):Prop where
 fits:Fits h' w'
 size:w.heap.size<=w'.heap.size
 other:∀ r,r<w.heap.size->¬ h.own r->w'.heap[r]?=w.heap[r]?
 part:∀ r o o₁,h r=some (true,o)->w.heap[r]?=some o₁->∃ o₂,w'.heap[r]?=some o₂/\keepO o o₁ o₂
 new:∀ r x,h' r=some x->(∃ y,h r=some y/\y.1=x.1/\∀ i,isHole y.2 i↔isHole x.2 i)\/(w.heap.size<=r/\x.1=true/\∀ i,¬ isHole x.2 i)
 keep:∀ r y,h r=some y->∃ x,h' r=some x/\x.1=y.1/\∀ i,isHole y.2 i↔isHole x.2 i
 os:w'.os=w.os
 tape:w'.tape=w.tape
 output:w'.output=w.output
theorem keepO.refl(b:subO o o₁):keepO o o₁ o₁:=by
 rintro⟨i,a⟩;cases o with
 | pending c e=>obtain⟨c',rfl,_,_⟩:=b;exact⟨c',c',e,_,rfl,rfl,rfl,fun _ _=>rfl⟩
 | _=>exact a.elim
theorem Tr.refl{h:Cells}{w:World}(a:Fits h w):Tr h w h w:=by
 refine⟨a,Nat.le_refl _,fun _ _ _=>rfl,fun r o o₁ hr h1=>?_,fun _ x b=>.inl ⟨x,b,rfl,fun _=>Iff.rfl⟩,fun _ y c=>⟨y,c,rfl,fun _=>Iff.rfl⟩,rfl,rfl,rfl⟩;obtain⟨d,h2,h3⟩:=a r _ _ hr;rw[h1]at h2;cases h2;exact⟨o₁,h1,.refl h3⟩
theorem Fits.lt{h:Cells}(a:Fits h w)(b:h r=some x):r<w.heap.size:=by
 obtain⟨_,this,_⟩:=a r x.1 x.2 b;exact(Array.getElem?_eq_some_iff.1 this).1
theorem Fits.fresh{h:Cells}(a:Fits h w)(hr:w.heap.size<=r):h r=none:=by
 cases b:h r with
 | none=>rfl
 | some x=>exact absurd (a.lt b) (by omega)
theorem Tr.trans{h h₁ f:Cells}{w w₁ g:World}(a:Tr h w h₁ w₁)(b:Tr h₁ w₁ f g):Tr h w f g where
 fits:=b.fits
 size:=Nat.le_trans a.size b.size
 other r hr l:=by
  rw[b.other r (Nat.lt_of_lt_of_le hr a.size) ?_,a.other r hr l];rintro⟨o,E⟩;rcases a.new r _ E with⟨⟨m,H⟩,p,hm,_⟩|⟨c,_⟩
  ·simp only at hm;subst hm;exact l ⟨H,p⟩
  ·omega
 part r o o₁ hr h1:=by
  obtain⟨s,h2,F⟩:=a.part r o o₁ hr h1;obtain⟨⟨m,x⟩,n,e,d⟩:=a.keep r _ hr;simp only at e d;subst e;obtain⟨t,h3,G⟩:=b.part r x s n h2;refine⟨t,h3,?_⟩;rintro⟨i,u⟩;obtain⟨c1,c2,K,f1,rfl,rfl,s1,I⟩:=F ⟨i,u⟩;obtain⟨c3,c4,L,f2,D,rfl,s2,J⟩:=G ⟨i,(d i).1 u⟩;cases D;exact⟨c1,c4,_,_,rfl,rfl,s2.trans s1,fun j B=>(J j ((d j).1 B)).trans (I j B)⟩
 new r x n:=by
  rcases b.new r x n with⟨y,p,q,d⟩|⟨c,hm⟩
  ·rcases a.new r y p with⟨z,v,A,k⟩|⟨c,hm⟩
   ·exact .inl ⟨z,v,A.trans q,fun i=>(k i).trans (d i)⟩
   ·exact .inr ⟨c,q▸hm.1,fun i u=>hm.2 i ((d i).2 u)⟩
  ·exact .inr ⟨Nat.le_trans a.size c,hm⟩
 keep r y p:=by
  obtain⟨x,n,e,d⟩:=a.keep r y p;obtain⟨z,v,C,k⟩:=b.keep r x n;exact⟨z,v,C.trans e,fun i=>(d i).trans (k i)⟩
 os:=b.os.trans a.os
 tape:=b.tape.trans a.tape
 output:=b.output.trans a.output
theorem EvOk.up{h:Cells}{m a:Nat}(hm:m<=a){e:Event}(he:EvOk h n m e):EvOk h n a e:=by
 unfold EvOk at he ⊢;split at he
 ·exact⟨he.1,he.2.imp_left fun h=>⟨h.1,Nat.lt_of_lt_of_le h.2 hm⟩⟩
 ·exact he.imp_left fun h=>⟨h.1,Nat.lt_of_lt_of_le h.2 hm⟩
 ·exact he
 ·exact he
theorem EvOk.back{h h₁:Cells}{c:Nat}(a:Tr h w h₁ w₁)(n:w₁.heap.size<=c){e:Event}(he:EvOk h₁ w₁.heap.size c e):EvOk h w.heap.size c e:=by
 have key:∀ r (p q:Obj->Prop),(∀ o d,(∀ i,isHole o i->isHole d i)->p d->q o)->((w₁.heap.size<=r/\r<c)\/∃ x,h₁ r=some x/\(e.write=true->x.1=true)/\p x.2)->((w.heap.size<=r/\r<c)\/∃ x,h r=some x/\(e.write=true->x.1=true)/\q x.2):=by
  rintro r p q j (⟨hr,k⟩|⟨x,l,hw,hp⟩)
  ·exact .inl ⟨Nat.le_trans a.size hr,k⟩
  ·rcases a.new r x l with⟨y,s,m,b⟩|⟨g,_⟩
   ·exact .inr ⟨y,s,fun h=>m▸hw h,j _ _ (fun i=>(b i).1) hp⟩
   ·exact .inl ⟨g,Nat.lt_of_lt_of_le (Fits.lt a.fits l) n⟩
 unfold EvOk at he ⊢;split at he
 ·rename_i a _;exact⟨he.1,key _ (fun o=>¬ isHole o a.off) (fun o=>¬ isHole o a.off) (fun o d b hp f=>hp (b _ f)) he.2⟩
 ·exact key _ (fun o=>∀ i,¬ isHole o i) (fun o=>∀ i,¬ isHole o i) (fun o d b hp i f=>hp i (b _ f)) he
 ·exact he
 ·exact he
def LEnds{α:Type}(P:Program)(s:Sem α)(Q:α->Cells->Prop)(E:Halt->Cells->Prop)(h:Cells)(w:World)(es:Array Event):Prop :=
 ∃ (w':World) (h':Cells) (es':Array Event),Tr h w h' w'/\(∀ e∈es',EvOk h w.heap.size w'.heap.size e) /\
  ((∃ a,s.runT P w es=(.ok a w',es++es')/\Q a h')\/(∃ e,s.runT P w es=(.halt e w',es++es')/\E e h'))
theorem cell?_fits{h:Cells}(i:Fits h w)(hc:h.cell? a=some v):w.cell? a=some v:=by
 unfold Cells.cell? at hc;unfold World.cell?;split at hc
 ·rename_i m c e f he;obtain⟨j,d,g⟩:=i _ _ _ he;cases g;rw[d];exact hc
 ·rename_i m c e he;obtain⟨j,d,c',rfl,_,b⟩:=i _ _ _ he;rw[d];split at hc
  ·cases hc
  ·rename_i g;obtain⟨h1,h2⟩:=Option.filter_eq_some_iff.1 hc;simp only[g,Bool.false_eq_true,if_false];exact b _ _ h1 h2
 ·cases hc
theorem Gg{h:Cells}(hc:h.cell? a=some v):∃ x,h a.block=some x/\¬ isHole x.2 a.off:=by
 unfold Cells.cell? at hc;split at hc
 ·rename_i he;exact⟨_,he,id⟩
 ·rename_i m c e he;refine⟨_,he,fun b=>?_⟩;split at hc
  ·cases hc
  ·obtain⟨h1,h2⟩:=Option.filter_eq_some_iff.1 hc;rw[b v h1]at h2;cases h2
 ·cases hc
theorem frozen?_fits{h:Cells}(f:Fits h w)(d:h a.block=some x):w.frozen? a=h.frozen? a:=by
 unfold World.frozen? Cells.frozen?;obtain⟨m,o⟩:=x;obtain⟨i,g,b⟩:=f _ _ _ d;rw[g,d];cases o with
 | pending c e=>obtain⟨c',rfl,_⟩:=b;simp
 | _=>cases b;rfl
theorem shape?_fits{h:Cells}(f:Fits h w)(b:h r=some x):w.shape? r=h.shape? r:=by
 unfold World.shape? Cells.shape?;obtain⟨m,o⟩:=x;obtain⟨i,g,a⟩:=f _ _ _ b;rw[g,b];cases o with
 | pending c e=>obtain⟨c',rfl,d,_⟩:=a;simp only[d]
 | _=>cases a;rfl
theorem noHole(a:subO o o)(i:Nat):¬ isHole o i:=by
 cases o with
 | pending c e=>obtain⟨_,h,_⟩:=a;cases h
 | _=>exact id
theorem isOne_notHole(h:isOne v=true):notHole v=true:=by
 cases v<;>first|rfl|(simp[isOne]at h)
theorem Fits.keep{h:Cells}(a:Fits h w){m:Bool}(hr:h r=some (m,o))(h1:w.heap[r]?=some o₁):keepO o o₁ o₁:=by
 obtain⟨b,h2,h3⟩:=a r _ _ hr;rw[h1]at h2;cases h2;exact .refl h3
theorem tr_new{h:Cells}(a:Fits h w)(d:subO o o):Tr h w (h.upd w.heap.size (true,o)) { w with heap:=w.heap.push o } where
 fits r m g hr:=by
  show ∃ x,(w.heap.push o)[r]?=some x/\_;by_cases e:r=w.heap.size
  ·subst e;rw[Qn]at hr;cases hr;exact⟨o,by simp,d⟩
  ·rw[Qp _ _ e]at hr;obtain⟨x,h1,h2⟩:=a _ _ _ hr;refine⟨x,?_,h2⟩;rw[Array.getElem?_push];simp[e];exact h1
 size:=by simp
 other r hr _:=by
  show (w.heap.push o)[r]?=w.heap[r]?;rw[Array.getElem?_push];simp[Nat.ne_of_lt hr]
 part r g o₁ hr h1:=by
  refine⟨o₁,?_,a.keep hr h1⟩;show (w.heap.push o)[r]?=some o₁;rw[Array.getElem?_push];simp[Nat.ne_of_lt (a.lt hr)];exact h1
 new r x b:=by
  by_cases e:r=w.heap.size
  ·subst e;rw[Qn]at b;cases b;exact .inr ⟨Nat.le_refl _,rfl,noHole d⟩
  ·rw[Qp _ _ e]at b;exact .inl ⟨x,b,rfl,fun _=>Iff.rfl⟩
 keep r y f:=by
  have c:=a.lt f;exact⟨y,by rw[Qp _ _ (Nat.ne_of_lt c)];exact f,rfl,fun _=>Iff.rfl⟩
 os:=rfl
 tape:=rfl
 output:=rfl
theorem Ds{h:Cells}(hr:r≠a.block):h.setCell a v r=h r:=by unfold Cells.setCell;rw[if_neg hr]
theorem hole_set{c:Array Value}{e:TypeId}{i:Nat}(h0:c[i]?=some v₀)(hv:notHole v=true)(d:notHole v₀=true)(j:Nat):isHole (.pending c e) j↔isHole (.pending (c.setIfInBounds i v) e) j:=by
 have b:i<c.size:=(Array.getElem?_eq_some_iff.1 h0).1;show (∀ _,_)↔(∀ _,_);by_cases f:i=j
 ·subst f;constructor
  ·intro a;have:=a v₀ h0;rw[d]at this;cases this
  ·intro a;have:=a v (by rw[Array.getElem?_setIfInBounds_self];simp[b]);rw[hv]at this;cases this
 ·rw[Array.getElem?_setIfInBounds_ne f]
theorem cell?_inv{h:Cells}(hc:h.cell? a=some v):a.spot.isSome=false/\∃ m c e,c[a.off]?=some v/\((∃ f,h a.block=some (m,.cells c e f))\/(h a.block=some (m,.pending c e)/\notHole v=true)):=by
 unfold Cells.cell? at hc;split at hc
 ·rename_i m c e f he;split at hc
  ·cases hc
  ·rename_i b;exact⟨by simpa using b,m,c,e,hc,.inl ⟨f,he⟩⟩
 ·rename_i m c e he;split at hc
  ·cases hc
  ·rename_i b;obtain⟨h1,h2⟩:=Option.filter_eq_some_iff.1 hc;exact⟨by simpa using b,m,c,e,h1,.inr ⟨he,h2⟩⟩
 ·cases hc
theorem tr_set{h:Cells}(A:Fits h w)(hv:isOne v=true)(hc:h.cell? a=some v₀)(t:h.own a.block):Tr h w (h.setCell a v) (w.setCell a v):=by
 obtain⟨G,m,c,e,h1,l⟩:=cell?_inv hc;obtain⟨M,g⟩:=t;have H:=isOne_notHole hv;have P:a.off<c.size:=(Array.getElem?_eq_some_iff.1 h1).1;have hw:∀ r,r≠a.block->(w.setCell a v).heap[r]?=w.heap[r]?:=by
  intro r hr;show (w.heap.modify a.block _)[r]?=w.heap[r]?;rw[Array.getElem?_modify,if_neg (Ne.symm hr)]
 have j:∀ c' f,w.heap[a.block]?=some (.cells c' e f)->(w.setCell a v).heap[a.block]?=some (.cells (c'.setIfInBounds a.off v) e f):=by
  intro c' f h3;show (w.heap.modify a.block _)[a.block]?=_;rw[Array.getElem?_modify,if_pos rfl,h3];simp only[Option.map_some,G,Bool.false_eq_true,if_false]
 -- N Q block is, and q
 obtain⟨o,x,p,I,s,n,K⟩ : ∃ o x,h a.block=some (true,o)/\h.setCell a v a.block=some (true,x)/\(∃ B,(w.setCell a v).heap[a.block]?=some B/\subO x B) /\
   (∀ o₁,w.heap[a.block]?=some o₁->∃ d,(w.setCell a v).heap[a.block]?=some d/\keepO o o₁ d)/\∀ i,isHole o i↔isHole x i:=by
  rcases l with⟨f,he⟩|⟨he,L⟩
  ·rw[g]at he;cases he;obtain⟨B,h3,O⟩:=A _ _ _ g;cases O;refine⟨_,.cells (c.setIfInBounds a.off v) e f,g,?_,⟨_,j c f h3,rfl⟩,fun o₁ h5=>?_,fun _=>Iff.rfl⟩
   ·unfold Cells.setCell;rw[if_pos rfl,g];simp only[G,Bool.false_eq_true,if_false]
   ·rw[h3]at h5;cases h5;exact⟨_,j c f h3,fun ⟨_,D⟩=>D.elim⟩
  ·rw[g]at he;cases he;obtain⟨B,h3,c',rfl,z,C⟩:=A _ _ _ g;refine⟨_,.pending (c.setIfInBounds a.off v) e,g,?_,⟨_,j c' _ h3,_,rfl,by simp[z],fun i u hu F=>?_⟩,fun o₁ h5=>?_,fun i=>hole_set h1 H L i⟩
   ·unfold Cells.setCell;rw[if_pos rfl,g];simp only[G,Bool.false_eq_true,if_false]
   ·by_cases J:a.off=i
    ·subst J;rw[Array.getElem?_setIfInBounds_self]at hu ⊢;rw[z];exact hu
    ·rw[Array.getElem?_setIfInBounds_ne J]at hu ⊢;exact C i u hu F
   ·rw[h3]at h5;cases h5;refine⟨_,j c' _ h3,fun _=>⟨c',_,e,_,rfl,rfl,by simp,fun i D=>?_⟩⟩;have:a.off≠i:=by rintro rfl;have:=D _ h1;rw[L]at this;cases this
    rw[Array.getElem?_setIfInBounds_ne this]
 refine⟨?_,by simp[World.setCell],?_,?_,?_,?_,rfl,rfl,rfl⟩
 ·intro r m o hr;by_cases b:r=a.block
  ·subst b;rw[I]at hr;cases hr;exact s
  ·rw[Ds b]at hr;rw[hw r b];exact A _ _ _ hr
 ·intro r hr E;have:r≠a.block:=by rintro rfl;exact E ⟨_,g⟩
  exact hw r this
 ·intro r d o₁ hr h3;by_cases b:r=a.block
  ·subst b;rw[p]at hr;cases hr;exact n _ h3
  ·exact⟨o₁,by rw[hw r b];exact h3,A.keep hr h3⟩
 ·intro r y k;by_cases b:r=a.block
  ·subst b;rw[I]at k;cases k;exact .inl ⟨_,p,rfl,K⟩
  ·rw[Ds b]at k;exact .inl ⟨y,k,rfl,fun _=>Iff.rfl⟩
 ·intro r y k;by_cases b:r=a.block
  ·subst b;rw[p]at k;cases k;exact⟨_,I,rfl,K⟩
  ·exact⟨y,by rw[Ds b];exact k,rfl,fun _=>Iff.rfl⟩
theorem hole_frz(i:Nat):isHole o i↔isHole (frzO a n o) i:=by
 cases o<;>exact Iff.rfl
theorem tr_freeze{h:Cells}(p:Fits h w)(z:n≠0)(j:h.ownW a.block):Tr h w (h.freeze a n) (w.freeze a n):=by
 obtain⟨o,g,e⟩:=j;have f:w.freeze a n={ w with heap:=w.heap.modify a.block (frzO a n) }:=by
  unfold World.freeze;rw[if_neg z];congr 1
 have b:h.freeze a n a.block=some (true,frzO a n o):=by unfold Cells.freeze;rw[if_pos rfl,g];rfl
 have d:∀ r,r≠a.block->h.freeze a n r=h r:=fun r hr=>by unfold Cells.freeze;rw[if_neg hr]
 have hw:∀ r,r≠a.block->(w.freeze a n).heap[r]?=w.heap[r]?:=by
  intro r hr;rw[f];show (w.heap.modify a.block _)[r]?=w.heap[r]?;rw[Array.getElem?_modify,if_neg (Ne.symm hr)]
 have k:(w.freeze a n).heap[a.block]?=some (frzO a n o):=by
  obtain⟨t,h3,u⟩:=p _ _ _ g;cases Y5 e u;rw[f];show (w.heap.modify a.block _)[a.block]?=_;rw[Array.getElem?_modify,if_pos rfl,h3];rfl
 refine⟨?_,by rw[f];simp,?_,?_,?_,?_,by rw[f],by rw[f],by rw[f]⟩
 ·intro r m t hr;by_cases c:r=a.block
  ·subst c;rw[b]at hr;cases hr;exact⟨_,k,by cases o<;>first|exact rfl|exact absurd (hole_end _ _) (e _)⟩
  ·rw[d r c]at hr;rw[hw r c];exact p _ _ _ hr
 ·intro r hr q;exact hw r (by rintro rfl;exact q ⟨_,g⟩)
 ·intro r t o₁ hr h3;by_cases c:r=a.block
  ·subst c;rw[g]at hr;cases hr;exact⟨_,k,fun ⟨i,v⟩=>absurd v (e i)⟩
  ·exact⟨o₁,by rw[hw r c];exact h3,p.keep hr h3⟩
 ·intro r x l;by_cases c:r=a.block
  ·subst c;rw[b]at l;cases l;exact .inl ⟨_,g,rfl,fun i=>hole_frz i⟩
  ·rw[d r c]at l;exact .inl ⟨x,l,rfl,fun _=>Iff.rfl⟩
 ·intro r y s;by_cases c:r=a.block
  ·subst c;rw[g]at s;cases s;exact⟨_,b,rfl,fun i=>hole_frz i⟩
  ·exact⟨y,by rw[d r c];exact s,rfl,fun _=>Iff.rfl⟩
theorem Zd(h:notCells o)(i:Nat):¬ isHole o i:=by
 cases o<;>first|exact id|exact h.elim
theorem tr_obj{h:Cells}(d:Fits h w){c:Obj}(l:subO o o)(h0:h r=some (true,c))(j:notCells c):Tr h w (h.upd r (true,o)) { w with heap:=w.heap.setIfInBounds r o } where
 fits a m p hr:=by
  show ∃ x,(w.heap.setIfInBounds r o)[a]?=some x/\_;have g:=d.lt h0;by_cases e:a=r
  ·subst e;rw[Qn]at hr;cases hr;exact⟨o,by simp[g],l⟩
  ·rw[Qp _ _ e]at hr;rw[Array.getElem?_setIfInBounds_ne (Ne.symm e)];exact d _ _ _ hr
 size:=by simp
 other a hr k:=by
  show (w.heap.setIfInBounds r o)[a]?=w.heap[a]?;have:r≠a:=by rintro rfl;exact k ⟨_,h0⟩
  rw[Array.getElem?_setIfInBounds_ne this]
 part a p o₁ hr h1:=by
  show ∃ x,(w.heap.setIfInBounds r o)[a]?=some x/\_;by_cases e:a=r
  ·subst e;rw[h0]at hr;cases hr;exact⟨o,by simp[d.lt h0],fun ⟨i,b⟩=>absurd b (Zd j i)⟩
  ·exact⟨o₁,by rw[Array.getElem?_setIfInBounds_ne (Ne.symm e)];exact h1,d.keep hr h1⟩
 new a x f:=by
  by_cases e:a=r
  ·subst e;rw[Qn]at f;cases f;exact .inl ⟨_,h0,rfl,fun i=>⟨fun b=>absurd b (Zd j i),fun b=>absurd b (noHole l i)⟩⟩
  ·rw[Qp _ _ e]at f;exact .inl ⟨x,f,rfl,fun _=>Iff.rfl⟩
 keep a y n:=by
  by_cases e:a=r
  ·subst e;rw[h0]at n;cases n;exact⟨_,Qn _ _ _,rfl,fun i=>⟨fun b=>absurd b (Zd j i),fun b=>absurd b (noHole l i)⟩⟩
  ·exact⟨y,by rw[Qp _ _ e];exact n,rfl,fun _=>Iff.rfl⟩
 os:=rfl
 tape:=rfl
 output:=rfl
theorem Jz{α:Type}{s a:Sem α}{Q:α->Cells->Prop}{E:Halt->Cells->Prop}{h h₁:Cells}{es:Array Event}{ev:Array Event}
 (t:Tr h w h₁ w₁)(f:∀ e∈ev,EvOk h w.heap.size w₁.heap.size e)(b:s.runT P w es=a.runT P w₁ (es++ev))(k:LEnds P a Q E h₁ w₁ (es++ev)):LEnds P s Q E h w es:=by
 obtain⟨w',h',c,g,d,i⟩:=k;refine⟨w',h',ev++c,t.trans g,?_,?_⟩
 ·intro e he;rcases Array.mem_append.1 he with he|he
  ·exact(f e he).up g.size
  ·exact EvOk.back t g.size (d e he)
 ·rw[b,<- Array.append_assoc];exact i
theorem Zo{α:Type}(P:Program)(s:Sem α):∀ (Q:α->Cells->Prop) (E:Halt->Cells->Prop) (h:Cells) (w:World) (es:Array Event),
  Fits h w->Qe P s Q E h->LEnds P s Q E h w es:=by
 induction s with
 | pure a=>intro Q E h w es d b;exact⟨w,h,#[],Tr.refl d,by simp,.inl ⟨a,by simp[Sem.runT],b⟩⟩
 | load m a k f =>
  intro Q E h w es d b;obtain⟨rfl,v,hc,b⟩:=b;refine Jz (ev:=#[⟨.cell a,false,false⟩]) (Tr.refl d) ?_ ?_ (f v Q E h w _ d b)
  ·intro e he;simp only[List.mem_toArray,List.mem_cons,List.not_mem_nil,or_false]at he;subst he;obtain⟨x,l,B⟩:=Gg hc;exact⟨rfl,.inr ⟨x,l,by simp,B⟩⟩
  ·simp only[Sem.runT,cell?_fits d hc];rfl
 | store m a v k f =>
  intro Q E h w es d b;obtain⟨rfl,hv,g,⟨v₀,hc⟩,A,b⟩:=b;refine Jz (ev:=#[⟨.cell a,true,false⟩]) (tr_set d hv hc g) ?_ ?_ (f Q E _ _ _ (tr_set d hv hc g).fits b)
  ·intro e he;simp only[List.mem_toArray,List.mem_cons,List.not_mem_nil,or_false]at he;subst he;obtain⟨o,i⟩:=g;obtain⟨x,l,B⟩:=Gg hc;rw[i]at l;cases l;exact⟨rfl,.inr ⟨_,i,by simp,B⟩⟩
  ·obtain⟨o,i⟩:=g;have u:w.frozen? a=false:=by rw[frozen?_fits d i];exact A
   cases v<;>simp only[isOne,Bool.false_eq_true]at hv<;>simp only[Sem.runT,cell?_fits d hc,u]<;>rfl
 | new o k f =>
  intro Q E h w es d b;have t:=tr_new d b.refl;have:=f w.heap.size Q E _ _ (es++#[]) t.fits (b.out _ (d.fresh (Nat.le_refl _)));exact Jz (ev:=#[]) t (by simp) (by simp[Sem.runT]) this
 | shape r k f =>
  intro Q E h w es d b;obtain⟨⟨x,l⟩,b⟩:=b;refine Jz (ev:=#[]) (Tr.refl d) (by simp) ?_ (f _ Q E h w _ d b);simp[Sem.runT,shape?_fits d l]
 | freeze a n k f =>
  intro Q E h w es d b;obtain⟨j,g,b⟩:=b;have t:=tr_freeze d j g;exact Jz (ev:=#[]) t (by simp) (by simp[Sem.runT]) (f Q E _ _ _ t.fits b)
 | frozen a k f =>
  intro Q E h w es d b;obtain⟨⟨x,l⟩,b⟩:=b;refine Jz (ev:=#[]) (Tr.refl d) (by simp) ?_ (f _ Q E h w _ d b);simp[Sem.runT,frozen?_fits d l]
 | getObj r k f =>
  intro Q E h w es d b;obtain⟨m,o,i,j,b⟩:=b;refine Jz (ev:=#[⟨.obj r,false,o.isChan⟩]) (Tr.refl d) ?_ ?_ (f _ Q E h w _ d b)
  ·intro e he;simp only[List.mem_toArray,List.mem_cons,List.not_mem_nil,or_false]at he;subst he;exact .inr ⟨_,i,by simp,Zd j⟩
  ·obtain⟨C,hw,p⟩:=d _ _ _ i;cases Y5 (Zd j) p;cases o<;>first|exact j.elim|(simp only[Sem.runT,hw];rfl)
 | setObj r o k f =>
  intro Q E h w es d b;obtain⟨⟨y,i,j⟩,b⟩:=b;refine Jz (ev:=#[⟨.obj r,true,o.isChan⟩]) (tr_obj d b.refl i j) ?_ ?_ (f Q E _ _ _ (tr_obj d b.refl i j).fits b.out)
  ·intro e he;simp only[List.mem_toArray,List.mem_cons,List.not_mem_nil,or_false]at he;subst he;exact .inr ⟨_,i,by simp,Zd j⟩
  ·obtain⟨C,hw,p⟩:=d _ _ _ i;cases Y5 (Zd j) p;cases y<;>first|exact j.elim|(simp only[Sem.runT,hw];rfl)
 | choose q k f =>
  intro Q E h w es d b;unfold Qe at b;by_cases z:q.forced=true
  ·rw[if_pos z]at b;refine Jz (ev:=#[]) (Tr.refl d) (by simp) ?_ (f 0 Q E h w _ d b);simp[Sem.runT,z]
  ·rw[if_neg z]at b;have t:Tr h w h { w with drawn:=w.drawn+1 }:=let t:=Tr.refl d;⟨t.fits,t.size,t.other,t.part,t.new,t.keep,rfl,rfl,rfl⟩;refine Jz (ev:=#[]) t (by simp) ?_ (f _ Q E h _ _ t.fits (b (w.tape w.drawn q)));simp[Sem.runT,z]
 | sys c k f=>intro Q E h w es d b;exact b.elim
 | program k f =>
  intro Q E h w es d b;refine Jz (ev:=#[]) (Tr.refl d) (by simp) ?_ (f P Q E h w _ d b);simp[Sem.runT]
 | mark m k f =>
  intro Q E h w es d b;obtain⟨hm,b⟩:=b;refine Jz (ev:=#[⟨.mark m,false,true⟩]) (Tr.refl d) ?_ (by simp only[Sem.runT];rfl) (f Q E h w _ d b);intro e he;simp only[List.mem_toArray,List.mem_cons,List.not_mem_nil,or_false]at he;subst he;exact hm
 | halt e=>intro Q E h w es d b;exact⟨w,h,#[],Tr.refl d,by simp,.inr ⟨e,by simp[Sem.runT],b⟩⟩
theorem Q7{α:Type}(s:Sem α):∀ {Q g:α->Cells->Prop} {E E':Halt->Cells->Prop} {h:Cells},
  Qe P s Q E h->(∀ a h,Q a h->g a h)->(∀ e h,E e h->E' e h)->Qe P s g E' h:=by
 induction s with
 | pure a=>intro Q g E E' h b d he;exact d _ _ b
 | load m a k f=>intro Q g E E' h b d he;obtain⟨e,v,hc,b⟩:=b;exact⟨e,v,hc,f v b d he⟩
 | store m a v k f=>intro Q g E E' h b d he;obtain⟨e,h1,h2,h3,j,b⟩:=b;exact⟨e,h1,h2,h3,j,f b d he⟩
 | new o k f=>intro Q g E E' h b d he;exact unpend.mono b fun b r hr=>f r (b r hr) d he
 | shape r k f=>intro Q g E E' h b d he;exact⟨b.1,f _ b.2 d he⟩
 | freeze a n k f=>intro Q g E E' h b d he;exact⟨b.1,b.2.1,f b.2.2 d he⟩
 | frozen a k f=>intro Q g E E' h b d he;exact⟨b.1,f _ b.2 d he⟩
 | getObj r k f=>intro Q g E E' h b d he;obtain⟨m,o,h1,h2,b⟩:=b;exact⟨m,o,h1,h2,f _ b d he⟩
 | setObj r o k f=>intro Q g E E' h b d he;exact⟨b.1,b.2.mono fun b=>f b d he⟩
 | choose q k f =>
  intro Q g E E' h b d he;unfold Qe at b ⊢;split
  ·rename_i i;rw[if_pos i]at b;exact f _ b d he
  ·rename_i i;rw[if_neg i]at b;exact fun t=>f _ (b t) d he
 | sys c k f=>intro Q g E E' h b;exact b.elim
 | program k f=>intro Q g E E' h b d he;exact f _ b d he
 | mark m k f=>intro Q g E E' h b d he;exact⟨b.1,f b.2 d he⟩
 | halt e=>intro Q g E E' h b d he;exact he _ _ b
theorem Qz{α β:Type}(s:Sem α)(f:α->Sem β):∀ {Q:β->Cells->Prop} {E:Halt->Cells->Prop} {h:Cells},
  Qe P s (fun a h=>Qe P (f a) Q E h) E h->Qe P (s.bind f) Q E h:=by
 induction s with
 | pure a=>intro Q E h b;exact b
 | load m a k d=>intro Q E h b;obtain⟨e,v,hc,b⟩:=b;exact⟨e,v,hc,d v b⟩
 | store m a v k d=>intro Q E h b;obtain⟨e,h1,h2,h3,i,b⟩:=b;exact⟨e,h1,h2,h3,i,d b⟩
 | new o k d=>intro Q E h b;exact unpend.mono b fun b r hr=>d r (b r hr)
 | shape r k d=>intro Q E h b;exact⟨b.1,d _ b.2⟩
 | freeze a n k d=>intro Q E h b;exact⟨b.1,b.2.1,d b.2.2⟩
 | frozen a k d=>intro Q E h b;exact⟨b.1,d _ b.2⟩
 | getObj r k d=>intro Q E h b;obtain⟨m,o,h1,h2,b⟩:=b;exact⟨m,o,h1,h2,d _ b⟩
 | setObj r o k d=>intro Q E h b;exact⟨b.1,b.2.mono fun b=>d b⟩
 | choose q k d =>
  intro Q E h b;show Qe P (.choose q fun n=>(k n).bind f) Q E h;unfold Qe at b ⊢;split
  ·rename_i g;rw[if_pos g]at b;exact d _ b
  ·rename_i g;rw[if_neg g]at b;exact fun t=>d _ (b t)
 | sys c k d=>intro Q E h b;exact b.elim
 | program k d=>intro Q E h b;exact d _ b
 | mark m k d=>intro Q E h b;exact⟨b.1,d b.2⟩
 | halt e=>intro Q E h b;exact b
end
section
abbrev Script:=List (Nat×(Value->Cells->Prop))
structure LH where
 get:Cells
 chans:List Nat
 pend:List Script
 todo:Script
def Disj(h k:Cells):Prop:=∀ r,h r=none\/k r=none
def Cells.add(h k:Cells):Cells:=fun r=>match h r with|some x=>some x|none=>k r
def LH.add(h:LH)(k:Cells):LH:={ h with get:=h.get.add k }
def LH.le(h h':LH):Prop:=h.get.le h'.get/\h'.chans=h.chans/\h'.pend=h.pend/\h'.todo=h.todo
variable {h k a b c:Cells}{r:Nat}{x:Bool×Obj}{w:World}{P:Program}{f:FuncId}{args:Array Value}{Q:Value->LH->Prop}{fr:Frame}{v:Value}
theorem LH.le_refl(h:LH):h.le h:=⟨Cells.le_refl _,rfl,rfl,rfl⟩
theorem LH.le_trans{a b c:LH}(h1:a.le b)(h2:b.le c):a.le c:=⟨Cells.le_trans h1.1 h2.1,h2.2.1.trans h1.2.1,h2.2.2.1.trans h1.2.2.1,h2.2.2.2.trans h1.2.2.2⟩
theorem Qi(hr:h r=some x):h.add k r=some x:=by simp[Cells.add,hr]
theorem Qk(hr:h r=none):h.add k r=k r:=by simp[Cells.add,hr]
theorem Zm(h k:Cells):h.le (h.add k):=fun _ _ hr=>Qi hr
theorem Disj.symm{h k:Cells}(d:Disj h k):Disj k h:=fun r=>(d r).symm
theorem Q3(d:Disj h k)(hr:k r=some x):h.add k r=some x:=by
 rcases d r with h'|h'
 ·rw[Qk h'];exact hr
 ·rw[hr]at h';cases h'
theorem J4(a:h.add k r=some x):h r=some x\/(h r=none/\k r=some x):=by
 unfold Cells.add at a;split at a
 ·rename_i y c;cases a;exact .inl c
 ·rename_i b;exact .inr ⟨b,a⟩
theorem Fits.left(a:Fits (h.add k) w):Fits h w:=fun r m o hr=>a r m o (Qi hr)
theorem W7(d:Disj h k)(a:Fits (h.add k) w):Fits k w:=fun r m o hr=>a r m o (Q3 d hr)
theorem Tr.frame{h':Cells}{w':World}(t:Tr h w h' w')(d:Disj h k)(f:Fits (h.add k) w):Disj h' k/\Tr (h.add k) w (h'.add k) w':=by
 have l:Disj h' k:=by
  intro r;cases hr:h' r with
  | none=>exact .inl rfl
  | some x =>
   rcases t.new r x hr with⟨y,b,_,_⟩|⟨n,_⟩
   ·rcases d r with h0|h0
    ·rw[b]at h0;cases h0
    ·exact .inr h0
   ·cases i:k r with
    | none=>exact .inr rfl
    | some z=>exact absurd ((W7 d f).lt i) (by omega)
 refine⟨l,?_,t.size,?_,?_,?_,?_,t.os,t.tape,t.output⟩
 ·intro r m o hr;rcases J4 hr with hr|⟨g,hr⟩
  ·exact t.fits r m o hr
  ·have i:=W7 d f r m o hr;rw[t.other r ((W7 d f).lt hr) ?_];exact i;rintro⟨q,a⟩;rcases d r with h0|h0
   ·rw[a]at h0;cases h0
   ·rw[hr]at h0;cases h0
 ·intro r hr j;refine t.other r hr ?_;rintro⟨o,p⟩;exact j ⟨o,Qi p⟩
 ·intro r o o₁ hr h1;rcases J4 hr with hr|⟨g,hr⟩
  ·exact t.part r o o₁ hr h1
  ·refine⟨o₁,?_,(W7 d f).keep hr h1⟩;rw[t.other r ((W7 d f).lt hr) ?_];exact h1;rintro⟨q,a⟩;rw[g]at a;cases a
 ·intro r x c;rcases J4 c with c|⟨g,c⟩
  ·rcases t.new r x c with⟨y,b,e⟩|h'
   ·exact .inl ⟨y,Qi b,e⟩
   ·exact .inr h'
  ·exact .inl ⟨x,Q3 d c,rfl,fun _=>Iff.rfl⟩
 ·intro r y b;rcases J4 b with b|⟨g,b⟩
  ·obtain⟨x,c,e⟩:=t.keep r y b;exact⟨x,Qi c,e⟩
  ·exact⟨y,Q3 l b,rfl,fun _=>Iff.rfl⟩
theorem EvOk.frame{n b:Nat}{e:Event}(he:EvOk h n b e):EvOk (h.add k) n b e:=by
 have key:∀ r (p:Obj->Prop),((n<=r/\r<b)\/∃ x,h r=some x/\(e.write=true->x.1=true)/\p x.2)->((n<=r/\r<b)\/∃ x,h.add k r=some x/\(e.write=true->x.1=true)/\p x.2):=by
  rintro r p (hr|⟨x,c,hw⟩)
  ·exact .inl hr
  ·exact .inr ⟨x,Qi c,hw⟩
 unfold EvOk at he ⊢;split at he
 ·rename_i a _;exact⟨he.1,key _ (fun o=>¬ isHole o a.off) he.2⟩
 ·exact key _ (fun o=>∀ i,¬ isHole o i) he
 ·exact he
 ·exact he
theorem Q4(d:Disj b c):(a.add b).add c=(a.add c).add b:=by
 funext r;unfold Cells.add;cases a r with
 | some x=>rfl
 | none =>
  rcases d r with h|h
  ·simp[h];cases c r<;>rfl
  ·simp[h];cases b r<;>rfl
theorem Disj.add{a b c:Cells}(h1:Disj a c)(h2:Disj b c):Disj (a.add b) c:=by
 intro r;rcases h1 r with h|h
 ·rcases h2 r with h'|h'
  ·left;rw[Qk h];exact h'
  ·exact .inr h'
 ·exact .inr h
theorem Disj.of_add_left(h:Disj (a.add b) c):Disj a c:=by
 intro r;rcases h r with h|h
 ·left;cases d:a r with
  | none=>rfl
  | some x=>rw[Qi d]at h;cases h
 ·exact .inr h
theorem Qx(d:Disj a b)(h:Disj (a.add b) c):Disj b c:=by
 intro r;rcases h r with h|h
 ·left;cases hb:b r with
  | none=>rfl
  | some x=>rw[Q3 d hb]at h;cases h
 ·exact .inr h
def LStep(P:Program)(main:Bool)(g:Goroutine)(h:LH)(N:Goroutine->LH->Prop):Prop :=
 ∀ w,Fits h.get w->∃ g' w' es h',stepG P main g w=.go g' w' es/\Tr h.get w h' w'/\(∀ e∈es,EvOk h.get w.heap.size w'.heap.size e)/\N g' { h with get:=h' }
structure LClosed(P:Program)(main:Bool)(R:Goroutine->LH->Prop):Prop where
 step:∀ fr cs h N,LStep P main (G fr cs) h N->(∀ g' h',N g' h'->R g' h')->R (G fr cs) h
 up:∀ g h k,R g h->Disj h.get k->R g (h.add k)
theorem LStep.frame{P:Program}{main:Bool}{g:Goroutine}{h:LH}{N:Goroutine->LH->Prop}{k:Cells}(s:LStep P main g h N)(d:Disj h.get k) :
  LStep P main g (h.add k) fun g' a=>∃ h',Disj h'.get k/\a=h'.add k/\N g' h':=by
 intro w b;obtain⟨g',w',es,h',h1,h2,h3,f⟩:=s w b.left;obtain⟨c,t⟩:=h2.frame d b;exact⟨g',w',es,h'.add k,h1,t,fun e he=>(h3 e he).frame,{ h with get:=h' },c,rfl,f⟩
theorem LClosed.frame{P:Program}{main:Bool}{R:Goroutine->LH->Prop}(c:LClosed P main R)(k:Cells) :
  LClosed P main fun g h=>Disj h.get k->R g (h.add k) where
 step fr cs h N s j d:=by
  refine c.step fr cs _ _ (s.frame d) ?_;rintro g' b ⟨h',a,rfl,f⟩;exact j g' h' f a
 up g h k' i d a:=by
  have d1:Disj h.get k:=a.of_add_left;have d2:Disj k' k:=Qx d a;have:=c.up g _ k' (i d1) (Disj.add d d2.symm);have e:(h.add k).add k'=(h.add k').add k:=by
   unfold LH.add;simp only;rw[Q4 d2.symm]
  rw[<- e];exact this
structure XP where
 cond:Program->Bool->(Goroutine->LH->Prop)->Prop
 stk:Program->CallKind->List Frame->Prop
 /-- A frame that a panic may pass. -/
 pass:Program->Frame->Prop:=fun _ _=>True
def Closed(X:XP)(P:Program)(main:Bool)(R:Goroutine->LH->Prop):Prop:=LClosed P main R/\X.cond P main R
theorem Ki{α:Type}(s:Sem α):∀ {Q:α->Cells->Prop} {E:Halt->Cells->Prop} {h:Cells},Qe P s Q E h->∀ {k:Cells},Disj h k ->
  Qe P s (fun a p=>∃ h',Disj h' k/\p=h'.add k/\Q a h') (fun e p=>∃ h',Disj h' k/\p=h'.add k/\E e h') (h.add k):=by
 have i:∀ {h k:Cells} {a:Addr} {v:Value},h.cell? a=some v->(h.add k).cell? a=some v:=fun hc=>Qo (Zm _ _) hc;have j:∀ {h k:Cells} {r:Nat} {x:Bool×Obj},(h.add k).upd r x=(h.upd r x).add k:=by
  intro h k r x;funext w;unfold Cells.upd Cells.add;by_cases e:w=r<;>simp[e]
 induction s with
 | pure a=>intro Q E h b k d;exact⟨h,d,rfl,b⟩
 | load m a f g=>intro Q E h b k d;obtain⟨e,v,hc,b⟩:=b;exact⟨e,v,i hc,g v b d⟩
 | store m a v f g =>
  intro Q E h b k d;obtain⟨e,h1,⟨o,y⟩,⟨v₀,h3⟩,A,b⟩:=b;have F:Disj (h.setCell a v) k:=by
   intro r;rcases d r with l|l
   ·left;unfold Cells.setCell;by_cases e:r=a.block
    ·rw[if_pos e,l]
    ·rw[if_neg e,l]
   ·exact .inr l
  have G:(h.add k).setCell a v=(h.setCell a v).add k:=by
   funext r;unfold Cells.setCell Cells.add;by_cases e:r=a.block
   ·subst e;simp only[if_pos,y];cases o<;>rfl
   ·simp only[if_neg e]
  refine⟨e,h1,⟨o,Qi y⟩,⟨v₀,i h3⟩,?_,?_⟩
  ·unfold Cells.frozen? at A ⊢;rw[Qi y];rw[y]at A;exact A
  ·rw[G];exact g b F
 | new o f g =>
  intro Q E h b k d;refine unpend.mono b fun b r hr=>?_;have D:h r=none:=by
   cases u:h r with
   | none=>rfl
   | some x=>rw[Qi u]at hr;cases hr
  have H:k r=none:=by rw[Qk D]at hr;exact hr
  rw[j];refine g r (b r D) ?_;intro w;by_cases e:w=r
  ·subst e;exact .inr H
  ·rw[Qp _ _ e];exact d w
 | shape r f g =>
  intro Q E h b k d;obtain⟨⟨x,u⟩,b⟩:=b;refine⟨⟨x,Qi u⟩,?_⟩;have:(h.add k).shape? r=h.shape? r:=by unfold Cells.shape?;rw[Qi u,u]
  rw[this];exact g _ b d
 | freeze a n f g =>
  intro Q E h b k d;obtain⟨l,⟨o,y,C⟩,b⟩:=b;have e:(h.add k).freeze a n=(h.freeze a n).add k:=by
   funext r;unfold Cells.freeze Cells.add;by_cases e:r=a.block
   ·subst e;simp[y]
   ·simp[e]
  refine⟨l,⟨o,Qi y,C⟩,?_⟩;rw[e];refine g b ?_;intro r;rcases d r with h1|h1
  ·left;unfold Cells.freeze;split
   ·rw[h1];rfl
   ·exact h1
  ·exact .inr h1
 | frozen a f g =>
  intro Q E h b k d;obtain⟨⟨x,u⟩,b⟩:=b;refine⟨⟨x,Qi u⟩,?_⟩;have:(h.add k).frozen? a=h.frozen? a:=by unfold Cells.frozen?;rw[Qi u,u]
  rw[this];exact g _ b d
 | getObj r f g=>intro Q E h b k d;obtain⟨m,o,h1,h2,b⟩:=b;exact⟨m,o,Qi h1,h2,g _ b d⟩
 | setObj r o f g =>
  intro Q E h b k d;obtain⟨⟨z,h1,h2⟩,b⟩:=b;refine⟨⟨z,Qi h1,h2⟩,b.mono fun b=>?_⟩;rw[j];refine g b ?_;intro w;by_cases e:w=r
  ·subst e;rcases d w with l|l
   ·rw[h1]at l;cases l
   ·exact .inr l
  ·rw[Qp _ _ e];exact d w
 | choose q f g =>
  intro Q E h b k d;unfold Qe at b ⊢;split
  ·rename_i B;rw[if_pos B]at b;exact g _ b d
  ·rename_i B;rw[if_neg B]at b;exact fun t=>g _ (b t) d
 | sys c f g=>intro Q E h b;exact b.elim
 | program f g=>intro Q E h b k d;exact g _ b d
 | mark m f g=>intro Q E h b k d;exact⟨b.1,g b.2 d⟩
 | halt e=>intro Q E h b k d;exact⟨h,d,rfl,b⟩
theorem Z7{fn:FuncId}{es:Array Event}{e:Event}(he:e∈seen P fn es):e∈es:=by
 unfold seen at he;simp only at he;rw[<- Array.foldl_toList]at he;have:∀ (l:List Event) (q:Bool) (kept:Array Event),e∈(l.foldl (fun (x:Bool×Array Event) (e:Event)=>match e.loc with
   | .mark (.extern f)=>((P.funcs[f]?).any (·.norace),x.2)
   | _=>(x.1,if x.1&&!e.sync then x.2 else x.2.push e)) (q,kept)).2->e∈kept\/e∈l:=by
  intro l
  induction l with
  | nil=>intro q kept h;exact .inl h
  | cons a l b =>
   intro q kept h;rw[List.foldl_cons]at h;split at h
   ·rcases b _ _ h with h|h
    ·exact .inl h
    ·exact .inr (List.mem_cons_of_mem _ h)
   ·rcases b _ _ h with h|h
    ·split at h
     ·exact .inl h
     ·rcases Array.mem_push.1 h with h|h
      ·exact .inl h
      ·exact .inr (h▸List.mem_cons_self)
    ·exact .inr (List.mem_cons_of_mem _ h)
 rcases this es.toList _ _ he with h|h
 ·simp at h
 ·exact Array.mem_toList_iff.1 h
def Ret(P:Program)(kd:CallKind)(fr:Frame)(v:Value)(h:Cells):Prop :=
 fr.mode=.returning/\fr.defers=[]/\fr.kind=kd/\∃ fn,P.funcs[fr.fn]?=some fn/\Qe P (results fn fr.tmps) (fun v' h'=>v'=v/\h'=h) (fun _ _=>False) h
def HasBody(P : Program)(f : FuncId) : Prop := ∃ fn, P.funcs[f]? = some fn /\ fn.body.isSome = true /\ (fn.name == "runtime.NumGoroutine") = false
def FWK(X:XP)(P:Program)(kd:CallKind)(f:FuncId)(args:Array Value)(h:LH)(Q:Value->LH->Prop):Prop :=
 HasBody P f/\∀ main R,Closed X P main R->∀ cs,X.stk P kd cs->(∀ fr v h' k,fr.fn=f->Disj h'.get k->Ret P kd fr v (h'.get.add k)->Q v h'->R (G fr cs) (h'.add k)) ->
  R (G (Frame.enter P f args kd) cs) h
abbrev FW(X:XP)(P:Program)(f:FuncId)(args:Array Value)(h:LH)(Q:Value->LH->Prop):Prop:=FWK X P .normal f args h Q
def X0:XP:=⟨fun _ _ _=>True,fun _ _ _=>True,fun _ _=>True⟩
theorem FW.mono{X:XP}{kd:CallKind}{h:LH}{b:Value->LH->Prop}(c:FWK X P kd f args h Q)(l:∀ v h,Q v h->b v h):FWK X P kd f args h b :=
 ⟨c.1,fun main R g cs a j=>c.2 main R g cs a fun fr v h' k i d hr e=>j fr v h' k i d hr (l v h' e)⟩
theorem Yx{X:XP}{kd:CallKind}{h:LH}(c:FWK X0 P kd f args h Q):FWK X P kd f args h Q :=
 ⟨c.1,fun main R a cs _ b=>c.2 main R ⟨a.1,trivial⟩ cs trivial b⟩
structure XOK(X:XP):Prop where
 frame:∀ P main R k,LClosed P main R->X.cond P main R->X.cond P main fun g h=>Disj h.get k->R g (h.add k)
 stk:∀ P kd fr cs,X.stk P kd cs->X.pass P fr->X.stk P .normal (fr::cs)
 free:∀ P fr,fr.mode=.run->fr.defers=[]->fr.catches P=false->X.pass P fr
theorem Qr:XOK X0:=⟨fun _ _ _ _ _ _=>trivial,fun _ _ _ _ _ _=>trivial,fun _ _ _ _ _=>trivial⟩
def XP.all(X:XP):Prop:=∀ P fr,X.pass P fr
theorem Closed.frame{X:XP}{P:Program}{main:Bool}{R:Goroutine->LH->Prop}(a:XOK X)(c:Closed X P main R)(k:Cells):Closed X P main fun g h=>Disj h.get k->R g (h.add k) :=
 ⟨c.1.frame k,a.frame P main R k c.1 c.2⟩
theorem Ret.frame{kd:CallKind}(r:Ret P kd fr v h)(d:Disj h k):Ret P kd fr v (h.add k):=by
 obtain⟨r1,r2,r3,fn,r4,r5⟩:=r;refine⟨r1,r2,r3,fn,r4,Q7 _ (Ki (results fn fr.tmps) r5 d) ?_ ?_⟩
 ·rintro a b ⟨h₁,_,rfl,rfl,rfl⟩;exact⟨rfl,rfl⟩
 ·rintro e b ⟨_,_,_,c⟩;exact c.elim
theorem FW.frame{X:XP}{P:Program}{kd:CallKind}(o:XOK X){f:FuncId}{args:Array Value}{h:LH}{Q:Value->LH->Prop}(c:FWK X P kd f args h Q){k:Cells}(d:Disj h.get k) :
  FWK X P kd f args (h.add k) fun v a=>∃ h',Disj h'.get k/\a=h'.add k/\Q v h':=by
 refine⟨c.1,?_⟩;intro main R n cs i r;refine c.2 main (fun g h=>Disj h.get k->R g (h.add k)) (n.frame o k) cs i ?_ d;intro fr v h' j q l hr m b;have d1:Disj h'.get k:=b.of_add_left;have d2:Disj j k:=Qx l b;have e:(h'.add j).add k=(h'.add k).add j:=by
  unfold LH.add;simp only;rw[Q4 d2]
 have p:Disj (h'.add k).get j:=Disj.add l d2.symm;rw[e];refine r fr v (h'.add k) j q p ?_ ⟨h',d1,rfl,m⟩;show Ret P kd fr v ((h'.get.add k).add j);rw[<- Q4 d2];exact hr.frame b
theorem ret_step{main:Bool}{R:Goroutine->LH->Prop}(k:LClosed P main R){c:Frame}{cs:List Frame}{h:LH}(r:Ret P .normal fr v h.get)(m:R (G (c.finish v) cs) h):R (G fr (c::cs)) h:=by
 refine k.step fr (c::cs) h R ?_ (fun _ _ h=>h);intro w l;obtain⟨r1,r2,r3,fn,r4,r5⟩:=r;obtain⟨w',h',d,t,g,n⟩:=Zo P _ _ _ h.get w #[] l r5;rcases n with⟨i,a,rfl,rfl⟩|⟨e,a,j⟩
 ·rw[Array.empty_append]at a;have b:((results fn fr.tmps).runT P w #[]).1=.ok i w':=by rw[a]
  simp only[Sem.runT_fst]at b;refine⟨G (c.finish i) cs,w',seen P fr.fn d,h.get,?_,t,fun e he=>g e (Z7 he),m⟩;have f:Sem.events P (results fn fr.tmps) w #[]=d:=by show ((results fn fr.tmps).runT P w #[]).2=d;rw[a]
  simp[G,stepG,unwind,r1,r2,r4,b,f,GStep.after,doReturn,r3]
 ·exact j.elim
end
section
inductive LExit where
 | fall
 | exit (id:Nat)
 | ret
 deriving DecidableEq
inductive Leaf where
 | ret (v:Value)
 | again (vs:List Value)
 | brk (vs:List Value)
 | retn (vs:List Value)
 | out (j:Nat) (vs:List Value)
inductive T where
 | fail
 | leaf (l:Leaf)
 | need (p:Prop) (k:T)
 | someA (p:Option Addr) (k:Addr->T)
 | loadI (ik:IntKind) (a:Addr) (k:Int->T)
 | loadB (a:Addr) (k:Bool->T)
 | loadS (a:Addr) (k:Option Addr->Nat->Nat->T)
 | loadP (a:Addr) (k:Option Addr->T)
 | loadM (a:Addr) (k:Option Nat->T)
 | loadC (a:Addr) (k:Option Nat->T)
 | loadStr (a:Addr) (k:ByteArray->T)
 | loadV (a:Addr) (k:Value->T)
 | store (a:Addr) (v:Value) (k:T)
 | new (elem:TypeId) (cells:Array Value) (k:Nat->T)
 | call (q:Bool) (f:FuncId) (args:Array Value) (k:Value->T)
 | callv (q:Bool) (f:Value) (args:Array Value) (k:Value->T)
 | sem (q:Bool) (s:Sem Value) (k:Value->T)
 | loop (init:List Value) (body:List Value->T) (kb kr:List Value->T) (ko:Nat->List Value->T)
 | blk (body:T) (kf kr:List Value->T) (ko:Nat->List Value->T)
 | spawn (f:Value) (args:Array Value) (k:T)
 | comm (last:Bool) (cases:Array CommCase) (shape:CommShape) (k:Value->T)
 | both (a b:T)
 | mem (p:LH->Prop) (k:T)
 | each (f:Value) (init:List Value) (body:List Value->List Value->T) (kf kb kr:List Value->T) (ko:Nat->List Value->T)
def Nx(P:Program)(R:Goroutine->LH->Prop)(fr:Frame)(cs:List Frame)(h:LH):Next->Prop
 | .value v=>R (G (fr.finish v) cs) h
 | .skip=>R (G (fr.finish undef) cs) h
 | .enter f args=>R (G (Frame.enter P f args .normal) (fr::cs)) h
 | .round l f tmps assign body=>R (G (Frame.round l f tmps assign body .normal) (fr::cs)) h
 | _=>False
def AtOp(fr:Frame):Prop:=fr.mode=.run/\(∃ ops i rest k,fr.todo=.inRegion ops (i::rest)::k)/\fr.kind≠.early
def CV(X:XP)(P:Program)(v:Value)(args:Array Value)(h:LH)(Q:Value->LH->Prop):Prop :=
 ∀ main R,Closed X P main R->∀ fr cs,X.stk P .normal (fr::cs)->(∀ v h' k,Disj h'.get k->Q v h'->R (G (fr.finish v) cs) (h'.add k)) ->
  Qe P (do let d <- Deferred.ofValue v args;invoke d.target d.args) (fun nx h'=>Nx P R fr cs { h with get:=h' } nx) (fun _ _=>False) h.get
def Hands(X:XP)(P:Program)(fv:Value)(h₀:LH)(L:List (List Value)):Prop :=
 ∀ (y:Value) (J:Nat->LH->Prop) (E:LH->Prop),
  (∀ i h k,J i h->Disj h.get k->J i (h.add k))->(∀ h k,E h->Disj h.get k->E (h.add k)) ->
  (∀ i h xs,h₀.le h->L[i]?=some xs->J i h->CV X P y xs.toArray h fun b h'=>h₀.le h'/\((b=.bool true/\J (i+1) h')\/(b=.bool false/\E h'))) ->
  ∀ h,h₀.le h->J 0 h->CV X P fv #[y] h fun _ h'=>h₀.le h'/\(J L.length h'\/E h')
def HandsG(X:XP)(P:Program)(fv:Value)(h₀:LH){S:Type}(nx:S->List Value->S->Prop)(fin:S->Prop)(s₀:S):Prop :=
 ∀ (y:Value) (J:S->LH->Prop) (E:LH->Prop),
  (∀ s h k,J s h->Disj h.get k->J s (h.add k))->(∀ h k,E h->Disj h.get k->E (h.add k)) ->
  (∀ s h xs s',h₀.le h->nx s xs s'->J s h->CV X P y xs.toArray h fun b h'=>h₀.le h'/\((b=.bool true/\J s' h')\/(b=.bool false/\E h'))) ->
  ∀ h,h₀.le h->J s₀ h->CV X P fv #[y] h fun _ h'=>h₀.le h'/\((∃ s,fin s/\J s h')\/E h')
def HandsF(X:XP)(P:Program)(fv:Value)(h₀:LH)(k₀:Cells){S:Type}(nx:S->List Value->S->Prop)(fin:S->Prop)(s₀:S):Prop :=
 ∀ (y:Value) (J:S->LH->Prop) (E:LH->Prop),
  (∀ s h k,J s h->Disj h.get k->J s (h.add k))->(∀ h k,E h->Disj h.get k->E (h.add k)) ->
  (∀ s h xs s',h₀.le h->nx s xs s'->J s h->CV X P y xs.toArray h fun b h'=>h₀.le h'/\((b=.bool true/\J s' h')\/(b=.bool false/\E h'))) ->
  ∀ h,h₀.le h->J s₀ h->Disj h.get k₀->CV X P fv #[y] (h.add k₀) fun _ h'=>h₀.le h'/\((∃ s,fin s/\J s h')\/E h')
def deferOf(v:Value)(args:Array Value):Deferred :=
 match v with
 | .func fn first cap=>{ target:=.fn fn cap,args:=first++args }
 | _=>default
def SpawnW(X:XP)(P:Program)(v:Value)(args:Array Value)(h:LH)(Q:LH->Prop):Prop :=
 ∀ main R,Closed X P main R->∀ fr cs,AtOp fr->X.stk P fr.kind cs ->
  (∀ w,stepG P main (G fr cs) w=.spawn (G (fr.finish undef) cs) (G { (default:Frame) with fn:=P.funcs.size,defers:=[deferOf v args],mode:=.panicking [goexitEntry] } []) w #[]) ->
  ∀ k,Disj h.get k->(∀ h',Disj h'.get k->Q h'->R (G (fr.finish undef) cs) (h'.add k))->R (G fr cs) (h.add k)
def Ends(P:Program)(fr:Frame):Prop :=
 (∃ ops i,fr.todo=[.inRegion ops [i]])/\fr.mode=.run/\fr.defers=[]/\fr.roundOf=none/\fr.kind=.deferred/\∃ fd,P.funcs[fr.fn]?=some fd/\fd.results=#[]
def CommW(X:XP)(P:Program)(last:Bool)(cases:Array CommCase)(shape:CommShape)(h:LH)(Q:Value->LH->Prop):Prop :=
 ∀ main R,Closed X P main R->∀ fr cs,AtOp fr->X.stk P fr.kind cs->(last=true->Ends P fr) ->
  (∀ w,stepG P main (G fr cs) w=.comm (G fr cs) cases true shape w #[]) ->
  ∀ k,Disj h.get k->(∀ v h',Disj h'.get k->Q v h'->R (G (fr.finish v) cs) (h'.add k))->R (G fr cs) (h.add k)
def Leaf.go(l:Leaf)(h:LH)(ka kb kr:List Value->LH->Prop)(ko:Nat->List Value->LH->Prop):Prop :=
 match l with
 | .ret _=>False
 | .again vs=>ka vs h
 | .brk vs=>kb vs h
 | .retn vs=>kr vs h
 | .out j vs=>ko j vs h
def T.wp(X:XP)(P:Program):T->(Leaf->LH->Prop)->LH->Prop
 | .fail,_,_=>False
 | .leaf l,Q,h=>Q l h
 | .need p k,Q,h=>p/\k.wp X P Q h
 | .someA p k,Q,h=>∃ a,p=some a/\(k a).wp X P Q h
 | .loadI ik a k,Q,h=>∃ n,h.get.cell? a=some (.int ik n)/\(k n).wp X P Q h
 | .loadB a k,Q,h=>∃ b,h.get.cell? a=some (.bool b)/\(k b).wp X P Q h
 | .loadS a k,Q,h=>∃ p n c,h.get.cell? a=some (.slice p n c)/\(k p n c).wp X P Q h
 | .loadP a k,Q,h=>∃ p,h.get.cell? a=some (.pointer p)/\(k p).wp X P Q h
 | .loadM a k,Q,h=>∃ p,h.get.cell? a=some (.map p)/\(k p).wp X P Q h
 | .loadC a k,Q,h=>∃ p,h.get.cell? a=some (.chan p)/\(k p).wp X P Q h
 | .loadStr a k,Q,h=>∃ s,h.get.cell? a=some (.string s)/\(k s).wp X P Q h
 | .loadV a k,Q,h=>∃ v,h.get.cell? a=some v/\(k v).wp X P Q h
 | .store a v k,Q,h=>isOne v=true/\h.get.own a.block/\(∃ v₀,h.get.cell? a=some v₀)/\h.get.frozen? a=false/\k.wp X P Q { h with get:=h.get.setCell a v }
 | .new e cs k,Q,h=>∀ r,h.get r=none->(k r).wp X P Q { h with get:=h.get.upd r (true,.cells cs e) }
 | .call q f args k,Q,h=>FW X P f args h fun v h'=>(q=true->h.get.le h'.get)/\(k v).wp X P Q h'
 | .callv q v args k,Q,h=>CV X P v args h fun v h'=>(q=true->h.get.le h'.get)/\(k v).wp X P Q h'
 | .sem q s k,Q,h=>Qe P s (fun v h'=>(q=true->h.get.le h')/\(k v).wp X P Q { h with get:=h' }) (fun _ _=>False) h.get
 | .loop init body kb kr ko,Q,h=>∀ Y:List Value->LH->Prop,
   (∀ vs h,(body vs).wp X P (fun l h'=>l.go h' Y (fun vs h'=>(kb vs).wp X P Q h') (fun vs h'=>(kr vs).wp X P Q h') (fun j vs h'=>(ko j vs).wp X P Q h')) h->Y vs h)->Y init h
 | .blk body kf kr ko,Q,h=>body.wp X P (fun l h'=>l.go h' (fun vs h'=>(kf vs).wp X P Q h') (fun _ _=>False) (fun vs h'=>(kr vs).wp X P Q h') (fun j vs h'=>(ko j vs).wp X P Q h')) h
 | .spawn v args k,Q,h=>SpawnW X P v args h fun h'=>k.wp X P Q h'
 | .comm last cases shape k,Q,h=>CommW X P last cases shape h fun v h'=>(k v).wp X P Q h'
 | .both a b,Q,h=>a.wp X P Q h/\b.wp X P Q h
 | .mem p k,Q,h=>p h/\k.wp X P Q h
 | .each v init body kf kb kr ko,Q,h=>∃ (S:Type) (nx:S->List Value->S->Prop) (fin:S->Prop) (s₀:S) (h₀ hm:LH) (k₀:Cells),h=hm.add k₀/\Disj hm.get k₀/\LH.le h₀ hm/\HandsF X P v h₀ k₀ nx fin s₀ /\
   ∀ Y:S->List Value->LH->Prop,(∀ s vs h',LH.le h₀ h'->(fin s->(kf vs).wp X P Q h') ->
    (∀ xs s',nx s xs s'->(body xs vs).wp X P (fun l h''=>LH.le h₀ h''/\l.go h'' (fun vs' h''=>Y s' vs' h'') (fun vs h'=>(kb vs).wp X P Q h') (fun vs h'=>(kr vs).wp X P Q h') (fun j vs h'=>(ko j vs).wp X P Q h')) h')->Y s vs h')->Y s₀ init hm
inductive AV where
 | val (v:Value)
 | pp (k off:Nat)
 | bad
abbrev Env:=List (Nat×AV)
def Env.get:Env->Nat->Option AV
 | [],_=>none
 | (j,a)::e,i=>match Nat.beq j i with
  | true=>some a
  | false=>Env.get e i
def Env.keep(p:Nat->Bool):Env->Env
 | []=>[]
 | (j,a)::e=>match p j with
  | true=>(j,a)::Env.keep p e
  | false=>Env.keep p e
def AV.scrap(W:Nat->Bool)(a:AV):AV :=
 match a with
 | .pp k o=>match W k with
  | true=>.bad
  | false=>.pp k o
 | a=>a
def Env.scrap(W:Nat->Bool):Env->Env
 | []=>[]
 | (j,a)::e=>(j,a.scrap W)::Env.scrap W e
def pkey(k j:Nat):Nat:=(k+1)*4096+j
def blockOf(s:Nat):Nat:=s / 4096-1
def isPriv(s:Nat):Bool:=Nat.ble 4096 s
def memN:List Nat->Nat->Bool
 | [],_=>false
 | j::l,i=>match Nat.beq j i with
  | true=>true
  | false=>memN l i
inductive Kind where
 | int (k:IntKind)|bool|slice|ptr|map|chan|str|any|adr
inductive Shape where
 | cell (k:Kind)
 | agg (ks:List Kind)
structure LoopNote where
 id:Nat
 slots:List (Nat×Kind)
 ro:List Nat:=[]
 outs:List Nat:=[]
 ps:List Shape:=[]
 pps:List Nat:=[]
structure Ctx where
 P:Program
 priv:List Nat:=[]
 loops:List LoopNote:=[]
 joins:List LoopNote:=[]
 kd:CallKind:=.normal
def findNote(id:Nat):List LoopNote->Option LoopNote
 | []=>none
 | n::l=>match Nat.beq n.id id with
  | true=>some n
  | false=>findNote id l
def T.unI(ik:IntKind)(v:Value)(k:Int->T):T :=
 match v with
 | .int ik' n=>match decide (ik'=ik) with|true=>k n|false=>.fail
 | _=>.fail
def T.unB(v:Value)(k:Bool->T):T:=match v with | .bool b=>k b|_=>.fail
def T.unS(v:Value)(k:Option Addr->Nat->Nat->T):T:=match v with | .slice a n c=>k a n c|_=>.fail
def T.unP(v:Value)(k:Option Addr->T):T:=match v with | .pointer a=>k a|_=>.fail
def T.unA(v:Value)(k:Addr->T):T:=match v with | .pointer (some a)=>k a|_=>.fail
def T.unM(v:Value)(k:Option Nat->T):T:=match v with | .map a=>k a|_=>.fail
def T.unC(v:Value)(k:Option Nat->T):T:=match v with | .chan a=>k a|_=>.fail
def T.unStr(v:Value)(k:ByteArray->T):T:=match v with | .string a=>k a|_=>.fail
def T.un(kd:Kind)(v:Value)(k:Value->T):T :=
 match kd with
 | .int ik=>T.unI ik v fun n=>k (.int ik n)
 | .bool=>T.unB v fun b=>k (.bool b)
 | .slice=>T.unS v fun a n c=>k (.slice a n c)
 | .ptr=>T.unP v fun a=>k (.pointer a)
 | .map=>T.unM v fun a=>k (.map a)
 | .chan=>T.unC v fun a=>k (.chan a)
 | .str=>T.unStr v fun s=>k (.string s)
 | .any=>k v
 | .adr=>T.unA v fun a=>k (.pointer (some a))
def T.unCons(vs:List Value)(k:Value->List Value->T):T:=match vs with|v::vs=>k v vs | []=>.fail
def T.unNil(vs:List Value)(k:T):T:=match vs with | []=>k|_::_=>.fail
def T.unAgg(v:Value)(k:List Value->T):T:=match v with | .agg cs=>k cs.toList|_=>.fail
def T.unTup(v:Value)(k:List Value->T):T:=match v with | .tuple cs=>k cs.toList|_=>.fail
def T.popI(ik:IntKind)(vs:List Value)(k:Int->List Value->T):T :=
 match vs with
 | .int ik' n::vs=>match decide (ik'=ik) with|true=>k n vs|false=>.fail
 | _=>.fail
def T.popB(vs:List Value)(k:Bool->List Value->T):T:=match vs with | .bool b::vs=>k b vs|_=>.fail
def T.popS(vs:List Value)(k:Option Addr->Nat->Nat->List Value->T):T:=match vs with | .slice a n c::vs=>k a n c vs|_=>.fail
def T.popP(vs:List Value)(k:Option Addr->List Value->T):T:=match vs with | .pointer a::vs=>k a vs|_=>.fail
def T.popA(vs:List Value)(k:Addr->List Value->T):T:=match vs with | .pointer (some a)::vs=>k a vs|_=>.fail
def T.popM(vs:List Value)(k:Option Nat->List Value->T):T:=match vs with | .map a::vs=>k a vs|_=>.fail
def T.popC(vs:List Value)(k:Option Nat->List Value->T):T:=match vs with | .chan a::vs=>k a vs|_=>.fail
def T.popStr(vs:List Value)(k:ByteArray->List Value->T):T:=match vs with | .string a::vs=>k a vs|_=>.fail
def T.popV(vs:List Value)(k:Value->List Value->T):T:=match vs with|a::vs=>k a vs|_=>.fail
def U6(kd:Kind)(vs:List Value)(k:Value->List Value->T):T :=
 match kd with
 | .int ik=>T.popI ik vs fun n=>k (.int ik n)
 | .bool=>T.popB vs fun b=>k (.bool b)
 | .slice=>T.popS vs fun a n c=>k (.slice a n c)
 | .ptr=>T.popP vs fun a=>k (.pointer a)
 | .map=>T.popM vs fun a=>k (.map a)
 | .chan=>T.popC vs fun a=>k (.chan a)
 | .str=>T.popStr vs fun s=>k (.string s)
 | .any=>T.popV vs k
 | .adr=>T.popA vs fun a=>k (.pointer (some a))
def K8:List Kind->List Value->(List Value->T)->T
 | [],vs,k=>T.unNil vs (k [])
 | kd::ks,vs,k=>U6 kd vs fun v vs=>K8 ks vs fun l=>k (v::l)
def Gi(kd:Kind)(a:Addr)(k:Value->T):T :=
 match kd with
 | .int ik=>.loadI ik a fun n=>k (.int ik n)
 | .bool=>.loadB a fun b=>k (.bool b)
 | .slice=>.loadS a fun p n c=>k (.slice p n c)
 | .ptr=>.loadP a fun p=>k (.pointer p)
 | .map=>.loadM a fun p=>k (.map p)
 | .chan=>.loadC a fun p=>k (.chan p)
 | .str=>.loadStr a fun s=>k (.string s)
 | .any=>.loadV a k
 | .adr=>.fail
def Dn(a:Addr):List Kind->Nat->(List Value->T)->T
 | [],_,k=>k []
 | kd::ks,i,k=>Gi kd (a.add i) fun v=>Dn a ks (i+1) fun l=>k (v::l)
def Ul(a:Addr):List Value->Nat->T->T
 | [],_,k=>k
 | v::vs,i,k=>.store (a.add i) v (Ul a vs (i+1) k)
def appL{α:Type}:List α->List α->List α
 | [],m=>m
 | x::l,m=>x::appL l m
def repL{α:Type}:Nat->List α->List α
 | 0,_=>[]
 | n+1,l=>appL l (repL n l)
mutual

def kindsF(P:Program):Nat->TypeId->Option (List Kind)
 | 0,_=>none
 | d+1,t =>
  match P.underlying t with
  | some (.int k)=>some [.int k]
  | some .bool=>some [.bool]
  | some .string=>some [.str]
  | some (.pointer _)=>some [.ptr]
  | some .unsafePointer=>some [.ptr]
  | some (.slice _)=>some [.slice]
  | some (.map _ _)=>some [.map]
  | some (.chan _ _)=>some [.chan]
  | some (.func _ _ _)=>some [.any]
  | some (.interface _)=>some [.any]
  | some (.struct fs)=>kindsL P d fs.toList
  | some (.array n e)=>(kindsF P d e).map (repL n)
  | _=>none
def kindsL(P:Program):Nat->List Field->Option (List Kind)
 | 0,_=>none
 | _+1,[]=>some []
 | d+1,f::fs=>match kindsF P d f.type,kindsL P d fs with
  | some a,some b=>some (appL a b)
  | _,_=>none
end
def kindsOf(P:Program)(t:TypeId):Option (List Kind):=kindsF P 40 t
def isAggT(P:Program)(t:TypeId):Bool :=
 match P.underlying t with
 | some (.struct _)|some (.array _ _)=>true
 | _=>false
def sizeT(P:Program)(t:TypeId):Option Nat:=(P.info? t).map (·.size)
def shapeOf(P:Program)(t:TypeId):Option Shape :=
 match isAggT P t with
 | true=>(kindsOf P t).map .agg
 | false=>match kindsOf P t with
  | some [k]=>some (.cell k)
  | _=>none
def shapesOf(P:Program):List TypeId->Option (List Shape)
 | []=>some []
 | t::ts=>match shapeOf P t,shapesOf P ts with
  | some a,some b=>some (a::b)
  | _,_=>none
def Gn:Shape->Value->(Value->T)->T
 | .cell kd,v,k=>T.un kd v k
 | .agg kds,v,k=>T.unAgg v fun l=>K8 kds l fun l=>k (.agg l.toArray)
def Zl:List Shape->List Value->(List Value->T)->T
 | [],vs,k=>T.unNil vs (k [])
 | s::ss,vs,k=>T.unCons vs fun v vs=>Gn s v fun v=>Zl ss vs fun l=>k (v::l)
def G7(P:Program)(t:TypeId)(v:Value)(k:Value->T):T :=
 match shapeOf P t with
 | some s=>Gn s v k
 | none=>k v
def Kz(ss:List Shape)(v:Value)(k:Value->T):T :=
 match ss with
 | [s]=>Gn s v k
 | ss=>T.unTup v fun l=>Zl ss l fun l=>k (.tuple l.toArray)
def slotA(e:Env)(t:Nat):Option AV:=match isPriv t with|true=>none|false=>e.get t
def opdA(e:Env):Operand->Option AV
 | .tmp t=>slotA e t
 | .const v=>some (.val v)
 | .global g=>some (.val (.pointer (some ⟨g,0,none⟩)))
 | .func f=>some (.val (.func (.func f) #[] #[]))
def withA(a:Option AV)(k:AV->T):T:=match a with|some a=>k a|none=>.fail
def withV(a:Option AV)(k:Value->T):T:=match a with|some (.val v)=>k v|_=>.fail
def withVs(e:Env):List Operand->(List Value->T)->T
 | [],k=>k []
 | x::xs,k=>withV (opdA e x) fun v=>withVs e xs fun l=>k (v::l)
def Kp(e:Env):List (Nat×Operand)->(List (Nat×Value)->T)->T
 | [],k=>k []
 | (i,x)::xs,k=>withV (opdA e x) fun v=>Kp e xs fun l=>k ((i,v)::l)
def setD(e:Env)(dst:Option Tmp)(a:AV):Env:=match dst with|some d=>(d,a)::e|none=>e
def Zh(e:Env)(k:Nat):Nat->Nat->Option (List Value)
 | _,0=>some []
 | j,n+1=>match e.get (pkey k j),Zh e k (j+1) n with
  | some (.val v),some l=>some (v::l)
  | _,_=>none
def privLoad(P:Program)(e:Env)(i j:Nat)(t:TypeId):Option Value :=
 match P.underlying t,Nat.ble (j+P.cellsOf t) 4095 with
 | some _,true=>match isAggT P t with
  | true=>match Zh e i j (P.cellsOf t) with
   | some l=>some (.agg l.toArray)
   | none=>none
  | false=>match e.get (pkey i j) with
   | some (.val v)=>some v
   | _=>none
 | _,_=>none
def setCells(k:Nat):Nat->List Value->Env->Env
 | _,[],e=>e
 | j,v::vs,e=>(pkey k j,.val v)::setCells k (j+1) vs e
def lenL{α:Type}:List α->Nat
 | []=>0
 | _::l=>lenL l+1
def cellsL(v:Value):List Value:=match v with | .agg cs=>cs.toList|v=>[v]
def intOp(op:BinOp)(ka:IntKind)(x y:Int)(k:Value->T):T :=
 match op with
 | .add=>k (.int ka (ka.wrap (x+y)))
 | .sub=>k (.int ka (ka.wrap (x-y)))
 | .mul=>k (.int ka (ka.wrap (x*y)))
 | .quo=>.need (y≠0) (k (.int ka (ka.wrap (x.tdiv y))))
 | .rem=>.need (y≠0) (k (.int ka (x.tmod y)))
 | .and=>k (.int ka (ka.wrap (BitVec.ofInt ka.bits x &&& BitVec.ofInt ka.bits y).toNat))
 | .or=>k (.int ka (ka.wrap (BitVec.ofInt ka.bits x ||| BitVec.ofInt ka.bits y).toNat))
 | .xor=>k (.int ka (ka.wrap (BitVec.ofInt ka.bits x ^^^ BitVec.ofInt ka.bits y).toNat))
 | .andNot=>k (.int ka (ka.wrap (BitVec.ofInt ka.bits x &&& ~~~BitVec.ofInt ka.bits y).toNat))
 | .eql=>k (.bool (x==y))
 | .neq=>k (.bool (x != y))
 | .lss=>k (.bool (decide (x<y)))
 | .leq=>k (.bool (decide (x<=y)))
 | .gtr=>k (.bool (decide (x>y)))
 | .geq=>k (.bool (decide (x>=y)))
 | _=>.fail
def isIfaceT(P:Program)(t:TypeId):Bool:=match P.underlying t with|some (.interface _)=>true|_=>false
def isBoolT(P:Program)(t:TypeId):Bool:=match P.underlying t with|some .bool=>true|_=>false
def Uk(op:BinOp)(a:Value)(v:Value)(k:Value->T):T :=
 match op with
 | .eql | .neq | .lss | .leq | .gtr | .geq=>T.unB v fun b=>k (.bool b)
 | .add=>match a with
  | .string _=>T.unStr v fun s=>k (.string s)
  | _=>k v
 | _=>k v
def binT(P:Program)(q:Bool)(op:BinOp)(t:TypeId)(x y:Operand)(a b:Value)(k:Value->T):T :=
 match a,b with
 | .int ka m,.int kb n =>
  match op with
  | .shl=>.need (0<=n) (k (.int ka (ka.wrap (m*2^(min n.toNat ka.bits)))))
  | .shr=>.need (0<=n) (k (.int ka (m.fdiv (2^(min n.toNat ka.bits)))))
  | op=>match decide (ka=kb) with
   | true=>intOp op ka m n k
   | false=>.fail
 | .bool m,.bool n =>
  match op,isBoolT P t with
  | .eql,true=>k (.bool (m==n))
  | .neq,true=>k (.bool (!(m==n)))
  | _,_=>.fail
 | a,b=>.sem q (do eqGuard op t x y a b;binOp op t a b) fun v=>Uk op a v k
def offOf(P:Program)(s:TypeId)(f:Nat):Option Nat :=
 match P.underlying s with
 | some (.struct fs)=>match fs[f]? with
  | some fd=>match P.cellsOf fd.type with
   | 0=>none
   | _+1=>some fd.offset
  | none=>none
 | _=>none
def zerosOf(P:Program)(t:TypeId):Option Value:=(P.info? t).bind (·.zero)
def buildV(P:Program)(t:TypeId)(l:List (Nat×Value)):Option Value :=
 match zerosOf P t,P.underlying t with
 | some z,some (.struct fs)=>match fs.toList.all (fun f=>(P.info? f.type).isSome) with
  | true=>(Instr.fill (fun i=>(fs[i]?).map fun f=>(f.offset,P.cellsOf f.type)) z.cells l).map .agg
  | false=>none
 | some z,some (.array _ el)=>match P.info? el with
  | some i=>(Instr.fill (fun j=>some (j*i.size,i.size)) z.cells l).map .agg
  | none=>none
 | _,_=>none
def fnOk(v:Value):Bool:=match v with | .func _ _ _=>true|_=>false
def T.unSlice(v w:Value)(k:Value->T):T :=
 match v with
 | .string _=>T.unStr w fun s=>k (.string s)
 | _=>T.unS w fun a n c=>k (.slice a n c)
def lenOk(P:Program)(ts:Array TypeId):Bool :=
 match ts[0]? with
 | some t=>match P.underlying t with
  | some (.slice _)=>true
  | _=>false
 | none=>false
def anew(d:Nat)(e:Env):Env:=Env.keep (fun s=>!(isPriv s&&Nat.beq (blockOf s) d)) (Env.scrap (Nat.beq d) e)
def onesT(l:List Value)(k:T):T:=match l with
 | []=>k
 | v::l=>bif isOne v then onesT l k else .fail
def Yw(v:Value)(k:Value->T):T:=T.unTup v fun l=>T.unCons l fun b l=>T.unB b fun b=>bif b then Zl [.cell .any,.cell .any] l fun l=>k (.tuple (.bool true::l).toArray) else T.unNil l (k (.tuple #[.bool false]))
def selT(C:Ctx)(e:Env):List SelectCase->(List CommCase->List Shape->T)->T
 | [],k=>k [] []
 | s::l,k=>match s.send,zerosOf C.P s.elem,shapeOf C.P s.elem with
  | none,some z,some sh=>withV (opdA e s.chan) fun c=>selT C e l fun cs ss=>k ({ chan:=c,send:=none,zero:=z }::cs) (sh::ss)
  | _,_,_=>.fail
def opT(C:Ctx)(fin:Bool)(ro:List Nat)(q:Bool)(o:Oper)(e:Env)(k:Env->T):T :=
  let put (a:AV):T:=k (setD e o.dst a)
  match o.op with
  | .move x | .assign x=>withA (opdA e x) put
  | .pick c a b=>withV (opdA e c) fun v=>T.unB v fun t=>bif t then withA (opdA e a) put else withA (opdA e b) put
  | .binOp op t x y _=>withV (opdA e x) fun a=>withV (opdA e y) fun b=>match isIfaceT C.P t with
    | true=>.sem q (do eqGuard op t x y a b;binOp op t a b) fun v=>Uk op a v fun v=>put (.val v)
    | false=>binT C.P q op t x y a b fun v=>put (.val v)
  | .unOp op _ x=>withV (opdA e x) fun a=>match op,a with
    | .not,.bool b=>put (.val (.bool (!b)))
    | op,a=>.sem q (Op.unary op a) fun v=>put (.val v)
  | .nilCheck x=>match opdA e x with
    | some (.pp i j)=>put (.pp i j)
    | some (.val (.pointer p))=>.someA p fun a=>put (.val (.pointer (some a)))
    | _=>.fail
  | .fieldAddr s x f=>match offOf C.P s f,opdA e x with
    | some off,some (.pp i j)=>put (.pp i (j+off))
    | some off,some (.val (.pointer (some a)))=>put (.val (.pointer (some (a.add off))))
    | _,_=>.fail
  | .indexAddr t x i=>match C.P.underlying t,opdA e x,opdA e i with
    | some (.slice el),some (.val (.slice p n _)),some (.val (.int _ m))=>match sizeT C.P el with
      | some z=>.need (0<=m/\m<(n:Int)) (.someA p fun a=>put (.val (.pointer (some (a.add (m.toNat*z))))))
      | none=>.fail
    | some (.array n el),some (.val (.pointer (some a))),some (.val (.int _ m))=>match sizeT C.P el with
      | some z=>.need (0<=m/\m<(n:Int)) (put (.val (.pointer (some (a.add (m.toNat*z))))))
      | none=>.fail
    | _,_,_=>.fail
  | .load t x=>match opdA e x with
    | some (.pp i j)=>match privLoad C.P e i j t with
      | some v=>put (.val v)
      | none=>.fail
    | some (.val (.pointer (some a)))=>match isAggT C.P t,kindsOf C.P t with
      | true,some ks=>match Nat.beq (lenL ks) (C.P.cellsOf t) with
        | true=>Dn a ks 0 fun l=>put (.val (.agg l.toArray))
        | false=>.fail
      | false,some [kd]=>Gi kd a fun v=>put (.val v)
      | _,_=>.fail
    | _=>.fail
  | .store t a x=>withV (opdA e x) fun v=>match sizeT C.P t with
   | none=>.fail
   | some z=>match Nat.beq (lenL (cellsL v)) z with
    | true=>match opdA e a with
      | some (.pp i j)=>match memN ro i,Nat.ble (j+z) 4095,Zh e i j z with
        | false,true,some _=>onesT (cellsL v) (k (setD (setCells i j (cellsL v) e) o.dst (.val undef)))
        | _,_,_=>.fail
      | some (.val (.pointer (some a)))=>Ul a (cellsL v) 0 (k (setD e o.dst (.val undef)))
      | _=>.fail
    | false=>.fail
  | .alloc el=>match o.dst,zerosOf C.P el with
    | some d,some z=>match memN C.priv d with
      | true=>match memN ro d,Nat.ble (lenL (cellsL z)) 4095 with
        | false,true=>k ((d,.pp d 0)::setCells d 0 (cellsL z) (anew d e))
        | _,_=>.fail
      | false=>.new el z.cells fun r=>put (.val (.pointer (some ⟨r,0,none⟩)))
    | _,_=>.fail
  | .box el x=>withV (opdA e x) fun v=>match o.dst with
    | some d=>match memN C.priv d with
      | true=>match memN ro d,Nat.ble (lenL (cellsL v)) 4095 with
        | false,true=>k ((d,.pp d 0)::setCells d 0 (cellsL v) (anew d e))
        | _,_=>.fail
      | false=>.new el v.cells fun r=>put (.val (.pointer (some ⟨r,0,none⟩)))
    | none=>.fail
  | .extract x i=>match opdA e x with
    | some (.val (.tuple vs))=>match vs[i]? with
      | some v=>G7 C.P o.type v fun v=>put (.val v)
      | none=>.fail
    | _=>.fail
  | .build t ps=>Kp e ps.toList fun l=>match Nat.ble (C.P.cellsOf t) 64 with
    | true=>match buildV C.P t l with
      | some v=>put (.val v)
      | none=>.fail
    | false=>.sem q (Instr.build t l.toArray) fun v=>put (.val v)
  | .buildSlice t n ps=>Kp e ps.toList fun l=>.sem q (Instr.buildSlice t n l.toArray) fun v=>T.unS v fun a n c=>put (.val (.slice a n c))
  | .makeFunc fn fs cs=>withVs e fs.toList fun l=>withVs e cs.toList fun m=>put (.val (.func fn l.toArray m.toArray))
  | .makeInterface t x=>withV (opdA e x) fun v=>match C.P.underlying t with
    | some (.interface _)=>.fail
    | some _=>put (.val (.iface t v))
    | none=>.fail
  | .field t x f=>withV (opdA e x) fun v=>match C.P.underlying t,v with
    | some (.struct fs),.agg cs=>match fs[f]? with
      | some fd=>match isAggT C.P fd.type with
        | true=>put (.val (.agg (cs.extract fd.offset (fd.offset+C.P.cellsOf fd.type))))
        | false=>match C.P.underlying fd.type,cs[fd.offset]? with
          | some _,some v=>put (.val v)
          | _,_=>.fail
      | none=>.fail
    | _,_=>.fail
  | .index t x i=>withV (opdA e x) fun v=>withV (opdA e i) fun m=>match C.P.underlying t with
    | some .string=>.sem q (Instr.index t v m) fun v=>T.unI .u8 v fun n=>put (.val (.int .u8 n))
    | some (.array _ el)=>match C.P.underlying el with
      | some (.int k)=>.sem q (Instr.index t v m) fun v=>T.unI k v fun n=>put (.val (.int k n))
      | _=>.sem q (Instr.index t v m) fun v=>put (.val v)
    | _=>.sem q (Instr.index t v m) fun v=>put (.val v)
  | .range t x=>withV (opdA e x) fun v=>.sem q (Instr.range t v) fun v=>T.unP v fun a=>put (.val (.pointer a))
  | .next it str=>withV (opdA e it) fun v=>.sem q (Instr.next v str o.type) fun v=>Yw v fun v=>put (.val v)
  | .entry it=>withV (opdA e it) fun v=>.sem q (Instr.entry v) fun v=>T.unTup v fun l=>Zl [.cell .any,.cell .any] l fun l=>put (.val (.tuple l.toArray))
  | .convert a b x=>withV (opdA e x) fun v=>match C.P.underlying a,C.P.underlying b,v with
    | some _,some (.int k),.int _ n=>put (.val (.int k (k.wrap n)))
    | some _,some .string,.string s=>put (.val (.string s))
    | some _,some .string,v=>.sem q (convert a b v) fun v=>T.unStr v fun s=>put (.val (.string s))
    | some _,some (.slice _),v=>.sem q (convert a b v) fun v=>T.unS v fun a n c=>put (.val (.slice a n c))
    | some _,some (.pointer _),v=>.sem q (convert a b v) fun v=>T.unP v fun a=>put (.val (.pointer a))
    | some _,some .unsafePointer,v=>.sem q (convert a b v) fun v=>T.unP v fun a=>put (.val (.pointer a))
    | _,_,v=>.sem q (convert a b v) fun v=>put (.val v)
  | .makeMap t r=>match r with
    | none=>.sem q (Instr.makeMap t none) fun v=>T.unM v fun a=>put (.val (.map a))
    | some x=>withV (opdA e x) fun n=>.sem q (Instr.makeMap t (some n)) fun v=>T.unM v fun a=>put (.val (.map a))
  | .makeChan t s=>withV (opdA e s) fun n=>.sem q (Instr.makeChan t n) fun v=>T.unC v fun a=>put (.val (.chan a))
  | .makeSlice t l c=>withV (opdA e l) fun l=>withV (opdA e c) fun c=>.sem q (Instr.makeSlice t l c) fun v=>T.unS v fun a n c=>put (.val (.slice a n c))
  | .lookup t m i ok=>withV (opdA e m) fun m=>withV (opdA e i) fun i=>match C.P.underlying t with
    | some (.map _ el)=>match shapeOf C.P el with
      | some sh=>.sem q (Instr.lookup t m i ok) fun v=>match ok with
        | true=>T.unTup v fun l=>Zl [sh,.cell .bool] l fun l=>put (.val (.tuple l.toArray))
        | false=>Gn sh v fun v=>put (.val v)
      | none=>.fail
    | _=>.fail
  | .mapEntry t m i=>withV (opdA e m) fun m=>withV (opdA e i) fun i=>.sem q (Instr.mapEntry t m i) fun v=>T.unTup v fun l=>Zl [.cell .any,.cell (.int .i64)] l fun l=>put (.val (.tuple l.toArray))
  | .entryStore t m i x=>withV (opdA e m) fun m=>withV (opdA e i) fun i=>withV (opdA e x) fun x=>.sem q (do Instr.entryStore t m i x;pure undef) fun _=>k (setD e o.dst (.val undef))
  | .mapUpdate t m i x | .insert t m i x=>withV (opdA e m) fun m=>withV (opdA e i) fun i=>withV (opdA e x) fun x=>.sem q (do Instr.mapUpdate t m i x;pure undef) fun _=>k (setD e o.dst (.val undef))
  | .slice t x lo hi mx=>withV (opdA e x) fun v =>
    let go (l h m:Option Value):T:=.sem q (Instr.sliceAt t v l h m) fun w=>T.unSlice v w fun w=>put (.val w)
    match lo,hi,mx with
    | none,none,none=>go none none none
    | some l,none,none=>withV (opdA e l) fun l=>go (some l) none none
    | none,some h,none=>withV (opdA e h) fun h=>go none (some h) none
    | some l,some h,none=>withV (opdA e l) fun l=>withV (opdA e h) fun h=>go (some l) (some h) none
    | none,some h,some m=>withV (opdA e h) fun h=>withV (opdA e m) fun m=>go none (some h) (some m)
    | some l,some h,some m=>withV (opdA e l) fun l=>withV (opdA e h) fun h=>withV (opdA e m) fun m=>go (some l) (some h) (some m)
    | _,none,some _=>.fail
  | .call c=>withVs e c.args.toList fun args=>match c.callee with
    | .builtin .len=>match args with
      | [.slice _ n _]=>match lenOk C.P c.argTypes with
        | true=>put (.val (.int .i64 n))
        | false=>.fail
      | [v]=>.sem q (Builtin.len_ c.argTypes o.type #[v]) fun v=>T.unI .i64 v fun n=>put (.val (.int .i64 n))
      | _=>.fail
    | .builtin .max=>match args with
      | [.int k x,.int _ y]=>put (.val (.int k (if y>x then y else x)))
      | _=>.fail
    | .builtin .min=>match args with
      | [.int k x,.int _ y]=>put (.val (.int k (if y<x then y else x)))
      | _=>.fail
    | .builtin .append=>.sem q (Builtin.append_ c.argTypes o.type args.toArray) fun v=>T.unS v fun a n c=>put (.val (.slice a n c))
    | .builtin .close=>.sem q (Builtin.close_ c.argTypes o.type args.toArray) fun v=>put (.val v)
    | .builtin .cap=>.sem q (Builtin.cap_ c.argTypes o.type args.toArray) fun v=>T.unI .i64 v fun n=>put (.val (.int .i64 n))
    | .builtin .unsafeString=>.sem q (Builtin.unsafeString_ c.argTypes o.type args.toArray) fun v=>T.unStr v fun s=>put (.val (.string s))
    | .builtin .unsafeSliceData=>.sem q (Builtin.unsafeSliceData_ c.argTypes o.type args.toArray) fun v=>put (.val v)
    | .builtin .copy=>.sem q (Builtin.copy_ c.argTypes o.type args.toArray) fun v=>put (.val v)
    | .builtin .delete=>.sem q (Builtin.delete_ c.argTypes o.type args.toArray) fun v=>put (.val v)
    | .builtin .clear=>.sem q (Builtin.clear_ c.argTypes o.type args.toArray) fun v=>put (.val v)
    | .value (.func f)=>match C.P.funcs[f]? with
      | some fn=>match shapesOf C.P fn.resultTypes.toList with
        | some ss=>match fn.body with
          | some _=>.call q f args.toArray fun v=>Kz ss v fun v=>put (.val v)
          | none=>.callv q (.func (.func f) #[] #[]) args.toArray fun v=>Kz ss v fun v=>put (.val v)
        | none=>.fail
      | none=>.fail
    | .value x=>withV (opdA e x) fun fv=>match C.P.underlying o.type with
      | some (.tuple ts)=>match shapesOf C.P ts.toList with
        | some ss=>.callv q fv args.toArray fun v=>Kz ss v fun v=>put (.val v)
        | none=>.fail
      | _=>match shapesOf C.P [o.type] with
        | some ss=>.callv q fv args.toArray fun v=>Kz ss v fun v=>put (.val v)
        | none=>.fail
    | .invoke x name=>withV (opdA e x) fun rv=>match C.P.underlying o.type with
      | some (.tuple ts)=>match shapesOf C.P ts.toList with
        | some ss=>.callv q (.func (.method name) #[rv] #[]) args.toArray fun v=>Kz ss v fun v=>put (.val v)
        | none=>.fail
      | _=>match shapesOf C.P [o.type] with
        | some ss=>.callv q (.func (.method name) #[rv] #[]) args.toArray fun v=>Kz ss v fun v=>put (.val v)
        | none=>.fail
    | _=>.fail
  | .typeAssert x t a ok=>withV (opdA e x) fun v=>match shapeOf C.P a with
    | some sh=>.sem q (Instr.typeAssert v t a ok) fun v=>match ok with
      | true=>T.unTup v fun l=>Zl [sh,.cell .bool] l fun l=>put (.val (.tuple l.toArray))
      | false=>Gn sh v fun v=>put (.val v)
    | none=>.fail
  | .go c=>withVs e c.args.toList fun args=>match c.callee with
    | .value x=>withV (opdA e x) fun fv=>match fnOk fv with
      | true=>.spawn fv args.toArray (k (setD e o.dst (.val undef)))
      | false=>.fail
    | _=>.fail
  | .send ch x=>withV (opdA e ch) fun c=>withV (opdA e x) fun v=>.comm fin #[{ chan:=c,send:=some v,zero:=.tuple #[] }] .send fun v=>put (.val v)
  | .recv t ch ok=>withV (opdA e ch) fun c=>match C.P.underlying t with
    | some (.chan _ el)=>match zerosOf C.P el,shapeOf C.P el with
      | some z,some sh=>.comm fin #[{ chan:=c,send:=none,zero:=z }] (.recv ok) fun v=>match ok with
        | true=>T.unTup v fun l=>Zl [sh,.cell .bool] l fun l=>put (.val (.tuple l.toArray))
        | false=>Gn sh v fun v=>put (.val v)
      | _,_=>.fail
    | _=>.fail
  | .select cases blocking=>match blocking with
    | true=>selT C e cases.toList fun l ss=>.comm fin l.toArray .select fun v=>T.unTup v fun l=>Zl (.cell (.int .i64)::.cell .bool::ss) l fun l=>put (.val (.tuple l.toArray))
    | false=>.fail
  | _=>.fail
def guardT(C:Ctx)(fin:Bool)(ro:List Nat)(q:Bool)(ops:Array Oper)(o:Oper)(e:Env)(k:Env->T):T :=
 match o.guard with
 | none=>opT C fin ro q o e k
 | some (j,want)=>match (ops[j]?).bind (·.dst) with
  | some d=>match slotA e d with
   | some (.val (.bool b)) =>
    bif b then (bif want then opT C fin ro q o ((d,.val (.bool true))::e) k else k (setD ((d,.val (.bool true))::e) o.dst (.val undef)))
    else (bif want then k (setD ((d,.val (.bool false))::e) o.dst (.val undef)) else opT C fin ro q o ((d,.val (.bool false))::e) k)
   | some (.val (.tuple _))=>k (setD e o.dst (.val undef))
   | _=>.fail
  | none=>.fail
def opsT(C:Ctx)(fin:Bool)(ro:List Nat)(q:Bool)(ops:Array Oper):List Nat->Env->(Env->T)->T
 | [],e,k=>k e
 | i::rest,e,k=>match ops[i]? with
  | some o=>guardT C (match rest with | []=>fin|_::_=>false) ro q ops o e fun e=>opsT C fin ro q ops rest e k
  | none=>.fail
def upto:Nat->Nat->List Nat
 | _,0=>[]
 | i,n+1=>i::upto (i+1) n
def collect(e:Env):List (Nat×Kind)->Option (List Value)
 | []=>some []
 | (s,_)::l=>match e.get s,collect e l with
  | some (.val v),some vs=>some (v::vs)
  | _,_=>none
def withC(o:Option (List Value))(k:List Value->T):T:=match o with|some l=>k l|none=>.fail
def bindS:List (Nat×Kind)->List Value->Env->(Env->T)->T
 | [],vs,e,k=>T.unNil vs (k e)
 | (s,kd)::l,vs,e,k=>U6 kd vs fun v vs=>bindS l vs ((s,.val v)::e) k
def dsts:Code->List Nat
 | .region _ ops _=>go ops.toList
 | .seq a b | .cond _ a b=>appL (dsts a) (dsts b)
 | .block _ c | .loop c | .scope c=>dsts c
 | .rangeFunc _ ps a b=>appL ps.toList (appL (dsts a) (dsts b))
 | _=>[]
where go:List Oper->List Nat
 | []=>[]
 | o::l=>match o.dst with
  | some d=>d::go l
  | none=>go l
def staysP(W ro:List Nat)(s:Nat):Bool :=
 match isPriv s with
 | true=>memN ro (blockOf s)&&!memN W (blockOf s)
 | false=>!memN W s
def stays(W ro:List Nat)(e:Env):Env:=Env.keep (staysP W ro) (Env.scrap (memN W) e)
def freeOf(ro:List Nat):List (Nat×Kind)->Bool
 | []=>true
 | (s,_)::l=>!(isPriv s&&memN ro (blockOf s))&&freeOf ro l
def firstReg:Code->Nat
 | .region id _ _=>id
 | .seq a _=>firstReg a
 | .block _ c | .loop c | .scope c=>firstReg c
 | .cond c _ _=>match c with
  | .tmp t=>2000000+t
  | _=>1000000
 | _=>1000000
def LExit.isExit(e:LExit)(id:Nat):Bool:=match e with | .exit j=>Nat.beq j id|_=>false
def leafT(id:Option Nat)(e:Env)(L:List (Nat×Kind))(x:LExit):T :=
 withC (collect e L) fun vs=>match x with
  | .fall=>.leaf (.again vs)
  | .ret=>.leaf (.retn vs)
  | .exit j=>match id with
   | some i=>match Nat.beq j i with
    | true=>.leaf (.brk vs)
    | false=>.leaf (.out j vs)
   | none=>.leaf (.out j vs)
def ppsOk:List Nat->Env->Bool
 | [],_=>true
 | d::l,e=>(match slotA e d with|some (.pp k o)=>Nat.beq k d&&Nat.beq o 0|_=>false)&&ppsOk l e
def addPP:List Nat->Env->Env
 | [],e=>e
 | d::l,e=>(d,.pp d 0)::addPP l e
def ppsT(ds:List Nat)(e:Env)(x:LExit)(t:T):T :=
 match x with
 | .fall=>match ppsOk ds e with
  | true=>t
  | false=>.fail
 | _=>t
def outT(k:Nat->List Value->T):List Nat->Nat->List Value->T
 | [],_,_=>.fail
 | o::os,j,vs=>bif Nat.beq j o then k o vs else outT k os j vs
structure PE where
 i:Nat
 o:Oper
 d:Nat
 a:AV
def penvE:List PE->Env->Env
 | [],e=>e
 | p::l,e=>(p.d,p.a)::penvE l e
def predsL:List Edge->List Nat
 | []=>[]
 | e::l=>match Region.binds .any e with
  | true=>e.on::predsL l
  | false=>predsL l
def predsOf(o:Oper):List Nat:=predsL o.after.toList
def tmpsL:List Operand->List Nat
 | []=>[]
 | .tmp t::l=>t::tmpsL l
 | _::l=>tmpsL l
def looksL(ops:Array Oper)(o:Oper):List Nat :=
 match o.guard with
 | none=>tmpsL o.op.operands.toList
 | some (j,_)=>match (ops[j]?).bind (·.dst) with
  | some d=>d::tmpsL o.op.operands.toList
  | none=>tmpsL o.op.operands.toList
def isIntB(a b:Option AV):Bool :=
 match a,b with
 | some (.val (.int _ _)),some (.val (.int _ _))=>true
 | some (.val (.bool _)),some (.val (.bool _))=>true
 | _,_=>false
def isFloat(C:Ctx)(E:Env)(o:Oper):Bool :=
 match o.op with
 | .move _ | .pick _ _ _ | .nilCheck _ | .fieldAddr _ _ _ | .indexAddr _ _ _ | .load _ _ | .extract _ _ | .makeFunc _ _ _=>true
 | .binOp _ t x y _=>match isIfaceT C.P t with
  | true=>false
  | false=>isIntB (opdA E x) (opdA E y)
 | .unOp .not _ x=>match opdA E x with|some (.val (.bool _))=>true|_=>false
 | .field _ _ _ | .makeInterface _ _=>true
 | .build t _=>Nat.ble (C.P.cellsOf t) 64
 | .convert a b x=>match C.P.underlying a,C.P.underlying b,opdA E x with
  | some _,some (.int _),some (.val (.int _ _))=>true
  | _,_,_=>false
 | .call c=>match c.callee,withL E c.args.toList with
  | .builtin .len,[some (.val (.slice _ _ _))]=>lenOk C.P c.argTypes
  | .builtin .max,[some (.val (.int _ _)),some (.val (.int _ _))]=>true
  | .builtin .min,[some (.val (.int _ _)),some (.val (.int _ _))]=>true
  | _,_=>false
 | _=>false
where
 withL (E:Env):List Operand->List (Option AV)
  | []=>[]
  | x::l=>opdA E x::withL E l
def allMem:List Nat->List Nat->Bool
 | [],_=>true
 | i::l,m=>memN m i&&allMem l m
def idxL:List PE->List Nat
 | []=>[]
 | p::l=>p.i::idxL l
def dstL:List PE->List Nat
 | []=>[]
 | p::l=>p.d::dstL l
def seenOk(lk pr:List Nat):List PE->Bool
 | []=>true
 | p::l=>(!memN lk p.d||memN pr p.i)&&seenOk lk pr l
def unseen(ops:Array Oper)(d:Nat):List PE->Bool
 | []=>true
 | p::l=>!memN (looksL ops p.o) d&&unseen ops d l
inductive Pick where
 | none
 | some (i:Nat) (o:Oper) (d:Nat)
def isReady(ops:Array Oper)(done:List Nat)(i:Nat):Bool :=
 match ops[i]? with
 | some o=>!memN done i&&allMem (predsOf o) done
 | none=>false
def pickF(C:Ctx)(ops:Array Oper)(E:Env)(done:List Nat):List Nat->Pick
 | []=>.none
 | i::l=>match ops[i]?,isReady ops done i with
  | some o,true=>match isFloat C E o,o.dst with
   | true,some d=>.some i o d
   | _,_=>pickF C ops E done l
  | _,_=>pickF C ops E done l
def readyL(ops:Array Oper)(done:List Nat):List Nat->List Nat
 | []=>[]
 | i::l=>match isReady ops done i with
  | true=>i::readyL ops done l
  | false=>readyL ops done l
def splitP(pr:List Nat):List PE->List PE×List PE
 | []=>([],[])
 | p::l=>match memN pr p.i,splitP pr l with
  | true,(a,b)=>(p::a,b)
  | false,(a,b)=>(a,p::b)
def headT(e:Env)(d:Nat)(k:AV->T):T :=
 match e with
 | (d',a)::_=>match Nat.beq d' d,a with
  | true,.val v=>k (.val v)
  | true,.pp n j=>k (.pp n j)
  | _,_=>.fail
 | []=>.fail
def isPP(a:AV)(d:Nat):Bool:=match a with | .pp k _=>Nat.beq k d|_=>false
def okRest(dst:Option Tmp)(e:Env):List PE->Bool
 | []=>true
 | p::l=>(match e.get p.d with|some _=>false|none=>true)&&(match dst with|some d=>!Nat.beq d p.d&&!isPP p.a d|none=>true)&&okRest dst e l
def rechk(C:Ctx)(ro:List Nat)(ops:Array Oper)(E:Env)(k:T):List PE->T
 | []=>k
 | p::l=>bif isFloat C E p.o then guardT C false ro false ops p.o E fun e'=>headT e' p.d fun a=>.need (a=p.a) (rechk C ro ops E k l) else .fail
def bothL:List T->T
 | []=>.fail
 | [t]=>t
 | t::ts=>.both t (bothL ts)
def mapT(f:Nat->T):List Nat->List T
 | []=>[]
 | i::l=>f i::mapT f l
def isGuardL(i:Nat):List Oper->Bool
 | []=>false
 | o::l=>match o.guard with
  | some (j,_)=>match Nat.beq j i with
   | true=>true
   | false=>isGuardL i l
  | none=>isGuardL i l
def splitA(g:Bool)(a:AV)(k:AV->T):T :=
 match g,a with
 | true,.val (.bool b)=>bif b then k (.val (.bool true)) else k (.val (.bool false))
 | _,a=>k a
def drawT(C:Ctx)(ro:List Nat)(ops:Array Oper)(all:List Nat):Nat->List Nat->Env->List PE->(Env->T)->T
 | 0,_,_,_,_=>.fail
 | n+1,L,e,pend,k =>
  match pickF C ops (penvE pend e) (appL (idxL pend) L) all with
  | .some i o d=>match seenOk (looksL ops o) (predsOf o) pend&&unseen ops d pend&&!memN (dstL pend) d&&!memN (looksL ops o) d with
   | true=>guardT C false ro false ops o (penvE pend e) fun e'=>headT e' d fun a=>splitA (isGuardL i ops.toList) a fun a=>drawT C ro ops all n L (Env.keep (fun s=>!Nat.beq s d) e) (⟨i,o,d,a⟩::pend) k
   | false=>.fail
  | .none=>match readyL ops (appL (idxL pend) L) all with
   | []=>match allMem all (appL (idxL pend) L) with
    | true=>k (penvE pend e)
    | false=>.fail
   | hs=>bothL (mapT (fun j=>match ops[j]? with
    | some o=>match splitP (predsOf o) pend with
     | (conf,rest)=>guardT C false ro false ops o (penvE conf e) fun e'=>match okRest o.dst e' rest with
      | true=>rechk C ro ops (penvE rest e') (drawT C ro ops all n (j::appL (idxL conf) L) e' rest k) rest
      | false=>.fail
    | none=>.fail) hs)
def backL(i:Nat):List Nat->Bool
 | []=>true
 | j::l=>!Nat.ble i j&&backL i l
def edgesOk:Nat->List Oper->Bool
 | _,[]=>true
 | i,o::l=>backL i (predsOf o)&&edgesOk (i+1) l
/-! ### Trees of code -/
def tree(C:Ctx):Bool->List Nat->Code->Env->(LExit->Env->T)->T
 | _,_,.skip,e,k=>k .fall e
 | fin,ro,.region _ ops draw,e,k=>match draw with
  | false=>opsT C fin ro false ops (upto 0 ops.size) e (k .fall)
  | true=>match C.P.follows .mixedOrders,edgesOk 0 ops.toList with
   | true,true=>drawT C ro ops (upto 0 ops.size) (ops.size+ops.size+1) [] e [] (k .fall)
   | _,_=>.fail
 | fin,ro,.seq a b,e,k=>match findNote (firstReg b) C.joins with
  | some n=>match freeOf (appL n.ro ro) n.slots with
   | true =>
    let e₁:=stays (dsts a) (appL n.ro ro) e
    .blk (tree C false (appL n.ro ro) a e fun x e'=>ppsT n.pps e' x (leafT none e' n.slots x)) (fun vs=>bindS n.slots vs e₁ fun e'=>tree C fin ro b (addPP n.pps e') k) (fun vs=>bindS n.slots vs e₁ (k .ret))
     (outT (fun j vs=>bindS n.slots vs e₁ (k (.exit j))) n.outs)
   | false=>.fail
  | none=>tree C false ro a e fun x e'=>match x with
   | .fall=>tree C fin ro b e' k
   | x=>k x e'
 | fin,ro,.cond c a b,e,k=>withV (opdA e c) fun v=>T.unB v fun t=>bif t then tree C fin ro a e k else tree C fin ro b e k
 | _,ro,.block id c,e,k=>match c with
  | .loop body=>match findNote id C.loops with
   | some n=>match freeOf (appL n.ro ro) n.slots with
    | true=>withC (collect e n.slots) fun init =>
     let e₁:=stays (dsts body) (appL n.ro ro) e
     .loop init (fun vs=>bindS n.slots vs e₁ fun e'=>tree C false (appL n.ro ro) body e' fun x e''=>leafT (some id) e'' n.slots x)
      (fun vs=>bindS n.slots vs e₁ (k .fall)) (fun vs=>bindS n.slots vs e₁ (k .ret)) (outT (fun j vs=>bindS n.slots vs e₁ (k (.exit j))) n.outs)
    | false=>.fail
   | none=>.fail
  | c=>tree C false ro c e fun x e'=>match x with
   | .exit j=>match Nat.beq j id with
    | true=>k .fall e'
    | false=>k (.exit j) e'
   | x=>k x e'
 | _,ro,.scope c,e,k=>tree C false ro c e k
 | _,_,.label _,e,k=>k .fall e
 | _,_,.exit id,e,k=>k (.exit id) e
 | _,_,.ret,e,k=>k .ret e
 | _,_,_,_,_=>.fail
/-! ### Loops over functions, on the spine of a body -/
def hasRF:Code->Bool
 | .seq a b=>hasRF a||hasRF b
 | .cond _ a b=>hasRF a||hasRF b
 | .block _ c | .scope c | .loop c=>hasRF c
 | .rangeFunc _ _ _ _=>true
 | _=>false
def bindPs:List Nat->List Value->Env->(Env->T)->T
 | [],vs,e,k=>T.unNil vs (k e)
 | p::ps,vs,e,k=>T.popV vs fun v vs=>bindPs ps vs ((p,.val v)::e) k
def allPriv:List (Nat×Kind)->Bool
 | []=>true
 | (s,_)::l=>isPriv s&&allPriv l
def wrOf(ps:Array Tmp)(asq bd:Code):List Nat:=appL ps.toList (appL (dsts asq) (dsts bd))
def rfT(C:Ctx)(id:Nat)(f:Operand)(ps:Array Tmp)(asq bd:Code)(e:Env)(k:LExit->Env->T):T :=
 match findNote id C.loops with
 | some n=>match allPriv n.slots&&freeOf (appL n.ro []) n.slots with
  | true=>withV (opdA e f) fun fv=>withC (collect e n.slots) fun init =>
   let e₁:=stays (wrOf ps asq bd) (appL n.ro []) e
   .each fv init (fun xs vs=>Zl n.ps xs fun xs=>bindS n.slots vs e₁ fun e'=>bindPs ps.toList xs e' fun e'=>tree C false (appL n.ro []) asq e' fun x e''=>match x with
     | .fall=>tree C false (appL n.ro []) bd e'' fun x e3=>leafT (some id) e3 n.slots x
     | _=>.fail)
    (fun vs=>bindS n.slots vs e₁ (k .fall)) (fun vs=>bindS n.slots vs e₁ (k .fall)) (fun vs=>bindS n.slots vs e₁ (k .ret)) (outT (fun j vs=>bindS n.slots vs e₁ (k (.exit j))) n.outs)
  | false=>.fail
 | none=>.fail
def spine(C:Ctx)(fin:Bool):Code->Env->(LExit->Env->T)->T
 | .seq a b,e,k=>match hasRF (.seq a b) with
  | false=>tree C fin [] (.seq a b) e k
  | true=>match hasRF a,findNote (firstReg b) C.joins with
   | false,some n=>match freeOf (appL n.ro []) n.slots with
    | true =>
     let e₁:=stays (dsts a) (appL n.ro []) e
     .blk (tree C false (appL n.ro []) a e fun x e'=>ppsT n.pps e' x (leafT none e' n.slots x)) (fun vs=>bindS n.slots vs e₁ fun e'=>spine C false b (addPP n.pps e') k) (fun vs=>bindS n.slots vs e₁ (k .ret))
      (outT (fun j vs=>bindS n.slots vs e₁ (k (.exit j))) n.outs)
    | false=>.fail
   | _,_=>spine C false a e fun x e'=>match x with
    | .fall=>spine C false b e' k
    | x=>k x e'
 | .block id (.rangeFunc f ps asq bd),e,k=>rfT C id f ps asq bd e k
 | .block id (.loop body),e,k=>match hasRF body with
  | false=>tree C fin [] (.block id (.loop body)) e k
  | true=>match findNote id C.loops with
   | some n=>withC (collect e n.slots) fun init =>
    let e₁:=stays (dsts body) [] e
    .loop init (fun vs=>bindS n.slots vs e₁ fun e'=>spine C false body e' fun x e''=>leafT (some id) e'' n.slots x)
     (fun vs=>bindS n.slots vs e₁ (k .fall)) (fun vs=>bindS n.slots vs e₁ (k .ret)) (outT (fun j vs=>bindS n.slots vs e₁ (k (.exit j))) n.outs)
   | none=>.fail
 | .block id (.seq a b),e,k=>match hasRF (.seq a b) with
  | false=>tree C fin [] (.block id (.seq a b)) e k
  | true=>spine C false (.seq a b) e fun x e'=>match x with
   | .exit j=>match Nat.beq j id with
    | true=>k .fall e'
    | false=>k (.exit j) e'
   | x=>k x e'
 | .scope c,e,k=>match hasRF c with
  | false=>tree C fin [] (.scope c) e k
  | true=>spine C false c e k
 | .cond c a b,e,k=>match hasRF (.cond c a b) with
  | false=>tree C fin [] (.cond c a b) e k
  | true=>withV (opdA e c) fun v=>T.unB v fun t=>bif t then spine C false a e k else spine C false b e k
 | c,e,k=>tree C fin [] c e k
def argsEnv:Nat->List Value->Env
 | _,[]=>[]
 | i,v::vs=>(i,.val v)::argsEnv (i+1) vs
def resT(C:Ctx)(e:Env):List ResultVar->(List Value->T)->T
 | [],k=>k []
 | .tmp t::rs,k=>withV (slotA e t) fun v=>resT C e rs fun l=>k (v::l)
 | .cell a t::rs,k=>match slotA e a with
  | some (.pp i j)=>match privLoad C.P e i j t with
   | some v=>resT C e rs fun l=>k (v::l)
   | none=>.fail
  | some (.val (.pointer (some b)))=>match isAggT C.P t,kindsOf C.P t with
   | true,some ks=>match Nat.beq (lenL ks) (C.P.cellsOf t) with
    | true=>Dn b ks 0 fun c=>resT C e rs fun l=>k (.agg c.toArray::l)
    | false=>.fail
   | false,some [kd]=>Gi kd b fun v=>resT C e rs fun l=>k (v::l)
   | _,_=>.fail
  | _=>.fail
def allBelow(n:Nat):List Nat->Bool
 | []=>true
 | d::l=>!Nat.ble n d&&allBelow n l
def finOf(C:Ctx)(f:Func):Bool:=match C.kd,f.results.toList with | .deferred,[]=>true|_,_=>false
def ftree(C:Ctx)(f:Func)(args:List Value):T :=
 match f.body,Nat.ble (lenL args) 4096&&(Nat.ble f.ntmps 4096&&allBelow f.ntmps (match f.body with|some c=>dsts c|none=>[])) with
 | some c,true=>spine C (finOf C f) c (argsEnv 0 args) fun x e=>match x with
  | .exit _=>.fail
  | _=>resT C e f.results.toList fun l=>match l with
   | [v]=>.leaf (.ret v)
   | l=>.leaf (.ret (.tuple l.toArray))
 | _,_=>.fail
end
section
section
variable {P:Program} {main:Bool} {R:Goroutine->LH->Prop}
structure FI where
 fn:FuncId
 kd:CallKind
 ok:kd≠.early
def mkF(fn:FI)(ds:List Deferred)(ro:Option Nat)(tmps:Array Value)(todo:List Item):Frame :=
 { fn:=fn.fn,tmps,todo,defers:=ds,mode:=.run,kind:=fn.kd,roundOf:=ro }
def notCall:List Item->Prop
 | .call ..::_=>False
 | _=>True
def XP.hat(X:XP)(P:Program)(fn:FI)(ds:List Deferred)(rd:Option Nat)(cs:List Frame):Prop:=X.stk P fn.kd cs/\∀ tmps todo,notCall todo->X.pass P (mkF fn ds rd tmps todo)
variable {X:XP}{rd:Option Nat}{fr:Frame}{ops:Array Oper}{i id:Nat}{rest:List Nat}{o:Oper}{c a b:Code}
theorem Hn(d:XOK X){P:Program}{fn:FI}{cs:List Frame}(h:X.stk P fn.kd cs):X.hat P fn [] rd cs :=
 ⟨h,fun tmps todo a=>d.free P _ rfl rfl (by
  unfold Frame.catches;split
  ·rename_i b;have c:todo=_:=b;rw[c]at a;exact a.elim
  ·rfl)⟩
theorem XP.hat_all(a:X.all){P:Program}{fn:FI}{cs:List Frame}(h:X.stk P fn.kd cs)(ds:List Deferred)(rd:Option Nat):X.hat P fn ds rd cs:=⟨h,fun _ _ _=>a _ _⟩
theorem XP.hat.up(a:XOK X){P:Program}{fn:FI}{ds:List Deferred}{cs:List Frame}(h:X.hat P fn ds rd cs){tmps:Array Value}{todo:List Item}(b:notCall todo):X.stk P .normal (mkF fn ds rd tmps todo::cs):=a.stk P fn.kd _ _ h.1 (h.2 tmps todo b)
theorem Jb(c:LClosed P main R){cs:List Frame}{g':Goroutine}{h:LH}(e:∀ w,stepG P main (G fr cs) w=.go g' w #[])(h':R g' h):R (G fr cs) h:=by
 refine c.step fr cs h (fun a b=>a=g'/\b=h) ?_ ?_
 ·intro w d;exact⟨g',w,#[],h.get,e w,Tr.refl d,by simp,rfl,rfl⟩
 ·rintro _ _ ⟨rfl,rfl⟩;exact h'
theorem mem_push_evs{P:Program}{fn:FuncId}{es:Array Event}{h:Cells}{n b:Nat}(a:∀ e∈es,EvOk h n b e):∀ e∈seen P fn es,EvOk h n b e :=
 fun e he=>a e (Z7 he)
def notDefer(o:Oper):Bool:=match o.op with | .defer _=>false|_=>true
theorem lstep_apply{cs:List Frame}{h:LH}{s:Sem Next}(hat:AtOp fr)(f:∀ w,stepG P main (G fr cs) w=stepG.apply P true fr cs none s w)
 (u:Qe P s (fun nx h'=>Nx P R fr cs { h with get:=h' } nx) (fun _ _=>False) h.get):LStep P main (G fr cs) h R:=by
  intro w p;obtain⟨hm,⟨ops,i,rest,k,g⟩,q⟩:=hat;obtain⟨w',h',c,t,l,r⟩:=Zo P s _ _ h.get w #[] p u;rcases r with⟨nx,a,j⟩|⟨e,a,o⟩
  · rw[Array.empty_append]at a
    have b:(s.runT P w #[]).1=.ok nx w':=by rw[a]
    have d:Sem.events P s w #[]=c:=by show (s.runT P w #[]).2=c;rw[a]
    simp only[Sem.runT_fst]at b;have m:=mem_push_evs (P:=P) (fn:=fr.fn) l;have n:(fr.kind==CallKind.early)=false:=by simpa using q
    cases nx<;>simp only[Nx]at j<;>first
      | exact j.elim
      | (refine⟨_,w',seen P fr.fn c,h',?_,t,m,j⟩
         rw[f w];simp[stepG.apply,b,d,n,GStep.after,G,g])
  · exact o.elim
theorem Ym{fn:FI}{ds:List Deferred}{ro:Option Nat}{tmps:Array Value}{k:List Item} :
  AtOp (mkF fn ds ro tmps (.inRegion ops (i::rest)::k)):=⟨rfl,⟨ops,i,rest,k,rfl⟩,fn.ok⟩
theorem Q5(d:LClosed P main R){fn:FI}{ds:List Deferred}{ro:Option Nat}{tmps:Array Value}{cs:List Frame}{h:LH}{k:List Item}
 (c:ops[i]?=some o)(hw:Region.wanted o (yielded ops tmps)=true)(b:notDefer o=true)
 (e:Qe P (execOp (mkF fn ds ro tmps (.inRegion ops (i::rest)::k)).eval o) (fun nx h'=>Nx P R (mkF fn ds ro tmps (.inRegion ops (i::rest)::k)) cs { h with get:=h' } nx) (fun _ _=>False) h.get) :
  R (G (mkF fn ds ro tmps (.inRegion ops (i::rest)::k)) cs) h:=by
 refine d.step _ cs h R (lstep_apply Ym ?_ e) (fun _ _ h=>h);intro w;unfold notDefer at b;cases ro with
 | none=>simp[G,mkF,stepG,stepG.exec,stepG.oper,Frame.oper?,c,hw]
 | some l =>
  cases a:o.op<;>rw[a]at b<;>first|(cases b;done)|simp[G,mkF,stepG,stepG.exec,stepG.oper,Frame.oper?,c,hw,a]
theorem Gu{fn:FI}{ds:List Deferred}{ro:Option Nat}{tmps:Array Value}{cs:List Frame}{k:List Item}
 (c:ops[i]?=some o)(hw:Region.wanted o (yielded ops tmps)=true)(b:notDefer o=true)(w:World) :
  stepG P main (G (mkF fn ds ro tmps (.inRegion ops (i::rest)::k)) cs) w=stepG.apply P true (mkF fn ds ro tmps (.inRegion ops (i::rest)::k)) cs none (execOp (mkF fn ds ro tmps (.inRegion ops (i::rest)::k)).eval o) w:=by
 unfold notDefer at b;cases ro with
 | none=>simp[G,mkF,stepG,stepG.exec,stepG.oper,Frame.oper?,c,hw]
 | some l =>
  cases a:o.op<;>rw[a]at b<;>first|(cases b;done)|simp[G,mkF,stepG,stepG.exec,stepG.oper,Frame.oper?,c,hw,a]
theorem step_skipped(a:LClosed P main R){fn:FI}{ds:List Deferred}{ro:Option Nat}{tmps:Array Value}{cs:List Frame}{h:LH}{k:List Item}
 (c:ops[i]?=some o)(hw:Region.wanted o (yielded ops tmps)=false)
 (b:R (G ((mkF fn ds ro tmps (.inRegion ops (i::rest)::k)).finish undef) cs) h) :
  R (G (mkF fn ds ro tmps (.inRegion ops (i::rest)::k)) cs) h:=by
 refine Jb a (fun w=>?_) b;simp[G,mkF,stepG,stepG.exec,c,hw]
def putD(tmps:Array Value)(dst:Option Tmp)(v:Value):Array Value:=match dst with|some d=>tmps.setIfInBounds d v|none=>tmps
theorem D1{fn:FI}{ds:List Deferred}{ro:Option Nat}{tmps:Array Value}{k:List Item}(a:ops[i]?=some o)(v:Value) :
  (mkF fn ds ro tmps (.inRegion ops (i::rest)::k)).finish v=mkF fn ds ro (putD tmps o.dst v) (.inRegion ops rest::k):=by
 simp only[Frame.finish,mkF,a,Option.bind_some,putD];cases o.dst<;>rfl
variable {fn:FI} {ds:List Deferred} {ro:Option Nat} {tmps:Array Value} {cs:List Frame} {h:LH} {k:List Item}
theorem mv_skip(a:LClosed P main R)(b:R (G (mkF fn ds ro tmps k) cs) h):R (G (mkF fn ds ro tmps (.code .skip::k)) cs) h :=
 Jb a (fun w=>by simp[G,mkF,stepG,stepG.exec]) b
theorem mv_label(a:LClosed P main R){l:Nat}(b:R (G (mkF fn ds ro tmps k) cs) h):R (G (mkF fn ds ro tmps (.code (.label l)::k)) cs) h :=
 Jb a (fun w=>by simp[G,mkF,stepG,stepG.exec]) b
theorem Hc(a:LClosed P main R)(b:R (G (mkF fn ds ro tmps k) cs) h):R (G (mkF fn ds ro tmps (.inBlock id::k)) cs) h :=
 Jb a (fun w=>by simp[G,mkF,stepG,stepG.exec]) b
theorem mv_inScope(a:LClosed P main R)(b:R (G (mkF fn ds ro tmps k) cs) h):R (G (mkF fn ds ro tmps (.inScope c::k)) cs) h :=
 Jb a (fun w=>by simp[G,mkF,stepG,stepG.exec]) b
theorem mv_scope(a:LClosed P main R)(b:R (G (mkF fn ds ro tmps (.code c::.inScope c::k)) cs) h):R (G (mkF fn ds ro tmps (.code (.scope c)::k)) cs) h :=
 Jb a (fun w=>by simp[G,mkF,stepG,stepG.exec]) b
theorem Gj(c:LClosed P main R)(d:R (G (mkF fn ds ro tmps (.code a::.code b::k)) cs) h):R (G (mkF fn ds ro tmps (.code (.seq a b)::k)) cs) h :=
 Jb c (fun w=>by simp[G,mkF,stepG,stepG.exec]) d
theorem mv_cond(d:LClosed P main R){c:Operand}{t:Bool}(he:(mkF fn ds ro tmps (.code (.cond c a b)::k)).eval c=.bool t)
 (e:R (G (mkF fn ds ro tmps (.code (if t then a else b)::k)) cs) h):R (G (mkF fn ds ro tmps (.code (.cond c a b)::k)) cs) h :=
 Jb d (fun w=>by simp only[mkF]at he;simp[G,mkF,stepG,stepG.exec,he]) e
theorem Gy(a:LClosed P main R)(b:R (G (mkF fn ds ro tmps (.code c::.inBlock id::k)) cs) h):R (G (mkF fn ds ro tmps (.code (.block id c)::k)) cs) h :=
 Jb a (fun w=>by simp[G,mkF,stepG,stepG.exec]) b
theorem mv_loop(a:LClosed P main R)(b:R (G (mkF fn ds ro tmps (.code c::.inLoop c::k)) cs) h):R (G (mkF fn ds ro tmps (.code (.loop c)::k)) cs) h :=
 Jb a (fun w=>by simp[G,mkF,stepG,stepG.exec]) b
theorem mv_inLoop(a:LClosed P main R)(b:R (G (mkF fn ds ro tmps (.code c::.inLoop c::k)) cs) h):R (G (mkF fn ds ro tmps (.inLoop c::k)) cs) h :=
 Jb a (fun w=>by simp[G,mkF,stepG,stepG.exec]) b
theorem Df(a:LClosed P main R){k':List Item}(he:exitTo id k=some k')(b:R (G (mkF fn ds ro tmps k') cs) h):R (G (mkF fn ds ro tmps (.code (.exit id)::k)) cs) h :=
 Jb a (fun w=>by simp[G,mkF,stepG,stepG.exec,he]) b
theorem Kh(a:LClosed P main R)(b:R (G (mkF fn ds ro tmps (.inRegion ops (List.range ops.size)::k)) cs) h):R (G (mkF fn ds ro tmps (.code (.region id ops false)::k)) cs) h :=
 Jb a (fun w=>by simp[G,mkF,stepG,stepG.exec]) b
theorem Wg(a:LClosed P main R)(b:R (G (mkF fn ds ro tmps k) cs) h):R (G (mkF fn ds ro tmps (.inRegion ops []::k)) cs) h :=
 Jb a (fun w=>by simp[G,mkF,stepG,stepG.exec]) b
theorem mv_ret(a:LClosed P main R)(b:R (G { mkF fn ds none tmps (.code .ret::k) with mode:=.returning } cs) h):R (G (mkF fn ds none tmps (.code .ret::k)) cs) h :=
 Jb a (fun w=>by simp[G,mkF,stepG,stepG.exec]) b
theorem mv_end(a:LClosed P main R)(b:R (G { mkF fn ds none tmps [] with mode:=.returning } cs) h):R (G (mkF fn ds none tmps []) cs) h :=
 Jb a (fun w=>by simp[G,mkF,stepG,stepG.exec]) b
end
end
section
variable {i j s k d r:Nat}{l ro D:List Nat}{e:Env}{σ:Nat->Nat}{PB:Nat->Prop}{tmps:Array Value}{hp:Cells}{v:Value}{P:Program}
theorem Jc(h:Nat.beq i j=true):i=j:=Nat.eq_of_beq_eq_true h
theorem Zj(h:Nat.beq i j=false):i≠j:=Nat.ne_of_beq_eq_false h
theorem Gx(i:Nat):Nat.beq i i=true:=by simp
theorem nbeq_ne(h:i≠j):Nat.beq i j=false:=by
 cases hb:Nat.beq i j with
 | false=>rfl
 | true=>exact absurd (Jc hb) h
theorem Q0(j:Nat)(a:AV)(e:Env)(i:Nat):Env.get ((j,a)::e) i=if j=i then some a else e.get i:=by
 rw[Env.get];cases hb:Nat.beq j i with
 | true=>rw[if_pos (Jc hb)]
 | false=>rw[if_neg (Zj hb)]
theorem Wn(p:Nat->Bool)(e:Env)(i:Nat):(Env.keep p e).get i=if p i=true then e.get i else none:=by
 induction e with
 | nil=>simp[Env.keep,Env.get]
 | cons x e c =>
  obtain⟨j,a⟩:=x;rw[Env.keep];cases hp:p j with
  | true =>
   show Env.get ((j,a)::Env.keep p e) i=_;rw[Q0,Q0,c];by_cases b:j=i
   ·subst b;rw[if_pos rfl,if_pos rfl,if_pos hp]
   ·rw[if_neg b,if_neg b]
  | false =>
   show Env.get (Env.keep p e) i=_;rw[c,Q0];by_cases b:j=i
   ·subst b;simp[hp]
   ·rw[if_neg b]
theorem Env.get_scrap(W:Nat->Bool)(e:Env)(i:Nat):(Env.scrap W e).get i=(e.get i).map (AV.scrap W):=by
 induction e with
 | nil=>rfl
 | cons x e c =>
  obtain⟨j,a⟩:=x;rw[Env.scrap,Q0,Q0,c];by_cases b:j=i
  ·rw[if_pos b,if_pos b];rfl
  ·rw[if_neg b,if_neg b]
theorem Ht:memN l i=true↔i∈l:=by
 induction l with
 | nil=>simp[memN]
 | cons j l a =>
  rw[memN];cases hb:Nat.beq j i with
  | true=>simp[Jc hb]
  | false =>
   have:=Zj hb;show memN l i=true↔_;rw[a,List.mem_cons];exact⟨.inr,fun h=>h.resolve_left (Ne.symm this)⟩
theorem Jq:memN l i=false↔i∉l:=by
 rw[<- Ht];simp
theorem Qw{α:Type}(l m:List α):appL l m=l++m:=by
 induction l with
 | nil=>rfl
 | cons a l b=>rw[appL,b];rfl
theorem Wh{α:Type}(l:List α):lenL l=l.length:=by
 induction l with
 | nil=>rfl
 | cons a l b=>rw[lenL,b];rfl
theorem Kt:isPriv s=true↔4096<=s:=by unfold isPriv;rw[Nat.ble_eq]
theorem Wi:isPriv s=false↔s<4096:=by
 cases h:isPriv s with
 | true=>have:=Kt.1 h;simp;omega
 | false =>
  simp;have:¬ 4096<=s:=fun h'=>by rw[Kt.2 h']at h;cases h
  omega
theorem Ji(a:j<4096):blockOf (pkey k j)=k:=by unfold blockOf pkey;omega
theorem Uf(a:j<4096):pkey k j%4096=j:=by unfold pkey;omega
theorem Wf{k j:Nat}:4096<=pkey k j:=by unfold pkey;omega
theorem pkey_of(h:4096<=s):s=pkey (blockOf s) (s%4096):=by unfold pkey blockOf;omega
def conc(σ:Nat->Nat):AV->Value
 | .val v=>v
 | .pp k off=>.pointer (some ⟨σ k,off,none⟩)
 | .bad=>undef
structure Sim(σ:Nat->Nat)(ro:List Nat)(PB:Nat->Prop)(e:Env)(tmps:Array Value)(hp:Cells):Prop where
 slot:∀ i a,i<4096->e.get i=some a->a≠.bad->tmps[i]?=some (conc σ a)
 cell:∀ s v,4096<=s->e.get s=some (.val v)->∃ c el,hp (σ (blockOf s))=some (true,.cells c el (0,0))/\c[s%4096]?=some v
 only:∀ s a,4096<=s->e.get s=some a->∃ v,a=.val v
 inj:∀ s s' a a',4096<=s->4096<=s'->e.get s=some a->e.get s'=some a'->σ (blockOf s)=σ (blockOf s')->blockOf s=blockOf s'
 prot:∀ s a,4096<=s->e.get s=some a->blockOf s∉ro->¬ PB (σ (blockOf s))
 cover:∀ s a,4096<=s->e.get s=some a->blockOf s∈ro->PB (σ (blockOf s))
theorem J2{t:Nat}{a:AV}(h:slotA e t=some a):t<4096/\e.get t=some a:=by
 unfold slotA at h;split at h
 ·cases h
 ·rename_i hp;exact⟨Wi.1 hp,h⟩
section
variable {σ:Nat->Nat} {ro:List Nat} {PB:Nat->Prop} {e:Env} {tmps:Array Value} {hp:Cells}
theorem Sim.eval(s:Sim σ ro PB e tmps hp){fn:FI}{ds:List Deferred}{rd:Option Nat}{k:List Item}{x:Operand}{a:AV}(h:opdA e x=some a)(hb:a≠.bad):(mkF fn ds rd tmps k).eval x=conc σ a:=by
 cases x with
 | tmp t =>
  obtain⟨h1,h2⟩:=J2 h;have:=s.slot t a h1 h2 hb;show tmps.getD t undef=_;rw[Array.getD_eq_getD_getElem?,this];rfl
 | const v=>simp only[opdA,Option.some.injEq]at h;subst h;rfl
 | global g=>simp only[opdA,Option.some.injEq]at h;subst h;rfl
 | func f=>simp only[opdA,Option.some.injEq]at h;subst h;rfl
theorem Sim.put(s:Sim σ ro PB e tmps hp)(dst:Option Tmp)(m:∀ d,dst=some d->d<tmps.size/\d<4096)(a:AV)(v:Value)(hv:a≠.bad->v=conc σ a) :
  Sim σ ro PB (setD e dst a) (putD tmps dst v) hp:=by
 cases dst with
 | none=>exact s
 | some d =>
  obtain⟨h1,h2⟩:=m d rfl;have c:∀ i,(setD e (some d) a).get i=if d=i then some a else e.get i:=fun i=>Q0 _ _ _ _
  refine⟨?_,?_,?_,?_,?_,?_⟩
  ·intro i b n f hb;rw[c]at f;show (tmps.setIfInBounds d v)[i]?=_;by_cases k:d=i
   ·subst k;rw[if_pos rfl]at f;cases f;rw[Array.getElem?_setIfInBounds_self,if_pos h1,hv hb]
   ·rw[if_neg k]at f;rw[Array.getElem?_setIfInBounds_ne k];exact s.slot i b n f hb
  ·intro t w g f;rw[c,if_neg (Nat.ne_of_lt (Nat.lt_of_lt_of_le h2 g))]at f;exact s.cell t w g f
  ·intro t w g f;rw[c,if_neg (Nat.ne_of_lt (Nat.lt_of_lt_of_le h2 g))]at f;exact s.only t w g f
  ·intro t o b l g j f h;rw[c,if_neg (Nat.ne_of_lt (Nat.lt_of_lt_of_le h2 g))]at f;rw[c,if_neg (Nat.ne_of_lt (Nat.lt_of_lt_of_le h2 j))]at h;exact s.inj t o b l g j f h
  ·intro t b g f;rw[c,if_neg (Nat.ne_of_lt (Nat.lt_of_lt_of_le h2 g))]at f;exact s.prot t b g f
  ·intro t b g f;rw[c,if_neg (Nat.ne_of_lt (Nat.lt_of_lt_of_le h2 g))]at f;exact s.cover t b g f
end
theorem Sim.again(s:Sim σ ro PB e tmps hp){a:AV}(h:slotA e d=some a):Sim σ ro PB ((d,a)::e) tmps hp:=by
 obtain⟨h1,h2⟩:=J2 h;have c:∀ i,Env.get ((d,a)::e) i=e.get i:=by
  intro i;rw[Q0];by_cases j:d=i
  ·rw[if_pos j,<- j];exact h2.symm
  ·rw[if_neg j]
 exact⟨fun i b o f=>s.slot i b o (c i▸f),fun t v g f=>s.cell t v g (c t▸f),fun t v g f=>s.only t v g (c t▸f),
  fun t m b n g l f k=>s.inj t m b n g l (c t▸f) (c m▸k),fun t b g f=>s.prot t b g (c t▸f),fun t b g f=>s.cover t b g (c t▸f)⟩
structure Fr(D:List Nat)(PB:Nat->Prop)(σ:Nat->Nat)(tmps:Array Value)(hp:Cells)(σ':Nat->Nat)(tmps':Array Value)(hp':Cells):Prop where
 size:tmps'.size=tmps.size
 slots:∀ i,i∉D->tmps'[i]?=tmps[i]?
 names:∀ i,i∉D->σ' i=σ i
 prot:∀ r,PB r->hp' r=hp r
theorem Fr.refl:Fr D PB σ tmps hp σ tmps hp:=⟨rfl,fun _ _=>rfl,fun _ _=>rfl,fun _ _=>rfl⟩
theorem Fr.trans{D j E:List Nat}{PB:Nat->Prop}{σ g c:Nat->Nat}{t l f:Array Value}{p k e:Cells}(a:Fr D PB σ t p g l k)(b:Fr j PB g l k c f e)(h1:∀ i,i∈D->i∈E)(h2:∀ i,i∈j->i∈E) :
  Fr E PB σ t p c f e :=
 ⟨b.size.trans a.size,fun i d=>(b.slots i fun h=>d (h2 i h)).trans (a.slots i fun h=>d (h1 i h)),fun i d=>(b.names i fun h=>d (h2 i h)).trans (a.names i fun h=>d (h1 i h)),fun r hr=>(b.prot r hr).trans (a.prot r hr)⟩
theorem Fr.mono{E:List Nat}{b:Nat->Prop}{d:Nat->Nat}{t g:Array Value}{p f:Cells}(a:Fr D PB σ t p d g f)(h1:∀ i,i∈D->i∈E)(h2:∀ r,b r->PB r):Fr E b σ t p d g f :=
 ⟨a.size,fun i e=>a.slots i fun h=>e (h1 i h),fun i e=>a.names i fun h=>e (h1 i h),fun r hr=>a.prot r (h2 r hr)⟩
/-! ### c blocks -/
theorem Wl(k:Nat):∀ (vs:List Value) (j:Nat) (e:Env) (s:Nat),(∀ t,t<vs.length->s=pkey k (j+t)->(setCells k j vs e).get s=(vs[t]?).map .val)/\((∀ t,t<vs.length->s≠pkey k (j+t))->(setCells k j vs e).get s=e.get s):=by
 intro vs
 induction vs with
 | nil=>intro j e s;exact⟨fun t b=>by simp at b,fun _=>rfl⟩
 | cons v vs d =>
  intro j e s;constructor
  ·intro t b a;rw[setCells,Q0];cases t with
   | zero=>rw[if_pos (by rw[a];rfl)];rfl
   | succ t =>
    rw[if_neg (by subst a;unfold pkey;omega)];have:=(d (j+1) e s).1 t (by simpa using b) (by rw[a];congr 1;omega);rw[this];simp
  ·intro c;rw[setCells,Q0,if_neg (fun h=>c 0 (by simp) h.symm)];exact(d (j+1) e s).2 fun t b a=>c (t+1) (by simp;omega) (by rw[a];congr 1;omega)
theorem Wx(v:Value):cellsL v=v.cells.toList:=by
 cases v<;>simp[cellsL,Value.cells]
theorem get_anew{a:AV}(h:(anew d e).get s=some a):∃ b,e.get s=some b/\a=b.scrap (Nat.beq d)/\¬ (4096<=s/\blockOf s=d):=by
 unfold anew at h;rw[Wn,Env.get_scrap]at h;split at h
 ·rename_i c;cases he:e.get s with
  | none=>rw[he]at h;cases h
  | some b =>
   rw[he]at h;cases h;refine⟨b,rfl,rfl,?_⟩;rintro⟨h1,h2⟩;rw[Kt.2 h1,h2,Gx]at c;cases c
 ·cases h
theorem scrap_val{W:Nat->Bool}{a:AV}(h:a.scrap W=.val v):a=.val v:=by
 cases a with
 | val w=>exact h
 | pp k o=>simp only[AV.scrap]at h;split at h<;>cases h
 | bad=>cases h
theorem Sim.make(s:Sim σ ro PB e tmps hp){el:Nat}(R:d<tmps.size)(S:d<4096)(G:d∉ro)(hr:hp r=none)(F:∀ b,PB b->∃ x,hp b=some x)
 (hlen:v.cells.size<=4095):Sim (fun i=>if i=d then r else σ i) ro PB ((d,.pp d 0)::setCells d 0 (cellsL v) (anew d e)) (tmps.setIfInBounds d (.pointer (some ⟨r,0,none⟩))) (hp.upd r (true,.cells v.cells el (0,0))) /\
   Fr [d] PB σ tmps hp (fun i=>if i=d then r else σ i) (tmps.setIfInBounds d (.pointer (some ⟨r,0,none⟩))) (hp.upd r (true,.cells v.cells el (0,0))):=by
 have live:∀ g a,4096<=g->e.get g=some a->σ (blockOf g)≠r:=by
  intro g a h1 h2;obtain⟨w,rfl⟩:=s.only g a h1 h2;obtain⟨c,D,h3,_⟩:=s.cell g w h1 h2;intro he;rw[he,hr]at h3;cases h3
 have j:∀ i a,Env.get ((d,.pp d 0)::setCells d 0 (cellsL v) (anew d e)) i=some a ->
   (i=d/\a=.pp d 0)\/(∃ t w,i=pkey d t/\t<v.cells.size/\v.cells[t]?=some w/\a=.val w) \/
   (∃ f,i≠d/\e.get i=some f/\a=f.scrap (Nat.beq d)/\¬ (4096<=i/\blockOf i=d)):=by
  intro i a h;rw[Q0]at h;by_cases p:d=i
  ·rw[if_pos p]at h;cases h;exact .inl ⟨p.symm,rfl⟩
  ·rw[if_neg p]at h;by_cases hc:∃ t,t<(cellsL v).length/\i=pkey d (0+t)
   ·obtain⟨t,y,H⟩:=hc;rw[(Wl d (cellsL v) 0 (anew d e) i).1 t y H]at h;rw[Wx]at h y;simp only[Array.length_toList,Array.getElem?_toList]at h y;cases hw:v.cells[t]? with
    | none=>rw[hw]at h;cases h
    | some w=>rw[hw]at h;cases h;exact .inr (.inl ⟨t,w,by simpa using H,y,hw,rfl⟩)
   ·rw[(Wl d (cellsL v) 0 (anew d e) i).2 fun t y l=>hc ⟨t,y,l⟩]at h;obtain⟨f,h1,h2,h3⟩:=get_anew h;exact .inr (.inr ⟨f,Ne.symm p,h1,h2,h3⟩)
 refine⟨⟨?_,?_,?_,?_,?_,?_⟩,⟨by simp,?_,?_,?_⟩⟩
 ·intro i a p m hb;rcases j i a m with⟨rfl,rfl⟩|⟨t,w,rfl,_⟩|⟨f,n,h1,rfl,_⟩
  ·rw[Array.getElem?_setIfInBounds_self,if_pos R];simp[conc]
  ·have:=@Wf d t;omega
  ·rw[Array.getElem?_setIfInBounds_ne (Ne.symm n)];cases f with
   | val w=>exact s.slot i _ p h1 (by simp)
   | pp k o =>
    have O:Nat.beq d k=false:=by
     cases K:Nat.beq d k with
     | false=>rfl
     | true=>exact absurd (show AV.scrap (Nat.beq d) (.pp k o)=.bad by simp[AV.scrap,K]) hb
    have M:k≠d:=Ne.symm (Zj O);rw[s.slot i _ p h1 (by simp)];simp[AV.scrap,O,conc,M]
   | bad=>exact absurd rfl hb
 ·intro g w l m;rcases j g _ m with⟨rfl,h⟩|⟨t,w',rfl,y,hw,h⟩|⟨f,n,h1,h2,h3⟩
  ·omega
  ·cases h;have I:t<4096:=by omega
   refine⟨v.cells,el,?_,?_⟩
   ·simp only[Ji I,if_pos];exact Qn _ _ _
   ·rw[Uf I];exact hw
  ·have z:=scrap_val h2.symm;subst z;obtain⟨c,D,Q,h5⟩:=s.cell g w l h1;have q:blockOf g≠d:=fun h=>h3 ⟨l,h⟩;refine⟨c,D,?_,h5⟩;simp only[if_neg q];rw[Qp _ _ (live g _ l h1)];exact Q
 ·intro g a l m;rcases j g a m with⟨rfl,h⟩|⟨t,w',rfl,y,hw,h⟩|⟨f,n,h1,rfl,h3⟩
  ·omega
  ·exact⟨w',h⟩
  ·obtain⟨w,rfl⟩:=s.only g f l h1;exact⟨w,rfl⟩
 ·intro g C a P l B m L heq;have key:∀ g a,4096<=g->Env.get ((d,.pp d 0)::setCells d 0 (cellsL v) (anew d e)) g=some a->(blockOf g=d)\/(blockOf g≠d/\∃ f,e.get g=some f):=by
   intro g a l m;rcases j g a m with⟨rfl,h⟩|⟨t,w',rfl,y,hw,h⟩|⟨f,n,h1,rfl,h3⟩
   ·omega
   ·exact .inl (Ji (by omega))
   ·exact .inr ⟨fun h=>h3 ⟨l,h⟩,f,h1⟩
  rcases key g a l m with h1|⟨h1,f,E⟩<;>rcases key C P B L with h2|⟨h2,A,z⟩
  ·rw[h1,h2]
  ·simp only[if_pos h1,if_neg h2]at heq;exact absurd heq.symm (live C A B z)
  ·simp only[if_pos h2,if_neg h1]at heq;exact absurd heq (live g f l E)
  ·simp only[if_neg h1,if_neg h2]at heq;exact s.inj g C f A l B E z heq
 ·intro g a l m u;rcases j g a m with⟨rfl,h⟩|⟨t,w',rfl,y,hw,h⟩|⟨f,n,h1,rfl,h3⟩
  ·omega
  ·simp only[Ji (show t<4096 by omega),if_pos];intro N;obtain⟨x,J⟩:=F _ N;rw[hr]at J;cases J
  ·have q:blockOf g≠d:=fun h=>h3 ⟨l,h⟩;simp only[if_neg q];exact s.prot g f l h1 u
 ·intro g a l m u;rcases j g a m with⟨rfl,h⟩|⟨t,w',rfl,y,hw,h⟩|⟨f,n,h1,rfl,h3⟩
  ·omega
  ·rw[Ji (show t<4096 by omega)]at u;exact absurd u G
  ·have q:blockOf g≠d:=fun h=>h3 ⟨l,h⟩;simp only[if_neg q];exact s.cover g f l h1 u
 ·intro i p;have:d≠i:=fun h=>p (by simp[h]);rw[Array.getElem?_setIfInBounds_ne this]
 ·intro i p;have:i≠d:=fun h=>p (by simp[h]);simp only[if_neg this]
 ·intro b hb;have:b≠r:=by
   rintro rfl;obtain⟨x,J⟩:=F _ hb;rw[hr]at J;cases J
  rw[Qp _ _ this]
def setMany(c:Array Value):Nat->List Value->Array Value
 | _,[]=>c
 | o,v::vs=>setMany (c.setIfInBounds o v) (o+1) vs
theorem size_setMany:∀ (vs:List Value) (c:Array Value) (o:Nat),(setMany c o vs).size=c.size:=by
 intro vs
 induction vs with
 | nil=>intro c o;rfl
 | cons v vs a=>intro c o;rw[setMany,a];simp
theorem get_setMany:∀ (vs:List Value) (c:Array Value) (o:Nat),o+vs.length<=c.size->∀ i,(setMany c o vs)[i]?=if o<=i/\i<o+vs.length then vs[i-o]? else c[i]?:=by
 intro vs
 induction vs with
 | nil=>intro c o _ i;rw[setMany,if_neg (by simp)]
 | cons v vs a =>
  intro c o h i;rw[setMany,a _ _ (by simp at h ⊢;omega)];simp only[List.length_cons]at h ⊢;by_cases h1:i=o
  ·subst h1;rw[if_neg (by omega),if_pos (by omega),Array.getElem?_setIfInBounds_self,if_pos (by omega)];simp
  ·by_cases h2:o+1<=i/\i<o+1+vs.length
   ·rw[if_pos h2,if_pos (by omega)];have:i-o=(i-(o+1))+1:=by omega
    rw[this];simp
   ·rw[if_neg h2,if_neg (by omega),Array.getElem?_setIfInBounds_ne (Ne.symm h1)]
theorem W4{Q:Unit->Cells->Prop}{E:Halt->Cells->Prop}:∀ (vs:List Value) (i:Nat) (h:Cells) (b off:Nat) (c:Array Value) (el:TypeId),h b=some (true,.cells c el (0,0))->off+i+vs.length<=c.size->(∀ v∈vs,isOne v=true) ->
  Q () (h.upd b (true,.cells (setMany c (off+i) vs) el (0,0)))->Qe P (storeCells ⟨b,off,none⟩ vs i) Q E h:=by
 intro vs
 induction vs with
 | nil =>
  intro i h b off c el hb _ _ f;have:h.upd b (true,.cells c el (0,0))=h:=by funext r;unfold Cells.upd;split<;>simp_all
  rw[setMany,this]at f;exact f
 | cons v vs l =>
  intro i h b off c el hb hlen a f;have j:(Addr.add ⟨b,off,none⟩ i)=⟨b,off+i,none⟩:=by unfold Addr.add;split<;>simp_all
  have k:off+i<c.size:=by simp at hlen;omega
  unfold storeCells;refine Qz (Go.store (Addr.add ⟨b,off,none⟩ i) v) _ ?_;rw[j];have d:h.setCell ⟨b,off+i,none⟩ v=h.upd b (true,.cells (c.setIfInBounds (off+i) v) el (0,0)):=by
   funext r;unfold Cells.setCell Cells.upd;by_cases e:r=b
   ·subst e;simp[hb]
   ·simp[e]
  refine⟨rfl,a v (by simp),⟨_,hb⟩,?_,?_,?_⟩
  ·refine⟨c[off+i],?_⟩;simp[Cells.cell?,hb,k]
  ·simp[Cells.frozen?,hb]
  ·show Qe P (storeCells ⟨b,off,none⟩ vs (i+1)) Q E (h.setCell ⟨b,off+i,none⟩ v);rw[d];refine l (i+1) _ b off _ el (Qn _ _ _) (by simp at hlen ⊢;omega) (fun w hw=>a w (by simp[hw])) ?_;have g:(h.upd b (true,.cells (c.setIfInBounds (off+i) v) el (0,0))).upd b (true,.cells (setMany (c.setIfInBounds (off+i) v) (off+(i+1)) vs) el (0,0))=h.upd b (true,.cells (setMany c (off+i) (v::vs)) el (0,0)):=by
    funext r;unfold Cells.upd;by_cases e:r=b
    ·simp[e,setMany,Nat.add_assoc]
    ·simp[e]
   rw[g];exact f
theorem lwp_loadCells{Q:Array Value->Cells->Prop}{E:Halt->Cells->Prop}:∀ (l:List Value) (a:Addr) (i:Nat) (acc:Array Value) (h:Cells),(∀ t v,l[t]?=some v->h.cell? (a.add (i+t))=some v)->Q (acc++l.toArray) h ->
  Qe P (loadCellsFrom a i l.length acc) Q E h:=by
 intro l
 induction l with
 | nil=>intro a i acc h _ b;simp at b;exact b
 | cons v l c =>
  intro a i acc h hc b;show Qe P ((Go.load (a.add i)).bind fun v=>loadCellsFrom a (i+1) l.length (acc.push v)) Q E h;refine Qz _ _ ⟨rfl,v,hc 0 v (by simp),?_⟩;refine c a (i+1) (acc.push v) h (fun t w hw=>?_) ?_
  ·have:=hc (t+1) w (by simpa using hw);rw[show i+1+t=i+(t+1) by omega];exact this
  ·rw[show acc.push v++l.toArray=acc++(v::l).toArray by apply Array.ext';simp];exact b
theorem privCells_spec:∀ (n j:Nat) (l:List Value),Zh e k j n=some l->l.length=n/\∀ t v,l[t]?=some v->e.get (pkey k (j+t))=some (.val v):=by
 intro n
 induction n with
 | zero=>intro j l h;simp only[Zh,Option.some.injEq]at h;subst h;simp
 | succ n b =>
  intro j l h;rw[Zh]at h;split at h
  ·rename_i v c hv a;cases h;obtain⟨h1,h2⟩:=b (j+1) c a;refine⟨by simp[h1],fun t w hw=>?_⟩;cases t with
   | zero=>simp at hw;subst hw;exact hv
   | succ t=>rw[show j+(t+1)=j+1+t by omega];exact h2 t w (by simpa using hw)
  ·cases h
theorem Cells.add_upd_right{h k:Cells}{x:Bool×Obj}(a:h r=none):(h.add k).upd r x=h.add (k.upd r x):=by
 funext b;unfold Cells.upd Cells.add;by_cases e:b=r
 ·subst e;simp[a]
 ·simp[e]
theorem Sim.store{g:Cells}(s:Sim σ ro PB e tmps hp)(J:Disj g hp){b:Nat}{vs l:List Value}(N:b∉ro)(hl:Zh e b j vs.length=some l)(hle:j+vs.length<=4095)
 (G:∀ v∈vs,isOne v=true){Q:Unit->Cells->Prop}{E:Halt->Cells->Prop}
 (S:∀ z,Sim σ ro PB (setCells b j vs e) tmps z->Disj g z->Fr [] PB σ tmps hp σ tmps z->Q () (g.add z)):Qe P (storeCells ⟨σ b,j,none⟩ vs 0) Q E (g.add hp):=by
 cases vs with
 | nil=>exact S hp s J Fr.refl
 | cons v vs =>
  obtain⟨h1,h2⟩:=privCells_spec _ _ _ hl;have x:∀ t,t<(v::vs).length->∃ w,e.get (pkey b (j+t))=some (.val w):=by
   intro t k;rw[<- h1]at k;exact⟨l[t],h2 t l[t] (by simp[k])⟩
  obtain⟨w0,B⟩:=x 0 (by simp);obtain⟨c,el,hc,_⟩:=s.cell _ _ Wf B;rw[Ji (by omega)]at hc;have H:j+(v::vs).length<=c.size:=by
   obtain⟨w,hw⟩:=x vs.length (by simp);obtain⟨c',A,n,f⟩:=s.cell _ _ Wf hw;simp only[List.length_cons]at hle;rw[Ji (by omega),hc]at n;cases n;rw[Uf (by omega)]at f;have:=(Array.getElem?_eq_some_iff.1 f).1;simp;omega
  have D:g (σ b)=none:=by
   rcases J (σ b) with h|h
   ·exact h
   ·rw[hc]at h;cases h
  refine W4 (v::vs) 0 (g.add hp) (σ b) j c el (Q3 J hc) (by simpa using H) G ?_;rw[Nat.add_zero,Cells.add_upd_right D];have y:∀ t a,4096<=t->e.get t=some a->blockOf t≠b->σ (blockOf t)≠σ b:=by
   intro t a k Y M heq;have:=s.inj t (pkey b j) a (.val w0) k Wf Y B (by rw[Ji (by omega)];exact heq);rw[Ji (by omega)]at this;exact M this
  have f:∀ t a,(setCells b j (v::vs) e).get t=some a->(∃ u w,u<(v::vs).length/\t=pkey b (j+u)/\(v::vs)[u]?=some w/\a=.val w)\/(e.get t=some a/\∀ u,u<(v::vs).length->t≠pkey b (j+u)):=by
   intro t a d;by_cases hu:∃ u,u<(v::vs).length/\t=pkey b (j+u)
   ·obtain⟨u,hu,k⟩:=hu;rw[(Wl b (v::vs) j e t).1 u hu k]at d;cases hw:(v::vs)[u]? with
    | none=>rw[hw]at d;cases d
    | some w=>rw[hw]at d;cases d;exact .inl ⟨u,w,hu,k,hw,rfl⟩
   ·have F:∀ u,u<(v::vs).length->t≠pkey b (j+u):=fun u h k=>hu ⟨u,h,k⟩;rw[(Wl b (v::vs) j e t).2 F]at d;exact .inr ⟨d,F⟩
  have p:∀ t a,4096<=t->(setCells b j (v::vs) e).get t=some a->∃ m,e.get t=some m:=by
   intro t a k d;rcases f t a d with⟨u,w,hu,rfl,hw,rfl⟩|⟨d,_⟩
   ·obtain⟨w',O⟩:=x u hu;exact⟨_,O⟩
   ·exact⟨_,d⟩
  refine S _ ⟨?_,?_,?_,?_,?_,?_⟩ ?_ ⟨rfl,fun _ _=>rfl,fun _ _=>rfl,?_⟩
  ·intro i a Z d hb;rcases f i a d with⟨u,w,hu,rfl,hw,rfl⟩|⟨d,_⟩
   ·have:=@Wf b (j+u);omega
   ·exact s.slot i a Z d hb
  ·intro t w k d;by_cases q:blockOf t=b
   ·refine⟨setMany c j (v::vs),el,by rw[q];exact Qn _ _ _,?_⟩;rw[get_setMany _ _ _ H];rcases f t _ d with⟨u,w',hu,rfl,hw,heq⟩|⟨d,F⟩
    ·cases heq;rw[Uf (by omega),if_pos (by omega),show j+u-j=u by omega];exact hw
    ·obtain⟨c',A,n,o⟩:=s.cell t w k d;rw[q,hc]at n;cases n;rw[if_neg ?_];exact o;rintro⟨W,X⟩;exact F (t%4096-j) (by omega) (by rw[show j+(t%4096-j)=t%4096 by omega,<- q];exact pkey_of k)
   ·rcases f t _ d with⟨u,w',hu,rfl,hw,heq⟩|⟨d,F⟩
    ·exact absurd (Ji (by omega)) q
    ·obtain⟨c',A,n,o⟩:=s.cell t w k d;exact⟨c',A,by rw[Qp _ _ (y t _ k d q)];exact n,o⟩
  ·intro t a k d;rcases f t a d with⟨u,w,hu,rfl,hw,rfl⟩|⟨d,_⟩
   ·exact⟨w,rfl⟩
   ·exact s.only t a k d
  ·intro t U a V k I d L heq;obtain⟨m,h0⟩:=p t a k d;obtain⟨C,K⟩:=p U V I L;exact s.inj t U m C k I h0 K heq
  ·intro t a k d hr;obtain⟨m,h0⟩:=p t a k d;exact s.prot t m k h0 hr
  ·intro t a k d hr;obtain⟨m,h0⟩:=p t a k d;exact s.cover t m k h0 hr
  ·intro r;by_cases R:r=σ b
   ·subst R;exact .inl D
   ·rw[Qp _ _ R];exact J r
  ·intro r hr;have:r≠σ b:=by
    rintro rfl;have:=s.prot _ _ Wf B (by rw[Ji (by omega)];exact N);rw[Ji (by omega)]at this;exact this hr
   rw[Qp _ _ this]
end
section
section laws
variable {α β:Type} {P:Program} {Q:α->Cells->Prop} {E:Halt->Cells->Prop} {h:Cells}
variable {t:TypeId}
theorem Qg(a:α):Qe P (pure a:Sem α) Q E h↔Q a h:=Iff.rfl
theorem lwp_bind(s:Sem β)(f:β->Sem α):Qe P (s >>= f) Q E h↔Qe P s (fun a h=>Qe P (f a) Q E h) E h:=by
 show Qe P (s.bind f) Q E h↔_;constructor
 ·induction s generalizing h with
  | pure a=>exact id
  | load m a k d=>rintro⟨e,v,hc,b⟩;exact⟨e,v,hc,d v b⟩
  | store m a v k d=>rintro⟨e,h1,h2,h3,i,b⟩;exact⟨e,h1,h2,h3,i,d b⟩
  | new o k d=>exact fun b=>unpend.mono b fun b r hr=>d r (b r hr)
  | shape r k d=>rintro⟨h1,b⟩;exact⟨h1,d _ b⟩
  | freeze a n k d=>rintro⟨h1,h2,b⟩;exact⟨h1,h2,d b⟩
  | frozen a k d=>rintro⟨h1,b⟩;exact⟨h1,d _ b⟩
  | getObj r k d=>rintro⟨m,o,h1,h2,b⟩;exact⟨m,o,h1,h2,d _ b⟩
  | setObj r o k d=>rintro⟨h1,b⟩;exact⟨h1,b.mono fun b=>d b⟩
  | choose q k d =>
   intro b;change Qe P (.choose q fun n=>(k n).bind f) Q E h at b;unfold Qe at b ⊢;split
   ·rename_i g;rw[if_pos g]at b;exact d _ b
   ·rename_i g;rw[if_neg g]at b;exact fun t=>d _ (b t)
  | sys c k d=>intro b;exact b.elim
  | program k d=>intro b;exact d _ b
  | mark m k d=>intro b;exact⟨b.1,d b.2⟩
  | halt e=>exact id
 ·exact Qz s f
theorem Jv{Q:Program->Cells->Prop}:Qe P program Q E h↔Q P h:=Iff.rfl
theorem Qd{Q:TypeDesc->Cells->Prop}{d:TypeDesc}(hu:P.underlying t=some d):Qe P (underlying t) Q E h↔Q d h:=by
 unfold underlying;rw[lwp_bind,Jv,hu];exact Iff.rfl
theorem Z1{Q:TypeInfo->Cells->Prop}{i:TypeInfo}(hu:P.info? t=some i):Qe P (typeInfo t) Q E h↔Q i h:=by
 unfold typeInfo;rw[lwp_bind,Jv,hu];exact Iff.rfl
theorem Q2{Q:Nat->Cells->Prop}{i:TypeInfo}(hu:P.info? t=some i):Qe P (sizeOf t) Q E h↔Q i.size h:=by
 unfold sizeOf;rw[lwp_bind,Z1 hu];exact Iff.rfl
theorem Ze{Q:Value->Cells->Prop}{i:TypeInfo}{z:Value}(hu:P.info? t=some i)(a:i.zero=some z):Qe P (zeroValue t) Q E h↔Q z h:=by
 unfold zeroValue;rw[lwp_bind,Z1 hu,a];exact Iff.rfl
theorem info_of_underlying{d:TypeDesc}(hu:P.underlying t=some d):∃ i,P.info? t=some i:=by
 unfold Program.underlying at hu;cases a:P.info? t with
 | none=>rw[a]at hu;cases hu
 | some i=>exact⟨i,rfl⟩
theorem Hy(h:isAggT P t=true):∃ d,P.underlying t=some d/\(∃ i,P.info? t=some i/\P.cellsOf t=i.size)/\((∃ fs,d=.struct fs)\/∃ n e,d=.array n e):=by
 unfold isAggT at h;split at h
 ·rename_i fs hu;obtain⟨i,a⟩:=info_of_underlying hu;exact⟨_,hu,⟨i,a,by simp[Program.cellsOf,a]⟩,.inl ⟨fs,rfl⟩⟩
 ·rename_i n e hu;obtain⟨i,a⟩:=info_of_underlying hu;exact⟨_,hu,⟨i,a,by simp[Program.cellsOf,a]⟩,.inr ⟨n,e,rfl⟩⟩
 ·cases h
theorem lwp_isAgg_true{Q:Bool->Cells->Prop}(a:isAggT P t=true):Qe P (isAgg t) Q E h↔Q true h:=by
 obtain⟨d,hu,_,⟨fs,rfl⟩|⟨n,e,rfl⟩⟩:=Hy a<;>(unfold isAgg;rw[lwp_bind,Qd hu];exact Iff.rfl)
theorem Z9{Q:Bool->Cells->Prop}{d:TypeDesc}(hu:P.underlying t=some d)(a:isAggT P t=false):Qe P (isAgg t) Q E h↔Q false h:=by
 unfold isAgg;rw[lwp_bind,Qd hu];unfold isAggT at a;rw[hu]at a;cases d<;>first|exact Iff.rfl|cases a
end laws
section
variable {X:XP} {C:Ctx} {main:Bool} {R:Goroutine->LH->Prop}
variable {v:Value}{vs:List Value}{a:Addr}
theorem Kn{P:Program}{kd:Kind}{k:Value->T}{Q:Leaf->LH->Prop}{h:LH}(hw:(T.un kd v k).wp X P Q h):(k v).wp X P Q h:=by
 cases kd<;>cases v<;>simp only[T.un,T.unI,T.unB,T.unS,T.unP,T.unM,T.unC,T.unStr,T.unA]at hw<;>first
  | exact hw
  | exact hw.elim
  | (rename_i p;cases p<;>first|exact hw|exact hw.elim)
  | (split at hw<;>first|(rename_i a;have:=of_decide_eq_true a;subst this;exact hw)|exact hw.elim)
theorem pop_wp{P:Program}{kd:Kind}{k:Value->List Value->T}{Q:Leaf->LH->Prop}{h:LH}(hw:(U6 kd vs k).wp X P Q h):∃ v a,vs=v::a/\(k v a).wp X P Q h:=by
 cases vs with
 | nil=>cases kd<;>exact hw.elim
 | cons v vs =>
  refine⟨v,vs,rfl,?_⟩;cases kd<;>cases v<;>simp only[U6,T.popI,T.popB,T.popS,T.popP,T.popM,T.popC,T.popStr,T.popV,T.popA]at hw<;>first
   | exact hw
   | exact hw.elim
   | (rename_i p;cases p<;>first|exact hw|exact hw.elim)
   | (split at hw<;>first|(rename_i b;have:=of_decide_eq_true b;subst this;exact hw)|exact hw.elim)
theorem Gs{P:Program}{k:T}{Q:Leaf->LH->Prop}{h:LH}(hw:(T.unNil vs k).wp X P Q h):vs=[]/\k.wp X P Q h:=by
 cases vs with
 | nil=>exact⟨rfl,hw⟩
 | cons v vs=>exact hw.elim
theorem unList_wp{P:Program}{Q:Leaf->LH->Prop}{h:LH}:∀ {a:List Kind} {vs:List Value} {k:List Value->T},(K8 a vs k).wp X P Q h->(k vs).wp X P Q h:=by
 intro a
 induction a with
 | nil=>intro vs k hw;obtain⟨rfl,hw⟩:=Gs hw;exact hw
 | cons kd a c =>
  intro vs k hw;obtain⟨v,d,rfl,b⟩:=pop_wp hw;exact c (k:=fun l=>k (v::l)) b
theorem Da{P:Program}{sh:Shape}{k:Value->T}{Q:Leaf->LH->Prop}{h:LH}(hw:(Gn sh v k).wp X P Q h):(k v).wp X P Q h:=by
 cases sh with
 | cell kd=>exact Kn hw
 | agg a =>
  cases v<;>simp only[Gn,T.unAgg]at hw<;>first|exact hw.elim|skip
  rename_i cs;have:=unList_wp hw;simpa using this
theorem shaped_wp{P:Program}{t:TypeId}{k:Value->T}{Q:Leaf->LH->Prop}{h:LH}(hw:(G7 P t v k).wp X P Q h):(k v).wp X P Q h:=by
 unfold G7 at hw;split at hw
 ·exact Da hw
 ·exact hw
theorem D5{P:Program}{Q:Leaf->LH->Prop}{h:LH}:∀ {a:List Shape} {vs:List Value} {k:List Value->T},(Zl a vs k).wp X P Q h->(k vs).wp X P Q h:=by
 intro a
 induction a with
 | nil=>intro vs k hw;obtain⟨rfl,hw⟩:=Gs hw;exact hw
 | cons s a b =>
  intro vs k hw;cases vs with
  | nil=>exact hw.elim
  | cons v vs =>
   have hw:=Da (k:=fun v=>Zl a vs fun l=>k (v::l)) hw;exact b (k:=fun l=>k (v::l)) hw
theorem Wz{P:Program}{a:List Shape}{k:Value->T}{Q:Leaf->LH->Prop}{h:LH}(hw:(T.unTup v fun l=>Zl a l fun l=>k (.tuple l.toArray)).wp X P Q h):(k v).wp X P Q h:=by
 cases v<;>simp only[T.unTup]at hw<;>first|exact hw.elim|skip
 rename_i cs;have:=D5 hw;simpa using this
theorem Yb{P:Program}{a:List Shape}{k:Value->T}{Q:Leaf->LH->Prop}{h:LH}(hw:(Kz a v k).wp X P Q h):(k v).wp X P Q h:=by
 unfold Kz at hw;split at hw
 ·exact Da hw
 ·exact Wz hw
theorem Wy{P:Program}{a:Option AV}{k:AV->T}{Q:Leaf->LH->Prop}{h:LH}(hw:(withA a k).wp X P Q h):∃ b,a=some b/\(k b).wp X P Q h:=by
 cases a with
 | none=>exact hw.elim
 | some b=>exact⟨b,rfl,hw⟩
theorem Qq{P:Program}{a:Option AV}{k:Value->T}{Q:Leaf->LH->Prop}{h:LH}(hw:(withV a k).wp X P Q h):∃ v,a=some (.val v)/\(k v).wp X P Q h:=by
 unfold withV at hw;split at hw
 ·rename_i v;exact⟨v,rfl,hw⟩
 ·exact hw.elim
theorem H9{P:Program}{e:Env}{Q:Leaf->LH->Prop}{h:LH}:∀ {xs:List Operand} {k:List Value->T},(withVs e xs k).wp X P Q h->∃ vs,(∀ ρ:Operand->Value,(∀ x v,opdA e x=some (.val v)->ρ x=v)->xs.map ρ=vs)/\(k vs).wp X P Q h:=by
 intro xs
 induction xs with
 | nil=>intro k hw;exact⟨[],fun _ _=>rfl,hw⟩
 | cons x xs b =>
  intro k hw;obtain⟨v,hv,hw⟩:=Qq hw;obtain⟨vs,h1,h2⟩:=b (k:=fun l=>k (v::l)) hw;exact⟨v::vs,fun ρ a=>by rw[List.map_cons,a x v hv,h1 ρ a],h2⟩
theorem withParts_wp{P:Program}{e:Env}{Q:Leaf->LH->Prop}{h:LH}:∀ {xs:List (Nat×Operand)} {k:List (Nat×Value)->T},(Kp e xs k).wp X P Q h->∃ vs,(∀ ρ:Operand->Value,(∀ x v,opdA e x=some (.val v)->ρ x=v)->xs.map (fun p=>(p.1,ρ p.2))=vs)/\(k vs).wp X P Q h:=by
 intro xs
 induction xs with
 | nil=>intro k hw;exact⟨[],fun _ _=>rfl,hw⟩
 | cons x xs b =>
  intro k hw;obtain⟨i,x⟩:=x;obtain⟨v,hv,hw⟩:=Qq hw;obtain⟨vs,h1,h2⟩:=b (k:=fun l=>k ((i,v)::l)) hw;exact⟨(i,v)::vs,fun ρ a=>by rw[List.map_cons,h1 ρ a];simp only;rw[a x v hv],h2⟩
theorem Yo{P:Program}{kd:Kind}{k:Value->T}{Q:Leaf->LH->Prop}{h:LH}(hw:(Gi kd a k).wp X P Q h):∃ v,h.get.cell? a=some v/\(k v).wp X P Q h:=by
 cases kd<;>simp only[Gi,T.wp]at hw
 ·obtain⟨n,h1,h2⟩:=hw;exact⟨_,h1,h2⟩
 ·obtain⟨n,h1,h2⟩:=hw;exact⟨_,h1,h2⟩
 ·obtain⟨p,n,c,h1,h2⟩:=hw;exact⟨_,h1,h2⟩
 ·obtain⟨n,h1,h2⟩:=hw;exact⟨_,h1,h2⟩
 ·obtain⟨n,h1,h2⟩:=hw;exact⟨_,h1,h2⟩
 ·obtain⟨n,h1,h2⟩:=hw;exact⟨_,h1,h2⟩
 ·obtain⟨n,h1,h2⟩:=hw;exact⟨_,h1,h2⟩
 ·exact hw
theorem loadL_wp{P:Program}{Q:Leaf->LH->Prop}{h:LH}:∀ {c:List Kind} {i:Nat} {k:List Value->T},(Dn a c i k).wp X P Q h->∃ l,l.length=c.length/\(∀ t v,l[t]?=some v->h.get.cell? (a.add (i+t))=some v)/\(k l).wp X P Q h:=by
 intro c
 induction c with
 | nil=>intro i k hw;exact⟨[],rfl,by simp,hw⟩
 | cons kd c d =>
  intro i k hw;obtain⟨v,hv,hw⟩:=Yo hw;obtain⟨l,h1,h2,h3⟩:=d (k:=fun l=>k (v::l)) hw;refine⟨v::l,by simp[h1],fun t w b=>?_,h3⟩;cases t with
  | zero=>simp at b;subst b;exact hv
  | succ t=>rw[show i+(t+1)=i+1+t by omega];exact h2 t w (by simpa using b)
theorem storeL_wp{P:Program}{Q:Leaf->LH->Prop}{k:T}:∀ {vs:List Value} {i:Nat} {h:LH},(Ul a vs i k).wp X P Q h->Qe P (storeCells a vs i) (fun _ h'=>k.wp X P Q { h with get:=h' }) (fun _ _=>False) h.get:=by
 intro vs
 induction vs with
 | nil=>intro i h hw;exact hw
 | cons v vs c =>
  intro i h hw;unfold storeCells;simp only[Ul,T.wp]at hw;obtain⟨h1,h2,h3,b,h5⟩:=hw;refine Qz (Go.store (a.add i) v) _ ⟨rfl,h1,h2,h3,b,?_⟩;exact c h5
variable {o:Oper} {ops:Array Oper} {i:Nat} {rest:List Nat} {k:List Item} {cs:List Frame} {fn:FI} {ds:List Deferred} {rd:Option Nat}
 {σ:Nat->Nat} {ro:List Nat} {PB:Nat->Prop} {e:Env} {tmps:Array Value} {hp:Cells} {h:LH} {kE:Env->T} {Q:Leaf->LH->Prop} {P:Program}
def Behind(X:XP)(P:Program)(R:Goroutine->LH->Prop)(fn:FI)(ds:List Deferred)(rd:Option Nat)(cs:List Frame)(its:List Item)(D:List Nat)(ro:List Nat)(PB:Nat->Prop)(σ:Nat->Nat)(tmps:Array Value)(hp:Cells)
 (kE:Env->T)(Q:Leaf->LH->Prop):Prop :=
 ∀ e' tmps' σ' hp' h',Sim σ' ro PB e' tmps' hp'->Disj h'.get hp'->Fr D PB σ tmps hp σ' tmps' hp'->(kE e').wp X P Q h'->R (G (mkF fn ds rd tmps' its) cs) (h'.add hp')
theorem Zf(n:ops[i]?=some o)(b:∀ d,o.dst=some d->d<tmps.size/\d<4096)(s:Sim σ ro PB e tmps hp){h':LH}(c:Disj h'.get hp){a:AV}(hv:a≠.bad->v=conc σ a)(f:(kE (setD e o.dst a)).wp X P Q h')
 (m:Behind X P R fn ds rd cs (.inRegion ops rest::k) o.dst.toList ro PB σ tmps hp kE Q) :
  R (G ((mkF fn ds rd tmps (.inRegion ops (i::rest)::k)).finish v) cs) (h'.add hp):=by
 rw[D1 n];refine m _ _ σ hp h' (s.put o.dst b a v hv) c ?_ f;refine⟨?_,?_,fun _ _=>rfl,fun _ _=>rfl⟩
 ·unfold putD;cases o.dst<;>simp
 ·intro j l;unfold putD;cases g:o.dst with
  | none=>rfl
  | some d =>
   have:d≠j:=fun h=>l (by rw[g,h];simp);simp only;rw[Array.getElem?_setIfInBounds_ne this]
theorem Jg(j:ops[i]?=some o)(b:∀ d,o.dst=some d->d<tmps.size/\d<4096)(s:Sim σ ro PB e tmps hp)(c:Disj h.get hp){a:AV}(hv:a≠.bad->v=conc σ a)(f:(kE (setD e o.dst a)).wp X P Q h)
 (g:Behind X P R fn ds rd cs (.inRegion ops rest::k) o.dst.toList ro PB σ tmps hp kE Q){op:Sem Next}
 (l:Qe P op (fun nx h'=>nx=.value v/\h'=h.get.add hp) (fun _ _=>False) (h.get.add hp)) :
  Qe P op (fun nx h'=>Nx P R (mkF fn ds rd tmps (.inRegion ops (i::rest)::k)) cs { h.add hp with get:=h' } nx) (fun _ _=>False) (h.add hp).get:=by
 refine Q7 op l ?_ (fun _ _ h=>h);rintro nx h' ⟨rfl,rfl⟩;exact Zf j b s c hv f g
theorem Jk(q:ops[i]?=some o)(b:∀ d,o.dst=some d->d<tmps.size/\d<4096)(s:Sim σ ro PB e tmps hp)(j:Disj h.get hp){S:Sem Value}{A:Value->Cells->Prop}(hS:Qe P S A (fun _ _=>False) h.get)
 (l:∀ v h',A v h'->∃ a,(a≠.bad->v=conc σ a)/\(kE (setD e o.dst a)).wp X P Q { h with get:=h' })
 (p:Behind X P R fn ds rd cs (.inRegion ops rest::k) o.dst.toList ro PB σ tmps hp kE Q) :
  Qe P (do pure (.value (<- S))) (fun nx h'=>Nx P R (mkF fn ds rd tmps (.inRegion ops (i::rest)::k)) cs { h.add hp with get:=h' } nx) (fun _ _=>False) (h.add hp).get:=by
 rw[lwp_bind];refine Q7 S (Ki S hS j) ?_ ?_
 ·rintro v c ⟨h',g,rfl,f⟩;obtain⟨a,hv,m⟩:=l v h' f;exact Zf (h':={ h with get:=h' }) q b s g hv m p
 ·rintro r c ⟨_,_,_,n⟩;exact n.elim
theorem op_call(n:XOK X)(d:Closed X P main R){fr:Frame}(o:X.stk P .normal (fr::cs)){f:FuncId}{args:Array Value}{A:Value->LH->Prop}(e:Disj h.get hp)(c:FW X P f args h A)(l:∀ v h',A v h'->Disj h'.get hp->R (G (fr.finish v) cs) (h'.add hp)) :
  R (G (Frame.enter P f args .normal) (fr::cs)) (h.add hp):=by
 refine c.2 main (fun g h=>Disj h.get hp->R g (h.add hp)) (d.frame n hp) (fr::cs) o ?_ e;intro k v h' j p a hr m b;have d1:Disj h'.get hp:=b.of_add_left;have d2:Disj j hp:=Qx a b;refine ret_step d.1 (v:=v) (hr.frame b) ?_;have i:(h'.add j).add hp=(h'.add hp).add j:=by unfold LH.add;simp only;rw[Q4 d2]
 rw[i];exact d.1.up _ _ j (l v h' m d1) (Disj.add a d2.symm)
end
end
section
section
variable {X:XP} {C:Ctx} {main:Bool} {R:Goroutine->LH->Prop}
variable {o:Oper} {ops:Array Oper} {i:Nat} {rest:List Nat} {k:List Item} {cs:List Frame} {fn:FI} {ds:List Deferred} {rd:Option Nat}
 {σ:Nat->Nat} {ro:List Nat} {PB:Nat->Prop} {e:Env} {tmps:Array Value} {hp:Cells} {h:LH} {kE:Env->T} {Q:Leaf->LH->Prop} {q:Bool}
variable {P:Program}{t:TypeId}{a v:Value}{H:Cells}{b j:Nat}{op:BinOp}{x y:Operand}
theorem Wa{d:TypeDesc}(hu:P.underlying t=some d)(c:isAggT P t=false){a:Addr}(hc:H.cell? a=some v){Q:Value->Cells->Prop}{E:Halt->Cells->Prop}(b:Q v H):Qe P (loadVar t a) Q E H:=by
 unfold loadVar;rw[lwp_bind,Z9 hu c];exact⟨rfl,v,hc,b⟩
theorem Wb(b:isAggT P t=true){a:Addr}{l:List Value}(e:l.length=P.cellsOf t)(hc:∀ j v,l[j]?=some v->H.cell? (a.add j)=some v){Q:Value->Cells->Prop}{E:Halt->Cells->Prop}(f:Q (.agg l.toArray) H):Qe P (loadVar t a) Q E H:=by
 obtain⟨d,hu,⟨inf,c,g⟩,_⟩:=Hy b;unfold loadVar;rw[lwp_bind,lwp_isAgg_true b];simp only[if_true];simp only[lwp_bind,Q2 c];unfold loadCells;rw[<- g,<- e];refine lwp_loadCells l a 0 #[] H (fun t v hv=>by rw[Nat.zero_add];exact hc t v hv) ?_;rw[Qg];simpa using f
theorem add0(b off:Nat)(j:Nat):(Addr.add ⟨b,off,none⟩ j)=⟨b,off+j,none⟩:=by
 unfold Addr.add;split<;>simp_all
theorem Sim.privCell(s:Sim σ ro PB e tmps hp)(a:j<4096)(d:e.get (pkey b j)=some (.val v)):hp.cell? ⟨σ b,j,none⟩=some v:=by
 obtain⟨c,el,h1,h2⟩:=s.cell (pkey b j) v Wf d;rw[Ji a]at h1;rw[Uf a]at h2;simp[Cells.cell?,h1,h2]
theorem lwp_privLoad(s:Sim σ ro PB e tmps hp)(n:Disj h.get hp)(g:privLoad P e b j t=some v){Q:Value->Cells->Prop}{E:Halt->Cells->Prop}(o:Q v (h.get.add hp)) :
  Qe P (loadVar t ⟨σ b,j,none⟩) Q E (h.get.add hp):=by
 have d:∀ {a:Addr} {v:Value},hp.cell? a=some v->(h.get.add hp).cell? a=some v:=by
  intro a v hc;unfold Cells.cell? at hc ⊢;split at hc
  ·rename_i m c el u k;rw[Q3 n k];exact hc
  ·rename_i m c el k;rw[Q3 n k];exact hc
  ·cases hc
 unfold privLoad at g;split at g
 ·rename_i r hu hle;have hle:=Nat.le_of_ble_eq_true hle;split at g
  ·rename_i f;split at g
   ·rename_i l i;cases g;obtain⟨h1,h2⟩:=privCells_spec _ _ _ i;refine Wb f h1 (fun t v hv=>?_) o;rw[add0];have q:t<l.length:=by
     rcases Nat.lt_or_ge t l.length with h|h
     ·exact h
     ·rw[List.getElem?_eq_none h]at hv;cases hv
    exact d (s.privCell (by omega) (h2 t v hv))
   ·cases g
  ·rename_i f;split at g
   ·rename_i v p;cases g;exact Wa hu f (d (s.privCell (by omega) p)) o
   ·cases g
 ·cases g
theorem kindsF_some:∀ {d:Nat} {t:TypeId} {b:List Kind},kindsF P d t=some b->∃ a,P.underlying t=some a:=by
 intro d t b h;cases d with
 | zero=>simp[kindsF]at h
 | succ d =>
  rw[kindsF]at h;cases hu:P.underlying t with
  | none=>rw[hu]at h;cases h
  | some a=>exact⟨a,rfl⟩
theorem opdVal(s:Sim σ ro PB e tmps hp){fr:Frame}(a:fr.tmps=tmps):∀ x v,opdA e x=some (.val v)->fr.eval x=v:=by
 intro x v b;have:=s.eval (fn:=⟨0,.normal,by simp⟩) (ds:=[]) (rd:=none) (k:=[]) b (by simp);cases x<;>simp only[Frame.eval,mkF,conc]at this ⊢<;>first|exact this|(rw[a];exact this)
theorem Ks{α β:Type}(f:α->β)(a:Array α){l:List β}(h:a.toList.map f=l):a.map f=l.toArray:=by
 apply Array.ext';simp[<- h]
theorem Y6(p:ops[i]?=some o)(b:∀ d,o.dst=some d->d<tmps.size/\d<4096)(s:Sim σ ro PB e tmps hp)(l:Disj h.get hp){S:Sem Unit}
 (g:(T.sem q (do S;pure undef) fun _=>kE (setD e o.dst (.val undef))).wp X P Q h)
 (n:Behind X P R fn ds rd cs (.inRegion ops rest::k) o.dst.toList ro PB σ tmps hp kE Q) :
  Qe P (do S;pure .skip) (fun nx h'=>Nx P R (mkF fn ds rd tmps (.inRegion ops (i::rest)::k)) cs { h.add hp with get:=h' } nx) (fun _ _=>False) (h.add hp).get:=by
 simp only[T.wp,lwp_bind,Qg]at g;rw[lwp_bind];refine Q7 S (Ki S g l) ?_ ?_
 ·rintro v c ⟨h',j,rfl,f⟩;exact Zf (h':={ h with get:=h' }) p b s j (a:=.val undef) (fun _=>rfl) f.2 n
 ·rintro r c ⟨_,_,_,m⟩;exact m.elim
theorem lwp_eqGuard{b:Value}{Q:Unit->Cells->Prop}{E:Halt->Cells->Prop}(c:(∃ k m k' n,a=.int k m/\b=.int k' n)\/(∃ m n,a=.bool m/\b=.bool n))(d:Q () H):Qe P (eqGuard op t x y a b) Q E H:=by
 rcases c with⟨k,m,k',n,rfl,rfl⟩|⟨m,n,rfl,rfl⟩<;>(unfold eqGuard;cases op<;>exact d)
theorem unCmp_wp{X:XP}{k:Value->T}{Q:Leaf->LH->Prop}{h:LH}(hw:(Uk op a v k).wp X P Q h):(k v).wp X P Q h:=by
 unfold Uk at hw;split at hw<;>first
  | (cases v<;>first|exact hw|exact hw.elim)
  | skip
 ·split at hw
  ·cases v<;>first|exact hw|exact hw.elim
  ·exact hw
 all_goals exact hw
theorem binT_sound{b:Value}(D:ops[i]?=some o)(g:∀ d,o.dst=some d->d<tmps.size/\d<4096)(s:Sim σ ro PB e tmps hp)(B:Disj h.get hp)
 (c:(binT P q op t x y a b fun v=>kE (setD e o.dst (.val v))).wp X P Q h)
 (C:Behind X P R fn ds rd cs (.inRegion ops rest::k) o.dst.toList ro PB σ tmps hp kE Q) :
    Qe P (do pure (.value (<- (do eqGuard op t x y a b;binOp op t a b)))) (fun nx h'=>Nx P R (mkF fn ds rd tmps (.inRegion ops (i::rest)::k)) cs { h.add hp with get:=h' } nx) (fun _ _=>False) (h.add hp).get:=by
  have gen:(T.sem q (do eqGuard op t x y a b;binOp op t a b) fun v=>Uk op a v fun v=>kE (setD e o.dst (.val v))).wp X P Q h->Qe P (do pure (.value (<- (do eqGuard op t x y a b;binOp op t a b)))) (fun nx h'=>Nx P R (mkF fn ds rd tmps (.inRegion ops (i::rest)::k)) cs { h.add hp with get:=h' } nx) (fun _ _=>False) (h.add hp).get :=
    fun c=>Jk D g s B c (fun v h' G=>⟨.val v,fun _=>rfl,unCmp_wp G.2⟩) C
  have pure':∀ v:Value,(kE (setD e o.dst (.val v))).wp X P Q h->((∃ k m k' n,a=.int k m/\b=.int k' n)\/(∃ m n,a=.bool m/\b=.bool n))->(∀ H,Qe P (binOp op t a b) (fun E h'=>E=v/\h'=H) (fun _ _=>False) H) ->
      Qe P (do pure (.value (<- (do eqGuard op t x y a b;binOp op t a b)))) (fun nx h'=>Nx P R (mkF fn ds rd tmps (.inRegion ops (i::rest)::k)) cs { h.add hp with get:=h' } nx) (fun _ _=>False) (h.add hp).get:=by
    intro v c f hb;refine Jg D g s B (a:=.val v) (v:=v) (fun _=>rfl) c C ?_;rw[lwp_bind,lwp_bind];refine lwp_eqGuard f ?_;refine Q7 _ (hb _) ?_ (fun _ _ h=>h);rintro E h' ⟨rfl,rfl⟩;exact⟨rfl,rfl⟩
  cases a<;>cases b<;>first
    | exact gen c
    | skip
  case bool.bool m n =>
    have f:(∃ k l k' p,Value.bool m=.int k l/\Value.bool n=.int k' p)\/(∃ l p,Value.bool m=.bool l/\Value.bool n=.bool p):=.inr ⟨_,_,rfl,rfl⟩;simp only[binT]at c;split at c
    · rename_i hb
      obtain⟨d,hu⟩ : ∃ d,P.underlying t=some d:=by
        unfold isBoolT at hb;cases hu:P.underlying t with
        | none=>rw[hu]at hb;cases hb
        | some d=>exact⟨d,rfl⟩
      have w:d=.bool:=by
        unfold isBoolT at hb;rw[hu]at hb;cases d<;>first|rfl|cases hb
      subst w;refine pure' _ c f fun H=>?_;obtain⟨F,j⟩ : ∃ d,Op.maxDepth=d+1:=⟨9999,rfl⟩
      simp only[binOp,Op.equal,lwp_bind,j];simp only[Op.equalIn,lwp_bind,Qd hu,Qg,and_self]
    · rename_i hb
      obtain⟨d,hu⟩ : ∃ d,P.underlying t=some d:=by
        unfold isBoolT at hb;cases hu:P.underlying t with
        | none=>rw[hu]at hb;cases hb
        | some d=>exact⟨d,rfl⟩
      have w:d=.bool:=by
        unfold isBoolT at hb;rw[hu]at hb;cases d<;>first|rfl|cases hb
      subst w;refine pure' _ c f fun H=>?_;obtain⟨F,j⟩ : ∃ d,Op.maxDepth=d+1:=⟨9999,rfl⟩
      simp only[binOp,Op.equal,lwp_bind,j];simp only[Op.equalIn,lwp_bind,Qd hu,Qg,and_self]
    · exact c.elim
  case int.int ka m kb n =>
    have f:(∃ k l k' p,Value.int ka m=.int k l/\Value.int kb n=.int k' p)\/(∃ l p,Value.int ka m=.bool l/\Value.int kb n=.bool p):=.inl ⟨_,_,_,_,rfl,rfl⟩;simp only[binT]at c;split at c
    · obtain⟨A,c⟩:=c
      refine pure' _ c f fun H=>?_;simp only[binOp,Op.shift,if_neg (show ¬ n<0 by omega)];exact⟨rfl,rfl⟩
    · obtain⟨A,c⟩:=c
      refine pure' _ c f fun H=>?_;simp only[binOp,Op.shift,if_neg (show ¬ n<0 by omega)];exact⟨rfl,rfl⟩
    · split at c
      · rename_i r u z
        have:=of_decide_eq_true z;subst this;cases op<;>simp only[intOp]at c<;>first
          | exact c.elim
          | exact absurd rfl r
          | exact absurd rfl u
          | (refine pure' _ c f fun H=>?_
             simp only[binOp,ne_eq,not_true_eq_false,if_false,Op.intArith,Op.intBits,Op.intCmp];exact⟨rfl,rfl⟩)
          | (obtain⟨A,c⟩:=c
             refine pure' _ c f fun H=>?_;simp only[binOp,ne_eq,not_true_eq_false,if_false,Op.intDiv,if_neg A];exact⟨rfl,rfl⟩)
      · exact c.elim
theorem lwp_mapM_places{E:Halt->Cells->Prop}:∀ (fs:List Field) (Q:List (Nat×Nat)->Cells->Prop),(fs.all fun f=>(P.info? f.type).isSome)=true->Q (fs.map fun f=>(f.offset,P.cellsOf f.type)) H ->
  Qe P (fs.mapM fun f=>do pure (f.offset,<- sizeOf f.type)) Q E H:=by
 intro fs
 induction fs with
 | nil=>intro Q _ b;exact b
 | cons f fs d =>
  intro Q a b;simp only[List.all_cons,Bool.and_eq_true]at a;obtain⟨inf,c⟩:=Option.isSome_iff_exists.1 a.1;rw[List.mapM_cons,lwp_bind,lwp_bind,Q2 c,Qg,lwp_bind];refine d _ a.2 ?_;rw[Qg];simpa[Program.cellsOf,c] using b
theorem lwp_build{l:List (Nat×Value)}(hb:buildV P t l=some v){Q:Value->Cells->Prop}{E:Halt->Cells->Prop}(k:Q v H):Qe P (Instr.build t l.toArray) Q E H:=by
 unfold buildV at hb;split at hb
 ·rename_i z fs a hu;split at hb
  ·rename_i g;obtain⟨inf,b,e⟩ : ∃ inf,P.info? t=some inf/\inf.zero=some z:=by
    unfold zerosOf at a;cases b:P.info? t with
    | none=>rw[b]at a;cases a
    | some inf=>rw[b]at a;exact⟨inf,rfl,a⟩
   unfold Instr.build;rw[lwp_bind,Ze b e,lwp_bind,Qd hu];simp only;rw[lwp_bind,Array.mapM_eq_mapM_toList,<- bind_pure_comp,lwp_bind];refine lwp_mapM_places fs.toList _ g ?_;rw[Qg];cases d:Instr.fill (fun i:Nat=>(fs[i]?).map fun (f:Field)=>(f.offset,P.cellsOf f.type)) z.cells l with
   | none=>rw[d]at hb;cases hb
   | some cells =>
    rw[d]at hb;cases hb;have m:(fun i:Nat=>((List.map (fun f:Field=>(f.offset,P.cellsOf f.type)) fs.toList).toArray)[i]?)=(fun i:Nat=>(fs[i]?).map fun (f:Field)=>(f.offset,P.cellsOf f.type)):=by
     funext i;simp
    rw[m];simp only[d];exact k
  ·cases hb
 ·rename_i z n el a hu;split at hb
  ·rename_i c h;obtain⟨inf,b,e⟩ : ∃ inf,P.info? t=some inf/\inf.zero=some z:=by
    unfold zerosOf at a;cases b:P.info? t with
    | none=>rw[b]at a;cases a
    | some inf=>rw[b]at a;exact⟨inf,rfl,a⟩
   unfold Instr.build;rw[lwp_bind,Ze b e,lwp_bind,Qd hu];simp only;rw[lwp_bind,Q2 h];cases d:Instr.fill (fun j=>some (j*c.size,c.size)) z.cells l with
   | none=>rw[d]at hb;cases hb
   | some cells =>
    rw[d]at hb;cases hb;simp only[d];exact k
  ·cases hb
 ·cases hb
end
end
section
section
variable {X:XP} {C:Ctx} {main:Bool} {R:Goroutine->LH->Prop}
variable {o:Oper} {ops:Array Oper} {i:Nat} {rest:List Nat} {k:List Item} {cs:List Frame} {fn:FI} {ds:List Deferred} {rd:Option Nat}
 {σ:Nat->Nat} {ro:List Nat} {PB:Nat->Prop} {e:Env} {tmps:Array Value} {hp:Cells} {h:LH} {kE:Env->T} {Q:Leaf->LH->Prop} {q:Bool}
variable {P:Program}{t:TypeId}{w:World}{es:Array Event}
theorem onesT_wp{l:List Value}{kk:T}{h:LH}(hw:(onesT l kk).wp X P Q h):(∀ v∈l,isOne v=true)/\kk.wp X P Q h:=by
 induction l with
 | nil=>exact⟨by simp,hw⟩
 | cons v l b =>
  rw[onesT]at hw;cases hv:isOne v with
  | false=>rw[hv]at hw;exact hw.elim
  | true =>
   rw[hv]at hw;obtain⟨h1,h2⟩:=b hw;refine⟨fun w a=>?_,h2⟩;rcases List.mem_cons.1 a with rfl|a
   ·exact hv
   ·exact h1 w a
theorem runT_underlying{β:Type}{d:TypeDesc}(hu:P.underlying t=some d){f:TypeDesc->Sem β}:(underlying t >>= f).runT P w es=(f d).runT P w es:=by
 show ((match P.underlying t with | some d => pure d | none => stuck "no such type" : Sem TypeDesc) >>= f).runT P w es = _
 rw[hu];rfl
theorem runT_zeroValue{β:Type}{i:TypeInfo}{z:Value}(hi:P.info? t=some i)(hz:i.zero=some z){f:Value->Sem β}:(zeroValue t >>= f).runT P w es=(f z).runT P w es:=by
 show (((match P.info? t with | some i => pure i | none => stuck "no such type" : Sem TypeInfo) >>= fun i => (match i.zero with | some v => pure v | none => unsupported (.resourceLimit "a value of more than 2^22 cells") : Sem Value)) >>= f).runT P w es = _
 rw[hi]
 show ((match i.zero with | some v => pure v | none => unsupported (.resourceLimit "a value of more than 2^22 cells") : Sem Value) >>= f).runT P w es = _
 rw[hz];rfl
theorem Ue{f:FuncId}:seen P f #[]=#[]:=by simp[seen]
theorem unNext_wp{v:Value}{k:Value->T}{Q:Leaf->LH->Prop}{h:LH}(hw:(Yw v k).wp X P Q h):(k v).wp X P Q h:=by
 unfold Yw at hw;cases v<;>simp only[T.unTup]at hw<;>first|exact hw.elim|skip
 rename_i cs;have e:cs=cs.toList.toArray:=by simp
 cases a:cs.toList with
 | nil=>rw[a]at hw;exact hw.elim
 | cons b l =>
  rw[a]at hw e;simp only[T.unCons]at hw;cases b<;>simp only[T.unB]at hw<;>first|exact hw.elim|skip
  rename_i b;cases b with
  | false =>
   obtain⟨rfl,hw⟩:=Gs hw;rw[e];exact hw
  | true =>
   have:=D5 hw;rw[e];exact this
theorem selT_wp{C:Ctx}{e:Env}{h:LH}:∀ {l:List SelectCase} {kk:List CommCase->List Shape->T},(selT C e l kk).wp X P Q h ->
  ∃ cs b,(∀ (ρ:Operand->Value),(∀ x v,opdA e x=some (.val v)->ρ x=v)->∀ (w:World),(do
   let cases <- l.toArray.mapM fun s=>do pure { chan:=ρ s.chan,send:=s.send.map ρ,zero:=<- zeroValue s.elem:CommCase }
   pure (.comm cases true .select):Sem Next).runT C.P w #[]=(.ok (.comm cs.toArray true .select) w,#[]))/\(kk cs b).wp X P Q h:=by
 have key:∀ {l:List SelectCase} {kk:List CommCase->List Shape->T},(selT C e l kk).wp X P Q h ->
  ∃ cs b,(∀ (ρ:Operand->Value),(∀ x v,opdA e x=some (.val v)->ρ x=v)->∀ {β:Type} (f:List CommCase->Sem β) (w:World),((l.mapM fun s=>do pure { chan:=ρ s.chan,send:=s.send.map ρ,zero:=<- zeroValue s.elem:CommCase }) >>= f).runT C.P w #[]=(f cs).runT C.P w #[])/\(kk cs b).wp X P Q h:=by
  intro l
  induction l with
  | nil=>intro kk hw;exact⟨[],[],fun ρ _ β f w=>by simp,hw⟩
  | cons s l n =>
   intro kk hw;rw[selT]at hw;split at hw
   ·rename_i z sh k d m;obtain⟨c,hc,hw⟩:=Qq hw;obtain⟨inf,g,i⟩ : ∃ inf,C.P.info? s.elem=some inf/\inf.zero=some z:=by
     unfold zerosOf at d;cases g:C.P.info? s.elem with
     | none=>rw[g]at d;cases d
     | some inf=>rw[g]at d;exact⟨inf,rfl,d⟩
    obtain⟨cs,b,h1,h2⟩:=n hw;refine⟨{ chan:=c,send:=none,zero:=z }::cs,sh::b,fun ρ a β f w=>?_,h2⟩;rw[List.mapM_cons];simp only[bind_assoc,pure_bind];rw[runT_zeroValue g i,h1 ρ a,k,a _ _ hc];rfl
   ·exact hw.elim
 intro l kk hw;obtain⟨cs,b,h1,h2⟩:=key hw;refine⟨cs,b,fun ρ a w=>?_,h2⟩;have j:∀ (f:SelectCase->Sem CommCase),(l.toArray.mapM f >>= fun cases=>(pure (.comm cases true .select):Sem Next))=(l.mapM f >>= fun x=>pure (.comm x.toArray true .select)):=by
  intro f;rw[Array.mapM_eq_mapM_toList];simp only[<- bind_pure_comp,bind_assoc,pure_bind]
 have:=h1 ρ a (fun l=>(pure (.comm l.toArray true .select):Sem Next)) w;rw[j];exact this
theorem Up{fin:Bool}(hX:XOK X)(M:Closed X C.P main R)(l0:X.hat C.P fn ds rd cs)(p0:fin=true->rest=[]/\k=[]/\ds=[]/\rd=none/\fn.kd=.deferred/\∃ fd,C.P.funcs[fn.fn]?=some fd/\fd.results=#[])(E:ops[i]?=some o)(hw:Region.wanted o (yielded ops tmps)=true)(B:∀ d,o.dst=some d->d<tmps.size/\d<4096)
 (s:Sim σ ro PB e tmps hp)(F:Disj h.get hp)(j1:∀ b,PB b->∃ x,hp b=some x)(u:(opT C fin ro q o e kE).wp X C.P Q h)
 (I:Behind X C.P R fn ds rd cs (.inRegion ops rest::k) o.dst.toList ro PB σ tmps hp kE Q) :
  R (G (mkF fn ds rd tmps (.inRegion ops (i::rest)::k)) cs) (h.add hp):=by
 have hE:=fun (x:Operand) (a:AV) (S:opdA e x=some a) (hb:a≠.bad)=>s.eval (fn:=fn) (ds:=ds) (rd:=rd) (k:=.inRegion ops (i::rest)::k) S hb;have K:=opdVal s (fr:=mkF fn ds rd tmps (.inRegion ops (i::rest)::k)) rfl;unfold opT at u;cases D:o.op<;>rw[D]at u<;>simp only at u
 case move x =>
  refine Q5 M.1 E hw (by simp[notDefer,D]) ?_;obtain⟨a,L,u⟩:=Wy u;simp only[execOp,D];refine Jg E B s F (a:=a) (v:=(mkF fn ds rd tmps (.inRegion ops (i::rest)::k)).eval x) (fun hb=>hE x a L hb) u I ?_;exact⟨rfl,rfl⟩
 case assign x =>
  refine Q5 M.1 E hw (by simp[notDefer,D]) ?_;obtain⟨a,L,u⟩:=Wy u;simp only[execOp,D];refine Jg E B s F (a:=a) (v:=(mkF fn ds rd tmps (.inRegion ops (i::rest)::k)).eval x) (fun hb=>hE x a L hb) u I ?_;exact⟨rfl,rfl⟩
 case pick c x y =>
  refine Q5 M.1 E hw (by simp[notDefer,D]) ?_;obtain⟨v,hv,u⟩:=Qq u;cases v<;>simp only[T.unB]at u<;>first|exact u.elim|skip
  rename_i b;simp only[execOp,D];rw[K c _ hv];cases b
  ·obtain⟨a,L,u⟩:=Wy u;refine Jg E B s F (a:=a) (v:=(mkF fn ds rd tmps (.inRegion ops (i::rest)::k)).eval y) (fun hb=>hE y a L hb) u I ?_;exact⟨rfl,rfl⟩
  ·obtain⟨a,L,u⟩:=Wy u;refine Jg E B s F (a:=a) (v:=(mkF fn ds rd tmps (.inRegion ops (i::rest)::k)).eval x) (fun hb=>hE x a L hb) u I ?_;exact⟨rfl,rfl⟩
 case alloc el =>
  refine Q5 M.1 E hw (by simp[notDefer,D]) ?_;simp only[execOp,D];cases hd:o.dst with
  | none=>rw[hd]at u;exact u.elim
  | some d =>
   rw[hd]at u;cases N:zerosOf C.P el with
   | none=>rw[N]at u;exact u.elim
   | some z =>
    rw[N]at u;obtain⟨inf,U,z0⟩ : ∃ inf,C.P.info? el=some inf/\inf.zero=some z:=by
     unfold zerosOf at N;cases U:C.P.info? el with
     | none=>rw[U]at N;cases N
     | some inf=>rw[U]at N;exact⟨inf,rfl,N⟩
    simp only at u;rw[lwp_bind];unfold Instr.alloc;rw[lwp_bind,Ze U z0];simp only;rw[lwp_bind];unfold newVar newRow;rw[lwp_bind];intro r hr;have a0:h.get r=none:=by
     cases S:h.get r with
     | none=>rfl
     | some x=>rw[show (h.add hp).get r=some x from Qi S]at hr;cases hr
    have q0:hp r=none:=by
     have:=hr;rw[show (h.add hp).get r=hp r from Qk a0]at this;exact this
    show Nx C.P R _ cs { h.add hp with get:=(h.get.add hp).upd r (true,.cells z.cells el) } (.value (.pointer (some ⟨r,0,none⟩)));obtain⟨h1,h2⟩:=B d hd;cases hm:memN C.priv d with
    | true =>
     rw[hm]at u;simp only at u;split at u
     ·rename_i s0 hle;have Y:z.cells.size<=4095:=by
       have:=Nat.le_of_ble_eq_true hle;rw[Wh,Wx]at this;simpa using this
      obtain⟨s',f'⟩:=s.make (v:=z) (el:=el) h1 h2 (Jq.1 s0) q0 j1 Y;show R (G ((mkF fn ds rd tmps (.inRegion ops (i::rest)::k)).finish _) cs) _;rw[D1 E,hd];have e2:({ h.add hp with get:=(h.get.add hp).upd r (true,.cells z.cells el) }:LH)=h.add (hp.upd r (true,.cells z.cells el (0,0))):=by
       unfold LH.add;simp only[LH.mk.injEq,and_self,and_true];funext x;unfold Cells.upd Cells.add;by_cases W:x=r
       ·subst W;simp[a0]
       ·simp[W]
      rw[e2];refine I _ _ _ _ h s' ?_ (by rw[hd];exact f') u;intro x;by_cases W:x=r
      ·subst W;exact .inl a0
      ·rw[Qp _ _ W];exact F x
     ·exact u.elim
    | false =>
     rw[hm]at u;simp only[T.wp]at u;have u:=u r a0;have e2:({ h.add hp with get:=(h.get.add hp).upd r (true,.cells z.cells el) }:LH)=({ h with get:=h.get.upd r (true,.cells z.cells el) }:LH).add hp:=by
      unfold LH.add;simp only[LH.mk.injEq,and_self,and_true];funext x;unfold Cells.upd Cells.add;by_cases W:x=r<;>simp[W]
     show R (G ((mkF fn ds rd tmps (.inRegion ops (i::rest)::k)).finish _) cs) _;rw[e2];refine Zf (h':={ h with get:=h.get.upd r (true,.cells z.cells el) }) E B s ?_ (a:=.val (.pointer (some ⟨r,0,none⟩))) (fun _=>rfl) (by rw[hd];exact u) I;intro x;by_cases W:x=r
     ·subst W;exact .inr q0
     ·show Cells.upd h.get r (true,.cells z.cells el) x=none\/hp x=none;rw[Qp _ _ W];exact F x
 case box el x =>
  refine Q5 M.1 E hw (by simp[notDefer,D]) ?_;simp only[execOp,D];obtain⟨z,N,u⟩:=Qq u;rw[K x _ N];cases hd:o.dst with
  | none=>rw[hd]at u;exact u.elim
  | some d =>
   rw[hd]at u;simp only at u;rw[lwp_bind];unfold Instr.box;rw[lwp_bind];unfold newVar newRow;rw[lwp_bind];intro r hr;have a0:h.get r=none:=by
    cases S:h.get r with
    | none=>rfl
    | some x=>rw[show (h.add hp).get r=some x from Qi S]at hr;cases hr
   have q0:hp r=none:=by
    have:=hr;rw[show (h.add hp).get r=hp r from Qk a0]at this;exact this
   show Nx C.P R _ cs { h.add hp with get:=(h.get.add hp).upd r (true,.cells z.cells el) } (.value (.pointer (some ⟨r,0,none⟩)));obtain⟨h1,h2⟩:=B d hd;cases hm:memN C.priv d with
   | true =>
    rw[hm]at u;simp only at u;split at u
    ·rename_i s0 hle;have Y:z.cells.size<=4095:=by
      have:=Nat.le_of_ble_eq_true hle;rw[Wh,Wx]at this;simpa using this
     obtain⟨s',f'⟩:=s.make (v:=z) (el:=el) h1 h2 (Jq.1 s0) q0 j1 Y;show R (G ((mkF fn ds rd tmps (.inRegion ops (i::rest)::k)).finish _) cs) _;rw[D1 E,hd];have e2:({ h.add hp with get:=(h.get.add hp).upd r (true,.cells z.cells el) }:LH)=h.add (hp.upd r (true,.cells z.cells el (0,0))):=by
      unfold LH.add;simp only[LH.mk.injEq,and_self,and_true];funext x;unfold Cells.upd Cells.add;by_cases W:x=r
      ·subst W;simp[a0]
      ·simp[W]
     rw[e2];refine I _ _ _ _ h s' ?_ (by rw[hd];exact f') u;intro x;by_cases W:x=r
     ·subst W;exact .inl a0
     ·rw[Qp _ _ W];exact F x
    ·exact u.elim
   | false =>
    rw[hm]at u;simp only[T.wp]at u;have u:=u r a0;have e2:({ h.add hp with get:=(h.get.add hp).upd r (true,.cells z.cells el) }:LH)=({ h with get:=h.get.upd r (true,.cells z.cells el) }:LH).add hp:=by
     unfold LH.add;simp only[LH.mk.injEq,and_self,and_true];funext x;unfold Cells.upd Cells.add;by_cases W:x=r<;>simp[W]
    show R (G ((mkF fn ds rd tmps (.inRegion ops (i::rest)::k)).finish _) cs) _;rw[e2];refine Zf (h':={ h with get:=h.get.upd r (true,.cells z.cells el) }) E B s ?_ (a:=.val (.pointer (some ⟨r,0,none⟩))) (fun _=>rfl) (by rw[hd];exact u) I;intro x;by_cases W:x=r
    ·subst W;exact .inr q0
    ·show Cells.upd h.get r (true,.cells z.cells el) x=none\/hp x=none;rw[Qp _ _ W];exact F x
 case nilCheck x =>
  refine Q5 M.1 E hw (by simp[notDefer,D]) ?_;simp only[execOp,D];split at u
  ·rename_i b j S;rw[show (mkF fn ds rd tmps (.inRegion ops (i::rest)::k)).eval x=.pointer (some ⟨σ b,j,none⟩) from hE x _ S (by simp)];exact Jg E B s F (a:=.pp b j) (v:=.pointer (some ⟨σ b,j,none⟩)) (fun _=>rfl) u I ⟨rfl,rfl⟩
  ·rename_i p S;obtain⟨a,rfl,u⟩:=u;rw[K x _ S];exact Jg E B s F (a:=.val (.pointer (some a))) (v:=.pointer (some a)) (fun _=>rfl) u I ⟨rfl,rfl⟩
  ·exact u.elim
 case makeFunc f fs a1 =>
  refine Q5 M.1 E hw (by simp[notDefer,D]) ?_;simp only[execOp,D];obtain⟨l,hl,u⟩:=H9 u;obtain⟨m,hm,u⟩:=H9 u;rw[Ks _ fs (hl _ K),Ks _ a1 (hm _ K)];exact Jg E B s F (a:=.val (.func f l.toArray m.toArray)) (v:=.func f l.toArray m.toArray) (fun _=>rfl) u I ⟨rfl,rfl⟩
 case makeInterface t x =>
  refine Q5 M.1 E hw (by simp[notDefer,D]) ?_;simp only[execOp,D];obtain⟨z,N,u⟩:=Qq u;rw[K x _ N];cases hu:C.P.underlying t with
  | none=>rw[hu]at u;exact u.elim
  | some d =>
   rw[hu]at u;have:(kE (setD e o.dst (.val (.iface t z)))).wp X C.P Q h/\∀ ms,d≠.interface ms:=by
    cases d<;>first|exact⟨u,by simp⟩|exact u.elim
   refine Jg E B s F (a:=.val (.iface t z)) (v:=.iface t z) (fun _=>rfl) this.1 I ?_;rw[lwp_bind];unfold Instr.makeInterface;rw[lwp_bind,Qd hu];cases d<;>first|exact⟨rfl,rfl⟩|exact absurd rfl (this.2 _)
 case extract x j =>
  refine Q5 M.1 E hw (by simp[notDefer,D]) ?_;simp only[execOp,D];split at u
  ·rename_i vs S;split at u
   ·rename_i v hv;rw[K x _ S];refine Jg E B s F (a:=.val v) (v:=v) (fun _=>rfl) (shaped_wp u) I ?_;simp only[Instr.extract,hv];exact⟨rfl,rfl⟩
   ·exact u.elim
  ·exact u.elim
 case fieldAddr st x f =>
  refine Q5 M.1 E hw (by simp[notDefer,D]) ?_;simp only[execOp,D];have key:∀ off,offOf C.P st f=some off->∀ a:Addr,∀ (H:Cells),Qe C.P (do pure (Next.value (<- Instr.fieldAt st (.pointer (some a)) f))) (fun nx h'=>nx=Next.value (.pointer (some (a.add off)))/\h'=H) (fun _ _=>False) H:=by
   intro off O a H;unfold offOf at O;split at O
   ·rename_i fs hu;split at O
    ·rename_i fd o0;split at O
     ·cases O
     ·rename_i n hn;cases O;have m1:∃ inf,C.P.info? fd.type=some inf/\inf.size=n+1:=by
       unfold Program.cellsOf at hn;cases U:C.P.info? fd.type with
       | none=>rw[U]at hn;cases hn
       | some inf=>rw[U]at hn;exact⟨inf,rfl,hn⟩
      obtain⟨inf,U,Y⟩:=m1;rw[lwp_bind];unfold Instr.fieldAt;rw[lwp_bind,Qd hu];simp only[o0,Instr.sureAddr,lwp_bind,Qg,fieldPlace,Q2 U];rw[if_neg (by omega)];exact⟨rfl,rfl⟩
    ·cases O
   ·cases O
  split at u
  ·rename_i off b j O S;rw[show (mkF fn ds rd tmps (.inRegion ops (i::rest)::k)).eval x=.pointer (some ⟨σ b,j,none⟩) from hE x _ S (by simp)];refine Jg E B s F (a:=.pp b (j+off)) (v:=.pointer (some (Addr.add ⟨σ b,j,none⟩ off))) (fun _=>by rw[add0];rfl) u I (key off O _ _)
  ·rename_i off a O S;rw[K x _ S];exact Jg E B s F (a:=.val (.pointer (some (a.add off)))) (v:=.pointer (some (a.add off))) (fun _=>rfl) u I (key off O _ _)
  ·exact u.elim
 case indexAddr t x j =>
  refine Q5 M.1 E hw (by simp[notDefer,D]) ?_;simp only[execOp,D];split at u
  ·rename_i el p n c kk m hu S hj;split at u
   ·rename_i z N;obtain⟨⟨x0,y0⟩,a,rfl,u⟩:=u;rw[K x _ S,K j _ hj];obtain⟨inf,U,Y⟩ : ∃ inf,C.P.info? el=some inf/\inf.size=z:=by
     unfold sizeT at N;cases U:C.P.info? el with
     | none=>rw[U]at N;cases N
     | some inf=>rw[U]at N;cases N;exact⟨inf,rfl,rfl⟩
    refine Jg E B s F (a:=.val (.pointer (some (a.add (m.toNat*z))))) (v:=.pointer (some (a.add (m.toNat*z)))) (fun _=>rfl) u I ?_;rw[lwp_bind];unfold Instr.indexAt;simp only[asIntOf,lwp_bind,Qg,Qd hu];rw[if_pos ⟨x0,y0⟩];simp only[lwp_bind,Qg,Q2 U,Y,and_self]
   ·exact u.elim
  ·rename_i n el a kk m hu S hj;split at u
   ·rename_i z N;obtain⟨⟨x0,y0⟩,u⟩:=u;rw[K x _ S,K j _ hj];obtain⟨inf,U,Y⟩ : ∃ inf,C.P.info? el=some inf/\inf.size=z:=by
     unfold sizeT at N;cases U:C.P.info? el with
     | none=>rw[U]at N;cases N
     | some inf=>rw[U]at N;cases N;exact⟨inf,rfl,rfl⟩
    refine Jg E B s F (a:=.val (.pointer (some (a.add (m.toNat*z))))) (v:=.pointer (some (a.add (m.toNat*z)))) (fun _=>rfl) u I ?_;rw[lwp_bind];unfold Instr.indexAt;simp only[asIntOf,lwp_bind,Qg,Qd hu,Instr.sureAddr];rw[if_pos ⟨x0,y0⟩];simp only[lwp_bind,Qg,Q2 U,Y,and_self]
   ·exact u.elim
  ·exact u.elim
 case load t x =>
  refine Q5 M.1 E hw (by simp[notDefer,D]) ?_;simp only[execOp,D];split at u
  ·rename_i b j S;rw[show (mkF fn ds rd tmps (.inRegion ops (i::rest)::k)).eval x=.pointer (some ⟨σ b,j,none⟩) from hE x _ S (by simp)];split at u
   ·rename_i v hl;refine Jg E B s F (a:=.val v) (v:=v) (fun _=>rfl) u I ?_;rw[lwp_bind];unfold Instr.loadAt;simp only[Instr.sureAddr,lwp_bind,Qg];exact lwp_privLoad s F hl ⟨rfl,rfl⟩
   ·exact u.elim
  ·rename_i a S;rw[K x _ S];split at u
   ·rename_i ks V n1;split at u
    ·rename_i hlen;obtain⟨l,h1,h2,u⟩:=loadL_wp u;refine Jg E B s F (a:=.val (.agg l.toArray)) (v:=.agg l.toArray) (fun _=>rfl) u I ?_;rw[lwp_bind];unfold Instr.loadAt;simp only[Instr.sureAddr,lwp_bind,Qg];refine Wb V (by rw[h1,<- Wh];exact Jc hlen) (fun t v hv=>?_) ⟨rfl,rfl⟩;have:=h2 t v hv;rw[Nat.zero_add]at this;exact Qo (Zm _ _) this
    ·exact u.elim
   ·rename_i kd V n1;obtain⟨v,h1,u⟩:=Yo u;obtain⟨dd,hu⟩:=kindsF_some n1;refine Jg E B s F (a:=.val v) (v:=v) (fun _=>rfl) u I ?_;rw[lwp_bind];unfold Instr.loadAt;simp only[Instr.sureAddr,lwp_bind,Qg];exact Wa hu V (Qo (Zm _ _) h1) ⟨rfl,rfl⟩
   ·exact u.elim
  ·exact u.elim
 case store t a x =>
  refine Q5 M.1 E hw (by simp[notDefer,D]) ?_;simp only[execOp,D];obtain⟨v,hv,u⟩:=Qq u;rw[K x _ hv];cases N:sizeT C.P t with
  | none=>rw[N]at u;exact u.elim
  | some z =>
   rw[N]at u;obtain⟨inf,U,Y⟩ : ∃ inf,C.P.info? t=some inf/\inf.size=z:=by
    unfold sizeT at N;cases U:C.P.info? t with
    | none=>rw[U]at N;cases N
    | some inf=>rw[U]at N;cases N;exact⟨inf,rfl,rfl⟩
   simp only at u;split at u
   ·rename_i hlen;have hlen:=Jc hlen;rw[Wh,Wx]at hlen;have x1:¬ (v.cells.size≠inf.size):=by rw[Y,<- hlen];simp
    have fin:∀ (A:Addr) (H:Cells) (Qf:Unit->Cells->Prop),Qe C.P (storeCells A (cellsL v) 0) Qf (fun _ _=>False) H->Qe C.P (do Instr.storeAt t (.pointer (some A)) v;pure Next.skip) (fun nx h'=>nx=Next.skip/\Qf () h') (fun _ _=>False) H:=by
     intro A H Qf hs;rw[lwp_bind];unfold Instr.storeAt;rw[lwp_bind];simp only[Instr.sureAddr,Qg,storeVar,lwp_bind,Q2 U];rw[if_neg x1,<- Wx];refine Q7 _ hs (fun _ _ h=>⟨trivial,h⟩) (fun _ _ h=>h)
    split at u
    ·rename_i b j L;rw[show (mkF fn ds rd tmps (.inRegion ops (i::rest)::k)).eval a=.pointer (some ⟨σ b,j,none⟩) from hE a _ L (by simp)];split at u
     ·rename_i l s0 hle q1;obtain⟨o1,u⟩:=onesT_wp u;have hle:=Nat.le_of_ble_eq_true hle;have w0:(cellsL v).length=z:=by rw[Wx];exact hlen
      rw[<- w0]at q1 hle;refine Q7 _ (fin _ _ (fun _ H=>Nx C.P R (mkF fn ds rd tmps (.inRegion ops (i::rest)::k)) cs { h.add hp with get:=H } .skip) ?_) ?_ (fun _ _ h=>h)
      ·refine s.store F (Jq.1 s0) q1 hle o1 ?_;intro l2 s' g0 f';show R (G ((mkF fn ds rd tmps (.inRegion ops (i::rest)::k)).finish undef) cs) (h.add l2);refine Zf (h':=h) E B s' g0 (a:=.val undef) (fun _=>rfl) u ?_;intro z1 n2 y1 p1 g2 m2 g1 a2 l1;exact I z1 n2 y1 p1 g2 m2 g1 (f'.trans a2 (by simp) (fun _ h=>h)) l1
      ·rintro nx h' ⟨rfl,hq⟩;exact hq
     ·exact u.elim
    ·rename_i a' L;rw[K a _ L];have:=storeL_wp u;have:=Q7 _ (Ki _ this F) (fun _ _ h=>h) (E':=fun _ _=>False) (by rintro _ _ ⟨_,_,_,hf⟩;exact hf.elim);refine Q7 _ (fin _ _ _ this) ?_ (fun _ _ h=>h);rintro nx m0 ⟨rfl,h',d',rfl,Z⟩;exact Zf (h':={ h with get:=h' }) E B s d' (a:=.val undef) (v:=undef) (fun _=>rfl) Z I
    ·exact u.elim
   ·exact u.elim
 case binOp op t x y yt =>
  refine Q5 M.1 E hw (by simp[notDefer,D]) ?_;simp only[execOp,D];obtain⟨a,L,u⟩:=Qq u;obtain⟨b,hb,u⟩:=Qq u;rw[K x _ L,K y _ hb];split at u
  ·exact Jk E B s F u (fun v h' J=>⟨.val v,fun _=>rfl,unCmp_wp (k:=fun v=>kE (setD e o.dst (.val v))) J.2⟩) I
  ·exact binT_sound E B s F u I
 case unOp op t x =>
  refine Q5 M.1 E hw (by simp[notDefer,D]) ?_;simp only[execOp,D];obtain⟨a,L,u⟩:=Qq u;rw[K x _ L];cases op<;>cases a<;>simp only at u<;>first
   | exact Jg E B s F (a:=.val (.bool _)) (v:=.bool _) (fun _=>rfl) u I ⟨rfl,rfl⟩
   | exact Jk E B s F u (fun v h' J=>⟨.val v,fun _=>rfl,J.2⟩) I
 case build t ps =>
  refine Q5 M.1 E hw (by simp[notDefer,D]) ?_;simp only[execOp,D];obtain⟨l,hl,u⟩:=withParts_wp u;rw[Ks _ ps (hl _ K)];split at u
  ·split at u
   ·rename_i v hb;refine Jg E B s F (a:=.val v) (v:=v) (fun _=>rfl) u I ?_;rw[lwp_bind];exact lwp_build hb ⟨rfl,rfl⟩
   ·exact u.elim
  ·exact Jk E B s F u (fun v h' J=>⟨.val v,fun _=>rfl,J.2⟩) I
 case buildSlice t n ps =>
  refine Q5 M.1 E hw (by simp[notDefer,D]) ?_;simp only[execOp,D];obtain⟨l,hl,u⟩:=withParts_wp u;rw[Ks _ ps (hl _ K)];exact Jk E B s F u (fun v h' J=>⟨.val v,fun _=>rfl,Kn (kd:=.slice) (k:=fun v=>kE (setD e o.dst (.val v))) J.2⟩) I
 case field t x f =>
  refine Q5 M.1 E hw (by simp[notDefer,D]) ?_;simp only[execOp,D];obtain⟨a,L,u⟩:=Qq u;rw[K x _ L];split at u
  ·rename_i fs a1 hu;split at u
   ·rename_i fd o0;split at u
    ·rename_i V;refine Jg E B s F (a:=.val _) (v:=_) (fun _=>rfl) u I ?_;obtain⟨d,n0,⟨inf,U,N⟩,_⟩:=Hy V;simp only[lwp_bind,Instr.field,Qd hu,o0,asAgg,Qg,part,lwp_isAgg_true V,if_true,Q2 U,N];exact⟨rfl,trivial⟩
    ·rename_i V;split at u
     ·rename_i dd v n0 hv;refine Jg E B s F (a:=.val v) (v:=v) (fun _=>rfl) u I ?_;simp[lwp_bind,Instr.field,Qd hu,o0,asAgg,Qg,part,Z9 n0 V,hv]
     ·exact u.elim
   ·exact u.elim
  ·exact u.elim
 case index t x j =>
  refine Q5 M.1 E hw (by simp[notDefer,D]) ?_;simp only[execOp,D];obtain⟨a,L,u⟩:=Qq u;obtain⟨b,hb,u⟩:=Qq u;rw[K x _ L,K j _ hb];split at u
  ·exact Jk E B s F u (fun v h' J=>⟨.val v,fun _=>rfl,Kn (kd:=.int .u8) (k:=fun v=>kE (setD e o.dst (.val v))) J.2⟩) I
  ·split at u
   ·exact Jk E B s F u (fun v h' J=>⟨.val v,fun _=>rfl,Kn (kd:=.int _) (k:=fun v=>kE (setD e o.dst (.val v))) J.2⟩) I
   ·exact Jk E B s F u (fun v h' J=>⟨.val v,fun _=>rfl,J.2⟩) I
  ·exact Jk E B s F u (fun v h' J=>⟨.val v,fun _=>rfl,J.2⟩) I
 case range t x =>
  refine Q5 M.1 E hw (by simp[notDefer,D]) ?_;simp only[execOp,D];obtain⟨a,L,u⟩:=Qq u;rw[K x _ L];exact Jk E B s F u (fun v h' J=>⟨.val v,fun _=>rfl,Kn (kd:=.ptr) (k:=fun v=>kE (setD e o.dst (.val v))) J.2⟩) I
 case next it str =>
  refine Q5 M.1 E hw (by simp[notDefer,D]) ?_;simp only[execOp,D];obtain⟨a,L,u⟩:=Qq u;rw[K it _ L];exact Jk E B s F u (fun v h' J=>⟨.val v,fun _=>rfl,unNext_wp (k:=fun v=>kE (setD e o.dst (.val v))) J.2⟩) I
 case entry it =>
  refine Q5 M.1 E hw (by simp[notDefer,D]) ?_;simp only[execOp,D];obtain⟨a,L,u⟩:=Qq u;rw[K it _ L];exact Jk E B s F u (fun v h' J=>⟨.val v,fun _=>rfl,Wz (k:=fun v=>kE (setD e o.dst (.val v))) J.2⟩) I
 case makeMap t r =>
  refine Q5 M.1 E hw (by simp[notDefer,D]) ?_;simp only[execOp,D];cases r with
  | none=>exact Jk E B s F u (fun v h' J=>⟨.val v,fun _=>rfl,Kn (kd:=.map) (k:=fun v=>kE (setD e o.dst (.val v))) J.2⟩) I
  | some x =>
   obtain⟨a,L,u⟩:=Qq u;simp only[Option.map_some];rw[K x _ L];exact Jk E B s F u (fun v h' J=>⟨.val v,fun _=>rfl,Kn (kd:=.map) (k:=fun v=>kE (setD e o.dst (.val v))) J.2⟩) I
 case makeChan t x =>
  refine Q5 M.1 E hw (by simp[notDefer,D]) ?_;simp only[execOp,D];obtain⟨a,L,u⟩:=Qq u;rw[K x _ L];exact Jk E B s F u (fun v h' J=>⟨.val v,fun _=>rfl,Kn (kd:=.chan) (k:=fun v=>kE (setD e o.dst (.val v))) J.2⟩) I
 case makeSlice t x y =>
  refine Q5 M.1 E hw (by simp[notDefer,D]) ?_;simp only[execOp,D];obtain⟨a,L,u⟩:=Qq u;obtain⟨b,hb,u⟩:=Qq u;rw[K x _ L,K y _ hb];exact Jk E B s F u (fun v h' J=>⟨.val v,fun _=>rfl,Kn (kd:=.slice) (k:=fun v=>kE (setD e o.dst (.val v))) J.2⟩) I
 case convert a b x =>
  refine Q5 M.1 E hw (by simp[notDefer,D]) ?_;simp only[execOp,D];obtain⟨v,hv,u⟩:=Qq u;rw[K x _ hv];split at u
  ·rename_i dd kk u2 n n0 hu;refine Jg E B s F (a:=.val _) (v:=_) (fun _=>rfl) u I ?_;simp only[lwp_bind,convert,Qd n0,Qd hu];cases dd<;>exact⟨rfl,rfl⟩
  ·rename_i dd sv n0 hu;refine Jg E B s F (a:=.val _) (v:=_) (fun _=>rfl) u I ?_;simp only[lwp_bind,convert,Qd n0,Qd hu];cases dd<;>exact⟨rfl,rfl⟩
  ·exact Jk E B s F u (fun v h' J=>⟨.val v,fun _=>rfl,Kn (kd:=.str) (k:=fun v=>kE (setD e o.dst (.val v))) J.2⟩) I
  ·exact Jk E B s F u (fun v h' J=>⟨.val v,fun _=>rfl,Kn (kd:=.slice) (k:=fun v=>kE (setD e o.dst (.val v))) J.2⟩) I
  ·exact Jk E B s F u (fun v h' J=>⟨.val v,fun _=>rfl,Kn (kd:=.ptr) (k:=fun v=>kE (setD e o.dst (.val v))) J.2⟩) I
  ·exact Jk E B s F u (fun v h' J=>⟨.val v,fun _=>rfl,Kn (kd:=.ptr) (k:=fun v=>kE (setD e o.dst (.val v))) J.2⟩) I
  ·exact Jk E B s F u (fun v h' J=>⟨.val v,fun _=>rfl,J.2⟩) I
 case lookup t m j ok =>
  refine Q5 M.1 E hw (by simp[notDefer,D]) ?_;simp only[execOp,D];obtain⟨a,L,u⟩:=Qq u;obtain⟨b,hb,u⟩:=Qq u;rw[K m _ L,K j _ hb];split at u
  ·split at u
   ·refine Jk E B s F u (fun v h' J=>⟨.val v,fun _=>rfl,?_⟩) I;have:=J.2;cases ok with
    | true=>exact Wz (k:=fun v=>kE (setD e o.dst (.val v))) this
    | false=>exact Da (k:=fun v=>kE (setD e o.dst (.val v))) this
   ·exact u.elim
  ·exact u.elim
 case typeAssert x t a ok =>
  refine Q5 M.1 E hw (by simp[notDefer,D]) ?_;simp only[execOp,D];obtain⟨v,hv,u⟩:=Qq u;rw[K x _ hv];split at u
  ·refine Jk E B s F u (fun v h' J=>⟨.val v,fun _=>rfl,?_⟩) I;have:=J.2;cases ok with
   | true=>exact Wz (k:=fun v=>kE (setD e o.dst (.val v))) this
   | false=>exact Da (k:=fun v=>kE (setD e o.dst (.val v))) this
  ·exact u.elim
 case mapUpdate t m j x =>
  refine Q5 M.1 E hw (by simp[notDefer,D]) ?_;simp only[execOp,D];obtain⟨a,L,u⟩:=Qq u;obtain⟨b,hb,u⟩:=Qq u;obtain⟨c,hc,u⟩:=Qq u;rw[K m _ L,K j _ hb,K x _ hc];exact Y6 E B s F u I
 case mapEntry t m j =>
  refine Q5 M.1 E hw (by simp[notDefer,D]) ?_;simp only[execOp,D];obtain⟨a,L,u⟩:=Qq u;obtain⟨b,hb,u⟩:=Qq u;rw[K m _ L,K j _ hb];exact Jk E B s F u (fun v h' J=>⟨.val v,fun _=>rfl,Wz (k:=fun v=>kE (setD e o.dst (.val v))) J.2⟩) I
 case entryStore t m j x =>
  refine Q5 M.1 E hw (by simp[notDefer,D]) ?_;simp only[execOp,D];obtain⟨a,L,u⟩:=Qq u;obtain⟨b,hb,u⟩:=Qq u;obtain⟨c,hc,u⟩:=Qq u;rw[K m _ L,K j _ hb,K x _ hc];exact Y6 E B s F u I
 case insert t m j x =>
  refine Q5 M.1 E hw (by simp[notDefer,D]) ?_;simp only[execOp,D];obtain⟨a,L,u⟩:=Qq u;obtain⟨b,hb,u⟩:=Qq u;obtain⟨c,hc,u⟩:=Qq u;rw[K m _ L,K j _ hb,K x _ hc];exact Y6 E B s F u I
 case call c =>
  refine Q5 M.1 E hw (by simp[notDefer,D]) ?_;simp only[execOp,D];obtain⟨args,hargs,u⟩:=H9 u;have J:=Ks _ c.args (hargs _ K);cases hc:c.callee with
  | invoke r m =>
   rw[hc]at u;obtain⟨rv,S,u⟩:=Qq u;have dyn:∀ ss,(T.callv q (.func (.method m) #[rv] #[]) args.toArray fun v=>Kz ss v fun v=>kE (setD e o.dst (.val v))).wp X C.P Q h ->
     Qe C.P (do let d <- resolve (mkF fn ds rd tmps (.inRegion ops (i::rest)::k)).eval c o.type;invoke d.target d.args) (fun nx h'=>Nx C.P R (mkF fn ds rd tmps (.inRegion ops (i::rest)::k)) cs { h.add hp with get:=h' } nx) (fun _ _=>False) (h.add hp).get:=by
    intro ss u;have u0:=u main (fun g h=>Disj h.get hp->R g (h.add hp)) (M.frame hX hp) (mkF fn ds rd tmps (.inRegion ops (i::rest)::k)) cs (l0.up hX trivial) ?_
    ·have:=Ki _ u0 F;unfold resolve;simp only[hc,J,K r _ S];refine Q7 _ this ?_ ?_
     ·rintro nx m0 ⟨h',d',rfl,hN⟩;cases nx<;>first|exact hN.elim|exact hN d'
     ·rintro W m0 ⟨_,_,_,hf⟩;exact hf.elim
    ·intro v h' j g0 hQ dk;have d1:Disj h'.get hp:=dk.of_add_left;have d2:Disj j hp:=Qx g0 dk;have e1:(h'.add j).add hp=(h'.add hp).add j:=by unfold LH.add;simp only;rw[Q4 d2]
     rw[e1];exact M.1.up _ _ j (Zf E B s d1 (a:=.val v) (fun _=>rfl) (Yb (k:=fun v=>kE (setD e o.dst (.val v))) hQ.2) I) (Disj.add g0 d2.symm)
   split at u<;>split at u<;>first|exact u.elim|exact dyn _ u
  | builtin b =>
   have u1:∀ (Qf:Next->Cells->Prop) (H:Cells),Qe C.P (builtin b c.argTypes o.type (c.args.map fun | .const _=>true|_=>false) args.toArray) Qf (fun _ _=>False) H ->
     Qe C.P (do let d <- resolve (mkF fn ds rd tmps (.inRegion ops (i::rest)::k)).eval c o.type;invoke d.target d.args) Qf (fun _ _=>False) H:=by
    intro Qf H hq;rw[lwp_bind];unfold resolve;simp only[hc,J,Qg,invoke];exact hq
   refine u1 _ _ ?_;rw[hc]at u;cases b<;>simp only at u<;>first
    | exact u.elim
    | exact Jk E B s F u (fun v h' J=>⟨.val v,fun _=>rfl,Kn (kd:=.slice) (k:=fun v=>kE (setD e o.dst (.val v))) J.2⟩) I
    | exact Jk E B s F u (fun v h' J=>⟨.val v,fun _=>rfl,Kn (kd:=.int .i64) (k:=fun v=>kE (setD e o.dst (.val v))) J.2⟩) I
    | exact Jk E B s F u (fun v h' J=>⟨.val v,fun _=>rfl,Kn (kd:=.str) (k:=fun v=>kE (setD e o.dst (.val v))) J.2⟩) I
    | exact Jk E B s F u (fun v h' J=>⟨.val v,fun _=>rfl,J.2⟩) I
    | skip
   case len =>
    split at u
    ·rename_i p n cc;split at u
     ·rename_i k0;refine Jg E B s F (a:=.val (.int .i64 n)) (v:=.int .i64 n) (fun _=>rfl) u I ?_;obtain⟨t,ht,el,hu⟩ : ∃ t,c.argTypes[0]?=some t/\∃ el,C.P.underlying t=some (.slice el):=by
       unfold lenOk at k0;split at k0
       ·rename_i t ht;split at k0
        ·rename_i el hu;exact⟨t,ht,el,hu⟩
        ·cases k0
       ·cases k0
      simp only[builtin,lwp_bind,Builtin.len_];simp only[ht,List.getElem?_toArray,List.getElem?_cons_zero,lwp_bind,Qd hu,Qg];exact⟨rfl,trivial⟩
     ·exact u.elim
    ·exact Jk E B s F u (fun v h' J=>⟨.val v,fun _=>rfl,Kn (kd:=.int .i64) (k:=fun v=>kE (setD e o.dst (.val v))) J.2⟩) I
    ·exact u.elim
   case max =>
    split at u
    ·exact Jg E B s F (a:=.val _) (v:=_) (fun _=>rfl) u I ⟨rfl,rfl⟩
    ·exact u.elim
   case min =>
    split at u
    ·exact Jg E B s F (a:=.val _) (v:=_) (fun _=>rfl) u I ⟨rfl,rfl⟩
    ·exact u.elim
  | value x =>
   have dyn:∀ fv ss,opdA e x=some (.val fv)->(T.callv q fv args.toArray fun v=>Kz ss v fun v=>kE (setD e o.dst (.val v))).wp X C.P Q h ->
     Qe C.P (do let d <- resolve (mkF fn ds rd tmps (.inRegion ops (i::rest)::k)).eval c o.type;invoke d.target d.args) (fun nx h'=>Nx C.P R (mkF fn ds rd tmps (.inRegion ops (i::rest)::k)) cs { h.add hp with get:=h' } nx) (fun _ _=>False) (h.add hp).get:=by
    intro fv ss S u;have u0:=u main (fun g h=>Disj h.get hp->R g (h.add hp)) (M.frame hX hp) (mkF fn ds rd tmps (.inRegion ops (i::rest)::k)) cs (l0.up hX trivial) ?_
    ·have:=Ki _ u0 F;unfold resolve;simp only[hc,J,K x _ S];refine Q7 _ this ?_ ?_
     ·rintro nx m0 ⟨h',d',rfl,hN⟩;cases nx<;>first|exact hN.elim|exact hN d'
     ·rintro W m0 ⟨_,_,_,hf⟩;exact hf.elim
    ·intro v h' j g0 hQ dk;have d1:Disj h'.get hp:=dk.of_add_left;have d2:Disj j hp:=Qx g0 dk;have e1:(h'.add j).add hp=(h'.add hp).add j:=by unfold LH.add;simp only;rw[Q4 d2]
     rw[e1];exact M.1.up _ _ j (Zf E B s d1 (a:=.val v) (fun _=>rfl) (Yb (k:=fun v=>kE (setD e o.dst (.val v))) hQ.2) I) (Disj.add g0 d2.symm)
   rw[hc]at u;cases x with
   | func f =>
    simp only at u;split at u
    ·split at u
     ·rename_i fd o0 ss q2;split at u
      ·simp only[T.wp]at u;unfold resolve;simp only[hc,J,Frame.eval,Deferred.ofValue,lwp_bind,Qg,invoke,callFunc,Jv];obtain⟨b2,k2,hb,hn⟩:=u.1;rw[k2];simp only;rw[if_neg (by rw[hn];simp),if_neg (by cases j2:b2.body<;>rw[j2]at hb<;>simp at hb ⊢),Qg];simp only[Array.append_empty,Array.empty_append];show R (G (Frame.enter C.P f args.toArray .normal) (_::cs)) (h.add hp);exact op_call hX M (l0.up hX (tmps:=tmps) (todo:=.inRegion ops (i::rest)::k) trivial) F u fun v h' J d'=>Zf E B s d' (a:=.val v) (fun _=>rfl) (Yb (k:=fun v=>kE (setD e o.dst (.val v))) J.2) I
      ·exact dyn (.func (.func f) #[] #[]) ss rfl u
     ·exact u.elim
    ·exact u.elim
   | tmp t =>
    obtain⟨fv,S,u⟩:=Qq u;split at u<;>split at u<;>first|exact u.elim|exact dyn fv _ S u
   | const v =>
    obtain⟨fv,S,u⟩:=Qq u;split at u<;>split at u<;>first|exact u.elim|exact dyn fv _ S u
   | global g =>
    obtain⟨fv,S,u⟩:=Qq u;split at u<;>split at u<;>first|exact u.elim|exact dyn fv _ S u
 case slice t x lo U mx =>
  refine Q5 M.1 E hw (by simp[notDefer,D]) ?_;simp only[execOp,D];obtain⟨v,hv,u⟩:=Qq u;rw[K x _ hv];have fin:∀ (l h' m:Option Value),(T.sem q (Instr.sliceAt t v l h' m) fun w=>T.unSlice v w fun w=>kE (setD e o.dst (.val w))).wp X C.P Q h ->
    Qe C.P (do pure (Next.value (<- Instr.sliceAt t v l h' m))) (fun nx h'=>Nx C.P R (mkF fn ds rd tmps (.inRegion ops (i::rest)::k)) cs { h.add hp with get:=h' } nx) (fun _ _=>False) (h.add hp).get:=by
   intro l h' m u;refine Jk E B s F u (fun w h' J=>⟨.val w,fun _=>rfl,?_⟩) I;have:=J.2;cases v<;>first
    | exact Kn (kd:=.slice) (k:=fun v=>kE (setD e o.dst (.val v))) this
    | exact Kn (kd:=.str) (k:=fun v=>kE (setD e o.dst (.val v))) this
  cases lo with
  | none =>
   cases U with
   | none=>cases mx with
    | none=>exact fin _ _ _ u
    | some m=>exact u.elim
   | some hh =>
    cases mx with
    | none =>
     obtain⟨b,hb,u⟩:=Qq u;simp only[Option.map_some,Option.map_none,K hh _ hb];exact fin _ _ _ u
    | some m =>
     obtain⟨b,hb,u⟩:=Qq u;obtain⟨c,hc,u⟩:=Qq u;simp only[Option.map_some,Option.map_none,K hh _ hb,K m _ hc];exact fin _ _ _ u
  | some l =>
   cases U with
   | none=>cases mx with
    | none =>
     obtain⟨b,hb,u⟩:=Qq u;simp only[Option.map_some,Option.map_none,K l _ hb];exact fin _ _ _ u
    | some m=>exact u.elim
   | some hh =>
    cases mx with
    | none =>
     obtain⟨a,L,u⟩:=Qq u;obtain⟨b,hb,u⟩:=Qq u;simp only[Option.map_some,Option.map_none,K l _ L,K hh _ hb];exact fin _ _ _ u
    | some m =>
     obtain⟨a,L,u⟩:=Qq u;obtain⟨b,hb,u⟩:=Qq u;obtain⟨c,hc,u⟩:=Qq u;simp only[Option.map_some,K l _ L,K hh _ hb,K m _ hc];exact fin _ _ _ u
 case go c =>
  obtain⟨args,hargs,u⟩:=H9 u;have J:=Ks _ c.args (hargs _ K);cases hc:c.callee with
  | value x =>
   rw[hc]at u;obtain⟨fv,S,u⟩:=Qq u;split at u
   ·rename_i k0;cases fv<;>simp only[fnOk,Bool.false_eq_true]at k0;rename_i f fs cp;refine u main R M (mkF fn ds rd tmps (.inRegion ops (i::rest)::k)) cs Ym l0.1 ?_ hp F ?_
    ·intro w;rw[Gu E hw (by simp[notDefer,D])];have j0:((mkF fn ds rd tmps (.inRegion ops (i::rest)::k)).kind==CallKind.early)=false:=by simpa[mkF] using fn.ok
     simp[stepG.apply,execOp,D,resolve,hc,J,K x _ S,Deferred.ofValue,Sem.runT_fst,j0,GStep.after,G,deferOf];exact Ue
    ·intro h' d' Z;exact Zf E B s d' (a:=.val undef) (fun _=>rfl) Z I
   ·exact u.elim
  | invoke r m=>rw[hc]at u;exact u.elim
  | builtin b=>rw[hc]at u;exact u.elim
 case send ch x =>
  obtain⟨c,hc,u⟩:=Qq u;obtain⟨v,hv,u⟩:=Qq u;refine u main R M (mkF fn ds rd tmps (.inRegion ops (i::rest)::k)) cs Ym l0.1 (fun hl=>by obtain⟨rfl,rfl,h3,h4,h5,h6⟩:=p0 hl;exact⟨⟨ops,i,rfl⟩,rfl,h3,h4,h5,h6⟩) ?_ hp F ?_
  ·intro w;rw[Gu E hw (by simp[notDefer,D])];have j0:((mkF fn ds rd tmps (.inRegion ops (i::rest)::k)).kind==CallKind.early)=false:=by simpa[mkF] using fn.ok
   simp[stepG.apply,execOp,D,K ch _ hc,K x _ hv,j0,GStep.after,G];exact Ue
  ·intro v h' d' Z;exact Zf E B s d' (a:=.val v) (fun _=>rfl) Z I
 case recv t ch ok =>
  obtain⟨c,hc,u⟩:=Qq u;split at u
  ·rename_i dir el hu;split at u
   ·rename_i z sh N o2;obtain⟨inf,U,z0⟩ : ∃ inf,C.P.info? el=some inf/\inf.zero=some z:=by
     unfold zerosOf at N;cases U:C.P.info? el with
     | none=>rw[U]at N;cases N
     | some inf=>rw[U]at N;exact⟨inf,rfl,N⟩
    refine u main R M (mkF fn ds rd tmps (.inRegion ops (i::rest)::k)) cs Ym l0.1 (fun hl=>by obtain⟨rfl,rfl,h3,h4,h5,h6⟩:=p0 hl;exact⟨⟨ops,i,rfl⟩,rfl,h3,h4,h5,h6⟩) ?_ hp F ?_
    ·intro w;rw[Gu E hw (by simp[notDefer,D])];have j0:((mkF fn ds rd tmps (.inRegion ops (i::rest)::k)).kind==CallKind.early)=false:=by simpa[mkF] using fn.ok
     have e0:(execOp (mkF fn ds rd tmps (.inRegion ops (i::rest)::k)).eval o).runT C.P w #[]=(.ok (.comm #[{ chan:=c,send:=none,zero:=z }] true (.recv ok)) w,#[]):=by
      simp only[execOp,D,K ch _ hc];rw[runT_underlying hu];simp only;rw[runT_zeroValue U z0];rfl
     have h1:(execOp (mkF fn ds rd tmps (.inRegion ops (i::rest)::k)).eval o).run C.P w=.ok (.comm #[{ chan:=c,send:=none,zero:=z }] true (.recv ok)) w:=by rw[<- Sem.runT_fst _ _ _ #[],e0]
     have h2:Sem.events C.P (execOp (mkF fn ds rd tmps (.inRegion ops (i::rest)::k)).eval o) w #[]=#[]:=by show ((execOp _ o).runT C.P w #[]).2=#[];rw[e0]
     simp[stepG.apply,h1,h2,j0,GStep.after,G,Ue]
    ·intro v h' d' Z;refine Zf E B s d' (a:=.val v) (fun _=>rfl) ?_ I;cases ok with
     | true=>exact Wz (k:=fun v=>kE (setD e o.dst (.val v))) Z
     | false=>exact Da (k:=fun v=>kE (setD e o.dst (.val v))) Z
   ·exact u.elim
  ·exact u.elim
 case select sc bl =>
  cases bl with
  | false=>exact u.elim
  | true =>
   obtain⟨l,ss,hl,u⟩:=selT_wp u;refine u main R M (mkF fn ds rd tmps (.inRegion ops (i::rest)::k)) cs Ym l0.1 (fun hl=>by obtain⟨rfl,rfl,h3,h4,h5,h6⟩:=p0 hl;exact⟨⟨ops,i,rfl⟩,rfl,h3,h4,h5,h6⟩) ?_ hp F ?_
   ·intro w;rw[Gu E hw (by simp[notDefer,D])];have j0:((mkF fn ds rd tmps (.inRegion ops (i::rest)::k)).kind==CallKind.early)=false:=by simpa[mkF] using fn.ok
    have e0:(execOp (mkF fn ds rd tmps (.inRegion ops (i::rest)::k)).eval o).runT C.P w #[]=(.ok (.comm l.toArray true .select) w,#[]):=by
     simp only[execOp,D];exact hl _ K w
    have h1:(execOp (mkF fn ds rd tmps (.inRegion ops (i::rest)::k)).eval o).run C.P w=.ok (.comm l.toArray true .select) w:=by rw[<- Sem.runT_fst _ _ _ #[],e0]
    have h2:Sem.events C.P (execOp (mkF fn ds rd tmps (.inRegion ops (i::rest)::k)).eval o) w #[]=#[]:=by show ((execOp _ o).runT C.P w #[]).2=#[];rw[e0]
    simp[stepG.apply,h1,h2,j0,GStep.after,G,Ue]
   ·intro v h' d' Z;exact Zf E B s d' (a:=.val v) (fun _=>rfl) (Wz (k:=fun v=>kE (setD e o.dst (.val v))) Z) I
 all_goals exact u.elim
end
end
section
def bindEnv:List (Nat×Kind)->List Value->Env->Env
 | (s,_)::l,v::vs,e=>bindEnv l vs ((s,.val v)::e)
 | _,_,e=>e
theorem bindEnv_get:∀ {L:List (Nat×Kind)} {vs:List Value} {e b:Env},collect b L=some vs->∀ i a,(bindEnv L vs e).get i=some a->(i∈L.map (·.1)/\b.get i=some a/\∃ v,a=.val v)\/e.get i=some a:=by
 intro L
 induction L with
 | nil=>intro vs e b hc i a h;cases vs<;>exact .inr h
 | cons x L f =>
  obtain⟨s,kd⟩:=x;intro vs e b hc i a h;rw[collect]at hc;split at hc
  ·rename_i v g hv d;cases hc;rw[bindEnv]at h;rcases f d i a h with⟨h1,h2,h3⟩|h'
   ·exact .inl ⟨by simp[h1],h2,h3⟩
   ·rw[Q0]at h';by_cases c:s=i
    ·rw[if_pos c]at h';cases h';subst c;exact .inl ⟨by simp,hv,v,rfl⟩
    ·rw[if_neg c]at h';exact .inr h'
  ·cases hc
theorem Ww{W ro:List Nat}{e:Env}{s:Nat}{a:AV}(h:(stays W ro e).get s=some a):∃ b,e.get s=some b/\a=b.scrap (memN W)/\(4096<=s->blockOf s∈ro/\blockOf s∉W)/\(s<4096->s∉W):=by
 unfold stays at h;rw[Wn,Env.get_scrap]at h;by_cases c:staysP W ro s=true
 ·rw[if_pos c]at h;cases he:e.get s with
  | none=>rw[he]at h;cases h
  | some b =>
   rw[he]at h;cases h;refine⟨b,rfl,rfl,fun h1=>?_,fun h1=>?_⟩
   ·rw[staysP,Kt.2 h1]at c;simp only[Bool.and_eq_true,Bool.not_eq_true']at c;exact⟨Ht.1 c.1,Jq.1 c.2⟩
   ·rw[staysP,Wi.2 h1]at c;simp only[Bool.not_eq_true']at c;exact Jq.1 c
 ·rw[if_neg c]at h;cases h
theorem K7{ro:List Nat}:∀ {L:List (Nat×Kind)},freeOf ro L=true->∀ s,s∈L.map (·.1)->4096<=s->blockOf s∉ro:=by
 intro L
 induction L with
 | nil=>intro _ s a;simp at a
 | cons x L c =>
  obtain⟨t,kd⟩:=x;intro h s a b;rw[freeOf]at h;simp only[Bool.and_eq_true,Bool.not_eq_true']at h;simp only[List.map_cons,List.mem_cons]at a;rcases a with rfl|a
  ·have:=h.1;rw[Kt.2 b]at this;exact Jq.1 (by simpa using this)
  ·exact c h.2 s a b
def prot'(PB:Nat->Prop)(σ:Nat->Nat)(ro₁:List Nat)(e:Env)(r:Nat):Prop:=PB r\/∃ s a,4096<=s/\e.get s=some a/\blockOf s∈ro₁/\r=σ (blockOf s)
section
variable {σ:Nat->Nat} {ro:List Nat} {PB:Nat->Prop} {e:Env} {tmps:Array Value} {hp:Cells}
theorem Sim.guarded(s:Sim σ ro PB e tmps hp)(c:List Nat):Sim σ (appL c ro) (prot' PB σ c e) e tmps hp where
 slot:=s.slot
 cell:=s.cell
 only:=s.only
 inj:=s.inj
 prot t a f d b:=by
  rw[Qw,List.mem_append]at b;rintro(h|⟨l,k,j,g,i,heq⟩)
  ·exact s.prot t a f d (fun h=>b (.inr h)) h
  ·have:=s.inj t l a k f j d g heq;exact b (.inl (this▸i))
 cover t a f d b:=by
  rw[Qw,List.mem_append]at b;rcases b with h|h
  ·exact .inr ⟨t,a,f,d,h,rfl⟩
  ·exact .inl (s.cover t a f d h)
theorem Sim.guarded_live(s:Sim σ ro PB e tmps hp)(d:List Nat)(f:∀ b,PB b->∃ x,hp b=some x):∀ b,prot' PB σ d e b->∃ x,hp b=some x:=by
 rintro b (h|⟨t,a,i,g,_,rfl⟩)
 ·exact f b h
 ·obtain⟨v,rfl⟩:=s.only t a i g;obtain⟨c,el,hc,_⟩:=s.cell t v i g;exact⟨_,hc⟩
theorem Sim.rebind(s:Sim σ ro PB e tmps hp){b W:List Nat}{L:List (Nat×Kind)}{n:Nat->Nat}{D:Env}{l:Array Value}{w:Cells}{vs:List Value}
 (z:Sim n (appL b ro) (prot' PB σ b e) D l w)(f:Fr W (prot' PB σ b e) σ tmps hp n l w)(hc:collect D L=some vs)(j:freeOf (appL b ro) L=true) :
  Sim n ro PB (bindEnv L vs (stays W (appL b ro) e)) l w/\Sim n (appL b ro) (prot' PB σ b e) (bindEnv L vs (stays W (appL b ro) e)) l w:=by
 have g:=@bindEnv_get L vs (stays W (appL b ro) e) D hc;have old:∀ t a,4096<=t->(stays W (appL b ro) e).get t=some a->e.get t=some a/\blockOf t∈appL b ro/\n (blockOf t)=σ (blockOf t)/\prot' PB σ b e (σ (blockOf t)):=by
  intro t a d p;obtain⟨u,h1,h2,h3,_⟩:=Ww p;obtain⟨hr,hw⟩:=h3 d;obtain⟨v,rfl⟩:=s.only t u d h1;have:a=.val v:=h2;subst this;exact⟨h1,hr,f.names _ hw,(s.guarded b).cover t _ d h1 hr⟩
 have base:(∀ i a,i<4096->(bindEnv L vs (stays W (appL b ro) e)).get i=some a->a≠.bad->l[i]?=some (conc n a)) /\
   (∀ t v,4096<=t->(bindEnv L vs (stays W (appL b ro) e)).get t=some (.val v)->∃ c el,w (n (blockOf t))=some (true,.cells c el (0,0))/\c[t%4096]?=some v) /\
   (∀ t a,4096<=t->(bindEnv L vs (stays W (appL b ro) e)).get t=some a->∃ v,a=.val v) /\
   (∀ t r a A,4096<=t->4096<=r->(bindEnv L vs (stays W (appL b ro) e)).get t=some a->(bindEnv L vs (stays W (appL b ro) e)).get r=some A->n (blockOf t)=n (blockOf r)->blockOf t=blockOf r):=by
  refine⟨?_,?_,?_,?_⟩
  ·intro i a B p hb;rcases g i a p with⟨_,h1,_⟩|h1
   ·exact z.slot i a B h1 hb
   ·obtain⟨u,h2,h3,_,E⟩:=Ww h1;rw[f.slots i (E B)];subst h3;cases u with
    | val v=>exact s.slot i _ B h2 (by simp)
    | pp k o =>
     have C:memN W k=false:=by
      cases C:memN W k with
      | false=>rfl
      | true=>exact absurd (show AV.scrap (memN W) (.pp k o)=.bad by simp[AV.scrap,C]) hb
     rw[s.slot i _ B h2 (by simp)];simp[AV.scrap,C,conc,f.names k (Jq.1 C)]
    | bad=>exact absurd rfl hb
  ·intro t v d p;rcases g t _ p with⟨_,h1,_⟩|h1
   ·exact z.cell t v d h1
   ·obtain⟨h2,h3,E,h5⟩:=old t _ d h1;obtain⟨c,el,x,M⟩:=s.cell t v d h2;exact⟨c,el,by rw[E,f.prot _ h5];exact x,M⟩
  ·intro t a d p;rcases g t _ p with⟨_,_,h1⟩|h1
   ·exact h1
   ·obtain⟨h2,_⟩:=old t _ d h1;exact s.only t a d h2
  ·intro t r a A d q p F heq;rcases g t _ p with⟨y,h1,_⟩|h1<;>rcases g r _ F with⟨N,h2,_⟩|h2
   ·exact z.inj t r a A d q h1 h2 heq
   ·obtain⟨_,_,h5,x⟩:=old r _ q h2;have:=z.prot t a d h1 (K7 j t y d);rw[heq,h5]at this;exact absurd x this
   ·obtain⟨_,_,h5,x⟩:=old t _ d h1;have:=z.prot r A q h2 (K7 j r N q);rw[<- heq,h5]at this;exact absurd x this
   ·obtain⟨J,_,h5,_⟩:=old t _ d h1;obtain⟨K,_,x,_⟩:=old r _ q h2;exact s.inj t r a A d q J K (by rw[<- h5,<- x];exact heq)
 obtain⟨b1,G,H,I⟩:=base;refine⟨⟨b1,G,H,I,?_,?_⟩,⟨b1,G,H,I,?_,?_⟩⟩
 ·intro t a d p m;rcases g t _ p with⟨y,h1,_⟩|h1
  ·exact fun h=>z.prot t a d h1 (K7 j t y d) (.inl h)
  ·obtain⟨h2,_,h5,_⟩:=old t _ d h1;rw[h5];exact s.prot t a d h2 m
 ·intro t a d p m;rcases g t _ p with⟨y,h1,_⟩|h1
  ·exact absurd (by rw[Qw];simp[m]) (K7 j t y d)
  ·obtain⟨h2,_,h5,_⟩:=old t _ d h1;rw[h5];exact s.cover t a d h2 m
 ·intro t a d p m;rcases g t _ p with⟨y,h1,_⟩|h1
  ·exact z.prot t a d h1 m
  ·obtain⟨_,h3,_⟩:=old t _ d h1;exact absurd h3 m
 ·intro t a d p m;rcases g t _ p with⟨y,h1,_⟩|h1
  ·exact absurd m (K7 j t y d)
  ·obtain⟨_,_,h5,x⟩:=old t _ d h1;rw[h5];exact x
end
section
variable {X:XP} {C:Ctx} {main:Bool} {R:Goroutine->LH->Prop}
variable {P:Program}{h:LH}{j:Nat}{ops:Array Oper}{tmps:Array Value}{fin q:Bool}{k:List Item}{ro:List Nat}{PB:Nat->Prop}
theorem Jd{Q:Leaf->LH->Prop}:∀ {L:List (Nat×Kind)} {vs:List Value} {e:Env} {kE:Env->T},(bindS L vs e kE).wp X P Q h->(kE (bindEnv L vs e)).wp X P Q h:=by
 intro L
 induction L with
 | nil=>intro vs e kE hw;obtain⟨rfl,hw⟩:=Gs hw;exact hw
 | cons x L b =>
  obtain⟨s,kd⟩:=x;intro vs e kE hw;obtain⟨v,c,rfl,a⟩:=pop_wp hw;exact b a
theorem Hq{a:Option (List Value)}{k:List Value->T}{Q:Leaf->LH->Prop}(hw:(withC a k).wp X P Q h):∃ b,a=some b/\(k b).wp X P Q h:=by
 cases a with
 | none=>exact hw.elim
 | some b=>exact⟨b,rfl,hw⟩
theorem Dd{Q:Leaf->LH->Prop}{k:Nat->List Value->T}{vs:List Value}:∀ {os:List Nat},(outT k os j vs).wp X P Q h->(k j vs).wp X P Q h:=by
 intro os
 induction os with
 | nil=>intro hw;exact hw.elim
 | cons o os a =>
  intro hw;rw[outT]at hw;cases hb:Nat.beq j o with
  | true=>rw[hb]at hw;have:=Jc hb;subst this;exact hw
  | false=>rw[hb]at hw;exact a hw
variable {cs:List Frame} {fn:FI} {ds:List Deferred} {rd:Option Nat} {Q:Leaf->LH->Prop}
theorem yielded_eq{d:Nat}{b:Bool}(a:(ops[j]?).bind (·.dst)=some d)(hb:tmps[d]?=some (.bool b)):yielded ops tmps j=some b:=by
 unfold yielded;rw[a];simp[hb]
theorem Wj{o:Oper}{i:Nat}{rest:List Nat}{σ:Nat->Nat}{e:Env}{hp:Cells}{kE:Env->T}
 (z:XOK X)(u:Closed X C.P main R)(p:X.hat C.P fn ds rd cs)(g:fin=true->rest=[]/\k=[]/\ds=[]/\rd=none/\fn.kd=.deferred/\∃ fd,C.P.funcs[fn.fn]?=some fd/\fd.results=#[])(n:ops[i]?=some o)(c:∀ d,o.dst=some d->d<tmps.size/\d<4096)
 (s:Sim σ ro PB e tmps hp)(t:Disj h.get hp)(l:∀ b,PB b->∃ x,hp b=some x)(f:(guardT C fin ro q ops o e kE).wp X C.P Q h)
 (v:Behind X C.P R fn ds rd cs (.inRegion ops rest::k) o.dst.toList ro PB σ tmps hp kE Q) :
  R (G (mkF fn ds rd tmps (.inRegion ops (i::rest)::k)) cs) (h.add hp):=by
 unfold guardT at f;split at f
 ·rename_i m;exact Up z u p g n (by simp[Region.wanted,m]) c s t l f v
 ·rename_i j want m;split at f
  ·rename_i d A;split at f
   ·rename_i b hb;have w:=J2 hb;have r:=yielded_eq A (s.slot d _ w.1 w.2 (by simp));have skip:Region.wanted o (yielded ops tmps)=false->∀ y,Sim σ ro PB y tmps hp->(kE (setD y o.dst (.val undef))).wp X C.P Q h->R (G (mkF fn ds rd tmps (.inRegion ops (i::rest)::k)) cs) (h.add hp):=by
     intro hw y B f;refine step_skipped u.1 n hw ?_;exact Zf n c B t (a:=.val undef) (fun _=>rfl) f v
    cases b<;>cases want<;>simp only[cond_true,cond_false]at f
    ·exact Up z u p g n (by simp[Region.wanted,m,r]) c (s.again hb) t l f v
    ·exact skip (by simp[Region.wanted,m,r]) _ (s.again hb) f
    ·exact skip (by simp[Region.wanted,m,r]) _ (s.again hb) f
    ·exact Up z u p g n (by simp[Region.wanted,m,r]) c (s.again hb) t l f v
   ·rename_i vs hb;have w:=J2 hb;have r:yielded ops tmps j=none:=by
     have:=s.slot d _ w.1 w.2 (by simp);unfold yielded;rw[A];simp only[Option.bind_some,this,conc]
    refine step_skipped u.1 n (by simp[Region.wanted,m,r]) ?_;exact Zf n c s t (a:=.val undef) (fun _=>rfl) f v
   ·exact f.elim
  ·exact f.elim
theorem W1{D:List Nat}{kE:Env->T}(S:XOK X)(N:Closed X C.P main R)(J:X.hat C.P fn ds rd cs)(p:fin=true->k=[]/\ds=[]/\rd=none/\fn.kd=.deferred/\∃ fd,C.P.funcs[fn.fn]?=some fd/\fd.results=#[]):∀ (l:List Nat) {σ:Nat->Nat} {e:Env} {tmps:Array Value} {hp:Cells} {h:LH},
  (∀ i∈l,∀ o,ops[i]?=some o->∀ d,o.dst=some d->d∈D/\d<tmps.size/\d<4096) ->
  Sim σ ro PB e tmps hp->Disj h.get hp->(∀ b,PB b->∃ x,hp b=some x)->(opsT C fin ro q ops l e kE).wp X C.P Q h->Behind X C.P R fn ds rd cs k D ro PB σ tmps hp kE Q ->
  R (G (mkF fn ds rd tmps (.inRegion ops l::k)) cs) (h.add hp):=by
 intro l
 induction l with
 | nil=>intro σ e tmps hp h v s w c f H;exact Wg N.1 (H e tmps σ hp h s w Fr.refl f)
 | cons i l W =>
  intro σ e tmps hp h v s w c f H;unfold opsT at f;cases r:ops[i]? with
  | none=>rw[r]at f;exact f.elim
  | some o =>
   rw[r]at f;refine Wj S N J (by
    intro O;cases l with
    | nil=>exact⟨rfl,p O⟩
    | cons _ _=>cases O) r (fun d a=>(v i (by simp) o r d a).2) s w c f ?_
   intro e' M a0 V h' Z y A F;refine W (fun j U Y I d a=>?_) Z y (fun b hb=>by rw[A.prot b hb];exact c b hb) F ?_
   ·rw[A.size];exact v j (by simp[U]) Y I d a
   ·intro z L u t E K m B n;refine H z L u t E K m (A.trans B ?_ (fun _ h=>h)) n;intro d a;cases g:o.dst with
    | none=>rw[g]at a;simp at a
    | some d'=>rw[g]at a;simp at a;subst a;exact(v i (by simp) o r d g).1
end
end
section
section
variable {X:XP} {P:Program} {Q:Leaf->LH->Prop} {h:LH}
variable {a:Addr}{E E':Env}
theorem loadK_re{kd:Kind}{k:Value->T}(hw:(Gi kd a k).wp X P Q h):∃ v,(k v).wp X P Q h/\∀ k' b,(k' v).wp X P b h->(Gi kd a k').wp X P b h:=by
 cases kd<;>simp only[Gi,T.wp]at hw
 ·obtain⟨n,h1,h2⟩:=hw;exact⟨_,h2,fun k' b h'=>⟨n,h1,h'⟩⟩
 ·obtain⟨n,h1,h2⟩:=hw;exact⟨_,h2,fun k' b h'=>⟨n,h1,h'⟩⟩
 ·obtain⟨p,n,c,h1,h2⟩:=hw;exact⟨_,h2,fun k' b h'=>⟨p,n,c,h1,h'⟩⟩
 ·obtain⟨n,h1,h2⟩:=hw;exact⟨_,h2,fun k' b h'=>⟨n,h1,h'⟩⟩
 ·obtain⟨n,h1,h2⟩:=hw;exact⟨_,h2,fun k' b h'=>⟨n,h1,h'⟩⟩
 ·obtain⟨n,h1,h2⟩:=hw;exact⟨_,h2,fun k' b h'=>⟨n,h1,h'⟩⟩
 ·obtain⟨n,h1,h2⟩:=hw;exact⟨_,h2,fun k' b h'=>⟨n,h1,h'⟩⟩
 ·obtain⟨n,h1,h2⟩:=hw;exact⟨_,h2,fun k' b h'=>⟨n,h1,h'⟩⟩
theorem loadL_re:∀ {b:List Kind} {i:Nat} {k:List Value->T},(Dn a b i k).wp X P Q h->∃ l,(k l).wp X P Q h/\∀ k' c,(k' l).wp X P c h->(Dn a b i k').wp X P c h:=by
 intro b
 induction b with
 | nil=>intro i k hw;exact⟨[],hw,fun _ _ h'=>h'⟩
 | cons kd b f =>
  intro i k hw;obtain⟨v,hw,re⟩:=loadK_re hw;obtain⟨l,e,d⟩:=f (k:=fun l=>k (v::l)) hw;exact⟨v::l,e,fun k' c h'=>re _ _ (d (fun l=>k' (v::l)) c h')⟩
def valsE(E:Env):List Operand->Option (List Value)
 | []=>some []
 | x::l=>match opdA E x,valsE E l with
  | some (.val v),some vs=>some (v::vs)
  | _,_=>none
theorem Hp:∀ {xs:List Operand} {k:List Value->T},(withVs E xs k).wp X P Q h->∃ vs,valsE E xs=some vs/\(k vs).wp X P Q h:=by
 intro xs
 induction xs with
 | nil=>intro k hw;exact⟨[],rfl,hw⟩
 | cons x xs a =>
  intro k hw;obtain⟨v,hv,hw⟩:=Qq hw;obtain⟨vs,h1,h2⟩:=a (k:=fun l=>k (v::l)) hw;exact⟨v::vs,by rw[valsE,hv,h1],h2⟩
theorem Gq:∀ {xs:List Operand} {vs:List Value} {k:List Value->T},valsE E xs=some vs->withVs E xs k=k vs:=by
 intro xs
 induction xs with
 | nil=>intro vs k hv;cases hv;rfl
 | cons x xs a =>
  intro vs k hv;rw[valsE]at hv;split at hv
  ·rename_i v b h1 h2;cases hv;rw[withVs,h1];exact a (k:=fun l=>k (v::l)) h2
  ·cases hv
theorem W8:∀ {xs:List Operand},(∀ x∈xs,opdA E' x=opdA E x)->valsE E' xs=valsE E xs:=by
 intro xs
 induction xs with
 | nil=>intro _;rfl
 | cons x xs c =>
  intro a;rw[valsE,valsE,a x (by simp),c fun y b=>a y (by simp[b])]
theorem withParts_vals:∀ {xs:List (Nat×Operand)} {k:List (Nat×Value)->T},(Kp E xs k).wp X P Q h->∃ vs,valsE E (xs.map (·.2))=some vs/\(k ((xs.map (·.1)).zip vs)).wp X P Q h:=by
 intro xs
 induction xs with
 | nil=>intro k hw;exact⟨[],rfl,hw⟩
 | cons x xs a =>
  obtain⟨i,x⟩:=x;intro k hw;obtain⟨v,hv,hw⟩:=Qq hw;obtain⟨vs,h1,h2⟩:=a (k:=fun l=>k ((i,v)::l)) hw;exact⟨v::vs,by rw[List.map_cons,valsE,hv,h1],h2⟩
theorem withParts_eq:∀ {xs:List (Nat×Operand)} {vs:List Value} {k:List (Nat×Value)->T},valsE E (xs.map (·.2))=some vs->Kp E xs k=k ((xs.map (·.1)).zip vs):=by
 intro xs
 induction xs with
 | nil=>intro vs k hv;cases hv;rfl
 | cons x xs a =>
  obtain⟨i,x⟩:=x;intro vs k hv;rw[List.map_cons,valsE]at hv;split at hv
  ·rename_i v b h1 h2;cases hv;rw[Kp,h1];exact a (k:=fun l=>k ((i,v)::l)) h2
  ·cases hv
theorem privCells_agree{k:Nat}(hp:∀ s,4096<=s->E'.get s=E.get s):∀ n j,Zh E' k j n=Zh E k j n:=by
 intro n
 induction n with
 | zero=>intro j;rfl
 | succ n a=>intro j;rw[Zh,Zh,hp _ Wf,a]
theorem privLoad_agree{i j:Nat}{t:TypeId}(hp:∀ s,4096<=s->E'.get s=E.get s):privLoad P E' i j t=privLoad P E i j t:=by
 unfold privLoad;rw[privCells_agree hp,hp _ Wf]
end
section
variable {X:XP} {C:Ctx} {Q:Leaf->LH->Prop} {h:LH} {fin q:Bool} {ro:List Nat} {o:Oper} {E:Env} {k:Env->T} {d:Nat}
variable {P:Program}{v:Value}{t:TypeId}{op:BinOp}
theorem un_eq{kd:Kind}{k:Value->T}(hw:(T.un kd v k).wp X P Q h)(k':Value->T):T.un kd v k'=k' v:=by
 cases kd<;>cases v<;>simp only[T.un,T.unI,T.unB,T.unS,T.unP,T.unM,T.unC,T.unStr,T.unA]at hw<;>first
  | rfl
  | exact hw.elim
  | (rename_i p;cases p<;>first|rfl|exact hw.elim)
  | (split at hw<;>first|(rename_i a;have:=of_decide_eq_true a;subst this;simp[T.un,T.unI])|exact hw.elim)
theorem pop_eq{kd:Kind}{vs:List Value}{k:Value->List Value->T}(hw:(U6 kd vs k).wp X P Q h):∃ v a,vs=v::a/\∀ k',U6 kd vs k'=k' v a:=by
 cases vs with
 | nil=>cases kd<;>exact hw.elim
 | cons v vs =>
  refine⟨v,vs,rfl,fun k'=>?_⟩;cases kd<;>cases v<;>simp only[U6,T.popI,T.popB,T.popS,T.popP,T.popM,T.popC,T.popStr,T.popV,T.popA]at hw<;>first
   | rfl
   | exact hw.elim
   | (rename_i p;cases p<;>first|rfl|exact hw.elim)
   | (split at hw<;>first|(rename_i b;have:=of_decide_eq_true b;subst this;simp[U6,T.popI])|exact hw.elim)
theorem unList_eq:∀ {a:List Kind} {vs:List Value} {k:List Value->T},(K8 a vs k).wp X P Q h->∀ k',K8 a vs k'=k' vs:=by
 intro a
 induction a with
 | nil =>
  intro vs k hw k';obtain⟨rfl,_⟩:=Gs hw;rfl
 | cons kd a d =>
  intro vs k hw k';obtain⟨v,b,rfl,he⟩:=pop_eq hw;have c:(K8 a b fun l=>k (v::l)).wp X P Q h:=by
   have:K8 (kd::a) (v::b) k=K8 a b fun l=>k (v::l):=he _;rw[this]at hw;exact hw
  exact(he _).trans (d c _)
theorem shaped_eq{k:Value->T}(hw:(G7 P t v k).wp X P Q h)(k':Value->T):G7 P t v k'=k' v:=by
 unfold G7 at hw ⊢;split at hw
 ·rename_i s a;cases s with
  | cell kd=>exact un_eq hw k'
  | agg b =>
   cases v<;>simp only[Gn,T.unAgg]at hw<;>first|exact hw.elim|skip
   rename_i cs;have:=unList_eq hw fun l=>k' (.agg l.toArray);simpa[Gn,T.unAgg] using this
 ·rfl
theorem intOp_re{ka:IntKind}{x y:Int}{k:Value->T}(hw:(intOp op ka x y k).wp X P Q h):∃ v,(k v).wp X P Q h/\∀ k' a,(k' v).wp X P a h->(intOp op ka x y k').wp X P a h:=by
 cases op<;>simp only[intOp]at hw ⊢<;>first
  | exact hw.elim
  | exact⟨_,hw,fun _ _ h'=>h'⟩
  | exact⟨_,hw.2,fun _ _ h'=>⟨hw.1,h'⟩⟩
theorem binT_re{x y:Operand}{a b:Value}{k:Value->T}(f:isIntB (some (.val a)) (some (.val b))=true)(hw:(binT P q op t x y a b k).wp X P Q h) :
    ∃ v,(k v).wp X P Q h/\∀ k' c,(k' v).wp X P c h->(binT P q op t x y a b k').wp X P c h:=by
  cases a<;>cases b<;>first|(cases f;done)|skip
  case int.int ka m kb n =>
    cases op<;>simp only[binT]at hw ⊢<;>first
      | exact⟨_,hw.2,fun _ _ h'=>⟨hw.1,h'⟩⟩
      | (cases d:decide (ka=kb) with
         | true =>
           rw[d]at hw;obtain⟨v,hv,re⟩:=intOp_re hw;exact⟨v,hv,fun k' c h'=>re k' c h'⟩
         | false=>rw[d]at hw;exact hw.elim)
  case bool.bool m n =>
    cases e:isBoolT P t with
    | true =>
      cases op<;>simp only[binT,e]at hw ⊢<;>first
        | exact hw.elim
        | exact⟨_,hw,fun _ _ h'=>h'⟩
    | false=>cases op<;>simp only[binT,e]at hw<;>exact hw.elim
theorem float_re(w:isFloat C E o=true)(S:o.dst=some d)(hw:(opT C fin ro q o E k).wp X C.P Q h) :
    ∃ a,(k ((d,a)::E)).wp X C.P Q h/\∀ (E':Env) (k':Env->T) r,(∀ x∈o.op.operands.toList,opdA E' x=opdA E x)->(∀ s,4096<=s->E'.get s=E.get s)->(k' ((d,a)::E')).wp X C.P r h->(opT C fin ro q o E' k').wp X C.P r h:=by
  unfold opT at hw ⊢;unfold isFloat at w;simp only[setD,S]at hw ⊢;cases J:o.op<;>rw[J]at hw w<;>simp only at hw w ⊢<;>try (cases w;done)
  case move x =>
    obtain⟨a,D,hw⟩:=Wy hw;refine⟨a,hw,fun E' k' r g _ h'=>?_⟩;rw[g x (by simp[Op.operands]),D];exact h'
  case pick c x y =>
    obtain⟨v,hv,hw⟩:=Qq hw;cases v<;>simp only[T.unB]at hw<;>first|exact hw.elim|skip
    rename_i b;cases b<;>simp only[cond_true,cond_false]at hw
    · obtain⟨a,D,hw⟩:=Wy hw
      refine⟨a,hw,fun E' k' r g _ h'=>?_⟩;rw[g c (by simp[Op.operands]),g y (by simp[Op.operands]),hv,D];exact h'
    · obtain⟨a,D,hw⟩:=Wy hw
      refine⟨a,hw,fun E' k' r g _ h'=>?_⟩;rw[g c (by simp[Op.operands]),g x (by simp[Op.operands]),hv,D];exact h'
  case nilCheck x =>
    split at hw
    · rename_i i j A
      refine⟨_,hw,fun E' k' r g _ h'=>?_⟩;rw[g x (by simp[Op.operands]),A];exact h'
    · rename_i p A
      obtain⟨a,rfl,hw⟩:=hw;refine⟨_,hw,fun E' k' r g _ h'=>?_⟩;rw[g x (by simp[Op.operands]),A];exact⟨a,rfl,h'⟩
    · exact hw.elim
  case fieldAddr s x f =>
    split at hw
    · rename_i off i j h1 h2
      refine⟨_,hw,fun E' k' r g _ h'=>?_⟩;rw[g x (by simp[Op.operands]),h1,h2];exact h'
    · rename_i off a h1 h2
      refine⟨_,hw,fun E' k' r g _ h'=>?_⟩;rw[g x (by simp[Op.operands]),h1,h2];exact h'
    · exact hw.elim
  case indexAddr t x i =>
    split at hw
    · rename_i el p n c kk m h1 h2 h3
      split at hw
      · rename_i z K
        obtain⟨hb,a,rfl,hw⟩:=hw;refine⟨_,hw,fun E' k' r g _ h'=>?_⟩;rw[g x (by simp[Op.operands]),g i (by simp[Op.operands]),h1,h2,h3];simp only[K];exact⟨hb,a,rfl,h'⟩
      · exact hw.elim
    · rename_i n el a kk m h1 h2 h3
      split at hw
      · rename_i z K
        obtain⟨hb,hw⟩:=hw;refine⟨_,hw,fun E' k' r g _ h'=>?_⟩;rw[g x (by simp[Op.operands]),g i (by simp[Op.operands]),h1,h2,h3];simp only[K];exact⟨hb,h'⟩
      · exact hw.elim
    · exact hw.elim
  case load t x =>
    split at hw
    · rename_i i j A
      split at hw
      · rename_i v hv
        refine⟨_,hw,fun E' k' r g hp h'=>?_⟩;rw[g x (by simp[Op.operands]),A];simp only[privLoad_agree hp,hv];exact h'
      · exact hw.elim
    · rename_i a A
      split at hw
      · rename_i V h1 h2
        split at hw
        · rename_i hb
          obtain⟨l,F,re⟩:=loadL_re hw;refine⟨_,F,fun E' k' r g _ h'=>?_⟩;rw[g x (by simp[Op.operands]),A];simp only[h1,h2,hb];exact re (fun l=>k' ((d,.val (.agg l.toArray))::E')) r h'
        · exact hw.elim
      · rename_i kd h1 h2
        obtain⟨v,F,re⟩:=loadK_re hw;refine⟨_,F,fun E' k' r g _ h'=>?_⟩;rw[g x (by simp[Op.operands]),A];simp only[h1,h2];exact re (fun v=>k' ((d,.val v)::E')) r h'
      · exact hw.elim
    · exact hw.elim
  case extract x i =>
    split at hw
    · rename_i vs A
      split at hw
      · rename_i v hv
        refine⟨_,shaped_wp hw,fun E' k' r g _ h'=>?_⟩;rw[g x (by simp[Op.operands]),A];simp only[hv];rw[shaped_eq hw];exact h'
      · exact hw.elim
    · exact hw.elim
  case makeFunc f fs cs =>
    obtain⟨l,F,hw⟩:=Hp hw;obtain⟨m,hm,hw⟩:=Hp hw;refine⟨_,hw,fun E' k' r g _ h'=>?_⟩;have h1:valsE E' fs.toList=some l:=by rw[W8 (fun x B=>g x (by simp[Op.operands];exact .inl (by simpa using B)))];exact F
    have h2:valsE E' cs.toList=some m:=by rw[W8 (fun x B=>g x (by simp[Op.operands];exact .inr (by simpa using B)))];exact hm
    rw[Gq h1,Gq h2];exact h'
  case binOp op t x y z =>
    obtain⟨a,D,hw⟩:=Qq hw;obtain⟨b,hb,hw⟩:=Qq hw;have I:isIfaceT C.P t=false:=by
      cases I:isIfaceT C.P t with
      | false=>rfl
      | true=>rw[I]at w;cases w
    simp only[I]at w hw ⊢;rw[D,hb]at w;obtain⟨v,hv,re⟩:=binT_re w hw;refine⟨_,hv,fun E' k' r g _ h'=>?_⟩;rw[g x (by simp[Op.operands]),g y (by simp[Op.operands]),D,hb];exact re (fun v=>k' ((d,.val v)::E')) r h'
  case unOp u t x =>
    obtain⟨a,D,hw⟩:=Qq hw;cases u<;>simp only at w<;>try (cases w;done)
    rw[D]at w;cases a<;>simp only at w<;>try (cases w;done)
    refine⟨_,hw,fun E' k' r g _ h'=>?_⟩;rw[g x (by simp[Op.operands]),D];exact h'
  case field t x f =>
    obtain⟨a,D,hw⟩:=Qq hw;split at hw
    · rename_i fs cs h1
      split at hw
      · rename_i fd h2
        split at hw
        · rename_i h3
          refine⟨_,hw,fun E' k' r g _ h'=>?_⟩;rw[g x (by simp[Op.operands]),D];simp only[withV,h1,h2,h3];exact h'
        · rename_i h3
          split at hw
          · rename_i u v R h5
            refine⟨_,hw,fun E' k' r g _ h'=>?_⟩;rw[g x (by simp[Op.operands]),D];simp only[withV,h1,h2,h3,R,h5];exact h'
          · exact hw.elim
      · exact hw.elim
    · exact hw.elim
  case makeInterface t x =>
    obtain⟨a,D,hw⟩:=Qq hw;cases hu:C.P.underlying t with
    | none=>rw[hu]at hw;exact hw.elim
    | some u =>
      rw[hu]at hw;cases u<;>first
        | exact hw.elim
        | (refine⟨_,hw,fun E' k' r g _ h'=>?_⟩
           rw[g x (by simp[Op.operands]),D];simp only[withV];exact h')
  case build t ps =>
    obtain⟨l,F,hw⟩:=withParts_vals hw;simp only[w]at hw;split at hw
    · rename_i v hv
      refine⟨_,hw,fun E' k' r g _ h'=>?_⟩;have h1:valsE E' (ps.toList.map (·.2))=some l:=by rw[W8 (fun x B=>g x (by simp[Op.operands];simpa using B))];exact F
      rw[withParts_eq h1];simp only[w,hv];exact h'
    · exact hw.elim
  case convert a b x =>
    obtain⟨v,hv,hw⟩:=Qq hw;rw[hv]at w;split at w
    · rename_i u kk W n h1 h2 h3
      cases h3;rw[h1,h2]at hw;refine⟨_,hw,fun E' k' r g _ h'=>?_⟩;rw[g x (by simp[Op.operands]),hv];simp only[withV,h1,h2];exact h'
    · cases w
  case call c =>
    obtain⟨l,F,hw⟩:=Hp hw;have G:∀ E':Env,(∀ x∈(Op.call c).operands.toList,opdA E' x=opdA E x)->valsE E' c.args.toList=some l:=by
      intro E' g;rw[W8 (fun x B=>g x ?_)]
      · exact F
      · simp only[Op.operands,Call.operands]
        cases c.callee<;>simp<;>first|exact .inr (by simpa using B)|simpa using B
    have H:∀ (xs:List Operand) (vs:List Value),valsE E xs=some vs->isFloat.withL E xs=vs.map (fun v=>some (.val v)):=by
      intro xs
      induction xs with
      | nil=>intro vs hv;cases hv;rfl
      | cons x xs U =>
        intro vs hv;rw[valsE]at hv;split at hv
        · rename_i v M h1 h2
          cases hv;rw[isFloat.withL,h1,U M h2];rfl
        · cases hv
    rw[H _ _ F]at w;split at w
    · rename_i a n c' h1 h2
      obtain⟨v,rfl,e⟩ : ∃ v,l=[v]/\v=.slice a n c':=by
        cases l with
        | nil=>cases h2
        | cons v l=>cases l with
          | nil=>simp at h2;exact⟨v,rfl,h2⟩
          | cons _ _=>simp at h2
      subst e;rw[h1]at hw;simp only[w]at hw;refine⟨_,hw,fun E' k' r g _ h'=>?_⟩;rw[Gq (G E' g),h1];simp only[w];exact h'
    · rename_i k1 N L O h1 h2
      obtain⟨rfl⟩ : l=[.int k1 N,.int L O]:=by
        match l,h2 with
        | [a,b],h2=>simp at h2;rw[h2.1,h2.2]
      rw[h1]at hw;refine⟨_,hw,fun E' k' r g _ h'=>?_⟩;rw[Gq (G E' g),h1];exact h'
    · rename_i k1 N L O h1 h2
      obtain⟨rfl⟩ : l=[.int k1 N,.int L O]:=by
        match l,h2 with
        | [a,b],h2=>simp at h2;rw[h2.1,h2.2]
      rw[h1]at hw;refine⟨_,hw,fun E' k' r g _ h'=>?_⟩;rw[Gq (G E' g),h1];exact h'
    · cases w
end
end
section
/-! ### Orders -/
inductive Ord(ops:Array Oper):(Nat->Bool)->List Nat->Prop
 | nil (Lm:Nat->Bool):(∀ (i:Nat) (o:Oper),ops[i]?=some o->Lm i=false->∃ j∈predsOf o,Lm j=false)->Ord ops Lm []
 | cons (Lm:Nat->Bool) (i:Nat) (o:Oper) (l:List Nat):ops[i]?=some o->Lm i=false->(∀ j∈predsOf o,Lm j=true)->Ord ops (fun x=>Nat.beq x i||Lm x) l->Ord ops Lm (i::l)
variable {j i d:Nat}{o:Oper}{ops:Array Oper}{σ:Nat->Nat}{ro done:List Nat}{PB:Nat->Prop}{e:Env}{tmps:Array Value}{hp:Cells}
theorem mem_predsL{l:List Edge}:j∈predsL l↔∃ e∈l,Region.binds .any e=true/\e.on=j:=by
 induction l with
 | nil=>simp[predsL]
 | cons e l b =>
  rw[predsL];cases hb:Region.binds .any e with
  | true =>
   simp only[List.mem_cons,b];constructor
   ·rintro(rfl|⟨a,h1,h2⟩)
    ·exact⟨e,.inl rfl,hb,rfl⟩
    ·exact⟨a,.inr h1,h2⟩
   ·rintro⟨a,rfl|h1,h2,h3⟩
    ·exact .inl h3.symm
    ·exact .inr ⟨a,h1,h2,h3⟩
  | false =>
   simp only[b,List.mem_cons];constructor
   ·rintro⟨a,h1,h2⟩;exact⟨a,.inr h1,h2⟩
   ·rintro⟨a,rfl|h1,h2,h3⟩
    ·rw[hb]at h2;cases h2
    ·exact⟨a,h1,h2,h3⟩
theorem mem_predsOf:j∈predsOf o↔∃ e∈o.after,Region.binds .any e=true/\e.on=j:=by
 unfold predsOf;rw[mem_predsL];simp
def unl(listed:Array Bool):Nat:=listed.toList.countP (fun b=>!b)
theorem countP_set:∀ (l:List Bool) (i:Nat),l[i]?=some false->(l.set i true).countP (fun b=>!b)+1=l.countP (fun b=>!b):=by
 intro l
 induction l with
 | nil=>intro i a;simp at a
 | cons b l c =>
  intro i a;cases i with
  | zero=>simp at a;subst a;simp
  | succ i =>
   simp only[List.getElem?_cons_succ]at a;simp only[List.set_cons_succ,List.countP_cons];have:=c i a;omega
theorem unl_set{listed:Array Bool}(h:listed[i]?=some false):unl (listed.setIfInBounds i true)+1=unl listed:=by
 unfold unl;rw[Array.toList_setIfInBounds];exact countP_set _ _ (by simpa using h)
theorem unl_zero{listed:Array Bool}(h:unl listed=0):listed[i]?≠some false:=by
 unfold unl at h;rw[List.countP_eq_zero]at h;intro a;have b:listed.toList[i]?=some false:=by simpa using a
 exact h false (List.mem_of_getElem? b) rfl
theorem go_ord:∀ (fuel t:Nat) (listed:Array Bool) (acc:List Nat),listed.size=ops.size->unl listed<=fuel ->
  ∃ l,Region.linearise.go .any ops fuel t listed acc=acc.reverse++l/\Ord ops (fun i=>listed.getD i false) l:=by
 intro fuel
 induction fuel with
 | zero =>
  intro t listed acc d hu;refine⟨[],by simp[Region.linearise.go],.nil _ ?_⟩;intro i o g k;exfalso;have a:i<listed.size:=by rw[d];exact(Array.getElem?_eq_some_iff.1 g).1
  have:listed[i]?=some false:=by
   rw[Array.getElem?_eq_getElem a];simp only[Array.getD_eq_getD_getElem?,Array.getElem?_eq_getElem a,Option.getD_some]at k;rw[k]
  exact unl_zero (Nat.le_zero.1 hu) this
 | succ fuel w =>
  intro t listed acc d hu;unfold Region.linearise.go;simp only;generalize q:(List.range ops.size).filter (fun i=>!listed.getD i true&&((ops[i]?).map (·.after.all fun e=>!Region.binds .any e||listed.getD e.on false)).getD false)=rs;have f:∀ i,i∈rs↔i<ops.size/\listed.getD i true=false/\∃ o,ops[i]?=some o/\∀ j∈predsOf o,listed.getD j false=true:=by
   intro i;rw[<- q,List.mem_filter,List.mem_range];simp only[Bool.and_eq_true,Bool.not_eq_true'];refine and_congr_right fun a=>and_congr_right fun _=>?_;have g:ops[i]?=some ops[i]:=Array.getElem?_eq_getElem a;rw[g];simp only[Option.map_some,Option.getD_some,Option.some.injEq,exists_eq_left',mem_predsOf,Array.all_eq_true_iff_forall_mem,Bool.or_eq_true,Bool.not_eq_true'];constructor
   ·rintro h j ⟨e,he,hb,rfl⟩;rcases h e he with h'|h'
    ·rw[hb]at h';cases h'
    ·exact h'
   ·intro h e he;cases hb:Region.binds .any e with
    | false=>exact .inl rfl
    | true=>exact .inr (h e.on ⟨e,he,hb,rfl⟩)
  split
  ·rename_i i s;have m:i∈rs:=List.mem_of_getElem? s;obtain⟨a,k,o,g,hp⟩:=(f i).1 m;have b:i<listed.size:=by rw[d];exact a
   have c:listed[i]?=some false:=by
    rw[Array.getElem?_eq_getElem b];simp only[Array.getD_eq_getD_getElem?,Array.getElem?_eq_getElem b,Option.getD_some]at k;rw[k]
   obtain⟨l,v,r⟩:=w (t / rs.length) (listed.setIfInBounds i true) (i::acc) (by simp[d]) (by have:=unl_set c;omega);refine⟨i::l,by rw[v];simp,.cons _ i o l g ?_ hp ?_⟩
   ·simp[Array.getD_eq_getD_getElem?,c]
   ·have e:(fun x=>(listed.setIfInBounds i true).getD x false)=fun x=>Nat.beq x i||listed.getD x false:=by
     funext x;cases hb:Nat.beq x i with
     | true=>have:=Jc hb;subst this;simp[Array.getD_eq_getD_getElem?,b]
     | false =>
      have:=Zj hb;simp[Array.getD_eq_getD_getElem?,Array.getElem?_setIfInBounds_ne (Ne.symm this)]
    rw[<- e];exact r
  ·rename_i n;refine⟨[],by simp,.nil _ ?_⟩;intro i o g k;by_cases hex:∃ j∈predsOf o,listed.getD j false=false
   ·exact hex
   ·exfalso;have a:i<ops.size:=(Array.getElem?_eq_some_iff.1 g).1;have b:i<listed.size:=by rw[d];exact a
    have m:i∈rs:=(f i).2 ⟨a,by simpa[Array.getD_eq_getD_getElem?,Array.getElem?_eq_getElem b] using k,o,g,fun j u=>by
     cases hb:listed.getD j false with
     | true=>rfl
     | false=>exact absurd ⟨j,u,hb⟩ hex⟩
    have p:0<rs.length:=List.length_pos_of_mem m;have:=List.getElem?_eq_getElem (Nat.mod_lt t p);rw[n]at this;cases this
theorem schedule_ord(ops:Array Oper)(t:Nat):Ord ops (fun _=>false) (Region.schedule true ops t):=by
 unfold Region.schedule Region.linearise;simp only[Bool.true_or,if_true];obtain⟨l,b,a⟩:=go_ord (ops:=ops) ops.size t (Array.replicate ops.size false) [] (by simp) (by
  unfold unl;exact Nat.le_trans List.countP_le_length (by simp))
 rw[b];have e:(fun i=>(Array.replicate ops.size false).getD i false)=fun _=>false:=by
  funext i;simp only[Array.getD_eq_getD_getElem?,Array.getElem?_replicate];split<;>rfl
 rw[e]at a;simpa using a
theorem edgesOk_spec:∀ (l:List Oper) (n:Nat),edgesOk n l=true->∀ (i:Nat) (o:Oper),l[i]?=some o->∀ j∈predsOf o,j<n+i:=by
 have back:∀ (i:Nat) (l:List Nat),backL i l=true->∀ j∈l,j<i:=by
  intro i l
  induction l with
  | nil=>intro _ j b;cases b
  | cons a l f =>
   intro h j b;rw[backL]at h;simp only[Bool.and_eq_true,Bool.not_eq_true']at h;rcases List.mem_cons.1 b with rfl|b
   ·have:=h.1;rcases Nat.lt_or_ge j i with e|c
    ·exact e
    ·rw[Nat.ble_eq_true_of_le c]at this;cases this
   ·exact f h.2 j b
 intro l
 induction l with
 | nil=>intro n _ i o h;simp at h
 | cons a l f =>
  intro n h i o d j b;rw[edgesOk]at h;simp only[Bool.and_eq_true]at h;cases i with
  | zero=>simp at d;subst d;exact back n _ h.1 j b
  | succ i=>have:=f (n+1) h.2 i o (by simpa using d) j b;omega
theorem Ord.full{d:Nat->Bool}(k:edgesOk 0 ops.toList=true)(h:Ord ops d []):∀ (i:Nat) (o:Oper),ops[i]?=some o->d i=true:=by
 cases h with
 | nil _ m =>
  intro i
  induction i using Nat.strongRecOn with
  | _ i n =>
   intro o f;cases hb:d i with
   | true=>rfl
   | false =>
    exfalso;obtain⟨j,l,g⟩:=m i o f hb;have b:=edgesOk_spec ops.toList 0 k i o (by simpa using f) j l;rw[Nat.zero_add]at b;have e:j<ops.size:=Nat.lt_trans b (Array.getElem?_eq_some_iff.1 f).1;rw[n j b ops[j] (Array.getElem?_eq_getElem e)]at g;cases g
/-! ### a with c -/
theorem Sim.weak{j:Env}(s:Sim σ ro PB e tmps hp)(h:∀ t a,j.get t=some a->e.get t=some a):Sim σ ro PB j tmps hp where
 slot i a l b:=s.slot i a l (h i a b)
 cell t v c b:=s.cell t v c (h t _ b)
 only t a c b:=s.only t a c (h t a b)
 inj t k a g c f b d:=s.inj t k a g c f (h t a b) (h k g d)
 prot t a c b:=s.prot t a c (h t a b)
 cover t a c b:=s.cover t a c (h t a b)
theorem Sim.addSlot(s:Sim σ ro PB e tmps hp){a:AV}(n:d<4096)(j:a≠.bad->tmps[d]?=some (conc σ a)):Sim σ ro PB ((d,a)::e) tmps hp:=by
 have g:∀ i,Env.get ((d,a)::e) i=if d=i then some a else e.get i:=fun i=>Q0 _ _ _ _
 have f:∀ t,4096<=t->Env.get ((d,a)::e) t=e.get t:=fun t j=>by rw[g,if_neg (Nat.ne_of_lt (Nat.lt_of_lt_of_le n j))]
 refine⟨?_,fun t v h1 c=>s.cell t v h1 (f t h1▸c),fun t b h1 c=>s.only t b h1 (f t h1▸c),fun t l b m h1 h2 c h=>s.inj t l b m h1 h2 (f t h1▸c) (f l h2▸h),fun t b h1 c=>s.prot t b h1 (f t h1▸c),fun t b h1 c=>s.cover t b h1 (f t h1▸c)⟩;intro i b o c hb;rw[g]at c;by_cases k:d=i
 ·subst k;rw[if_pos rfl]at c;cases c;exact j hb
 ·rw[if_neg k]at c;exact s.slot i b o c hb
theorem Kd{l:List PE}{s:Nat}(h:∀ p∈l,p.d≠s):(penvE l e).get s=e.get s:=by
 induction l with
 | nil=>rfl
 | cons p l a =>
  rw[penvE,Q0,if_neg (h p (by simp)),a fun p hp=>h p (by simp[hp])]
def Apart(l:List PE):Prop:=l.Pairwise fun p p'=>p.d≠p'.d/\p.i≠p'.i
theorem Apart.filter{l:List PE}(h:Apart l)(f:PE->Bool):Apart (l.filter f):=List.Pairwise.filter _ h
theorem Apart.dst{l:List PE}(h:Apart l){p c:PE}(hp:p∈l)(f:c∈l)(e:p.d=c.d):p=c:=by
 induction l with
 | nil=>cases hp
 | cons a l g =>
  cases h with
  | cons h1 h2 =>
   rcases List.mem_cons.1 hp with q|q<;>rcases List.mem_cons.1 f with b|b
   ·exact q.trans b.symm
   ·exact absurd (q▸e) (h1 c b).1
   ·exact absurd (b▸e).symm (h1 p q).1
   ·exact g h2 q b
theorem Apart.idx{l:List PE}(h:Apart l){p c:PE}(hp:p∈l)(d:c∈l)(e:p.i=c.i):p=c:=by
 induction l with
 | nil=>cases hp
 | cons a l f =>
  cases h with
  | cons h1 h2 =>
   rcases List.mem_cons.1 hp with q|q<;>rcases List.mem_cons.1 d with b|b
   ·exact q.trans b.symm
   ·exact absurd (q▸e) (h1 c b).2
   ·exact absurd (b▸e).symm (h1 p q).2
   ·exact f h2 q b
theorem Kc{l:List PE}(h:Apart l){p:PE}(hp:p∈l):(penvE l e).get p.d=some p.a:=by
 induction l with
 | nil=>cases hp
 | cons a l b =>
  cases h with
  | cons h1 h2 =>
   rw[penvE,Q0];rcases List.mem_cons.1 hp with rfl|hp
   ·rw[if_pos rfl]
   ·rw[if_neg (h1 p hp).1];exact b h2 hp
theorem W3{l:List PE}:i∈idxL l↔∃ p∈l,p.i=i:=by
 induction l with
 | nil=>simp[idxL]
 | cons p l a =>
  simp only[idxL,List.mem_cons,a];constructor
  ·rintro(rfl|⟨q,h1,h2⟩)
   ·exact⟨p,.inl rfl,rfl⟩
   ·exact⟨q,.inr h1,h2⟩
  ·rintro⟨q,rfl|h1,h2⟩
   ·exact .inl h2.symm
   ·exact .inr ⟨q,h1,h2⟩
theorem mem_dstL{l:List PE}:i∈dstL l↔∃ p∈l,p.d=i:=by
 induction l with
 | nil=>simp[dstL]
 | cons p l a =>
  simp only[dstL,List.mem_cons,a];constructor
  ·rintro(rfl|⟨q,h1,h2⟩)
   ·exact⟨p,.inl rfl,rfl⟩
   ·exact⟨q,.inr h1,h2⟩
  ·rintro⟨q,rfl|h1,h2⟩
   ·exact .inl h2.symm
   ·exact .inr ⟨q,h1,h2⟩
theorem allMem_iff{l m:List Nat}:allMem l m=true↔∀ i∈l,i∈m:=by
 induction l with
 | nil=>simp[allMem]
 | cons i l a=>simp[allMem,a,Ht]
theorem Hx:isReady ops done i=true↔∃ o,ops[i]?=some o/\i∉done/\∀ j∈predsOf o,j∈done:=by
 unfold isReady;cases ops[i]? with
 | none=>simp
 | some o =>
  simp only[Bool.and_eq_true,Bool.not_eq_true',Jq,allMem_iff,Option.some.injEq,exists_eq_left']
theorem pickF_some{C:Ctx}{E:Env}:∀ {l:List Nat},pickF C ops E done l=.some i o d->ops[i]?=some o/\i∉done/\(∀ j∈predsOf o,j∈done)/\isFloat C E o=true/\o.dst=some d:=by
 intro l
 induction l with
 | nil=>intro h;cases h
 | cons j l b =>
  intro h;rw[pickF]at h;split at h
  ·rename_i k a hr;split at h
   ·rename_i g e c;cases h;obtain⟨f,h1,h2,h3⟩:=Hx.1 hr;rw[a]at h1;cases h1;exact⟨a,h2,h3,e,c⟩
   ·exact b h
  ·exact b h
theorem mem_readyL:∀ {l:List Nat},i∈readyL ops done l↔i∈l/\isReady ops done i=true:=by
 intro l
 induction l with
 | nil=>simp[readyL]
 | cons j l a =>
  rw[readyL];cases hr:isReady ops done j with
  | true =>
   simp only[List.mem_cons,a];constructor
   ·rintro(rfl|⟨h1,h2⟩)
    ·exact⟨.inl rfl,hr⟩
    ·exact⟨.inr h1,h2⟩
   ·rintro⟨rfl|h1,h2⟩
    ·exact .inl rfl
    ·exact .inr ⟨h1,h2⟩
  | false =>
   simp only[a,List.mem_cons];constructor
   ·rintro⟨h1,h2⟩;exact⟨.inr h1,h2⟩
   ·rintro⟨rfl|h1,h2⟩
    ·rw[hr]at h2;cases h2
    ·exact⟨h1,h2⟩
theorem splitP_spec{pr:List Nat}:∀ {l:List PE},(∀ p,p∈(splitP pr l).1↔p∈l/\p.i∈pr)/\(∀ p,p∈(splitP pr l).2↔p∈l/\p.i∉pr)/\(Apart l->Apart (splitP pr l).1/\Apart (splitP pr l).2):=by
 intro l
 induction l with
 | nil=>exact⟨fun p=>by simp[splitP],fun p=>by simp[splitP],fun _=>⟨List.Pairwise.nil,List.Pairwise.nil⟩⟩
 | cons q l f =>
  obtain⟨h1,h2,h3⟩:=f;have e:splitP pr (q::l)=match memN pr q.i with|true=>(q::(splitP pr l).1,(splitP pr l).2)|false=>((splitP pr l).1,q::(splitP pr l).2):=by
   rw[splitP];cases memN pr q.i<;>rfl
  rw[e];cases hm:memN pr q.i with
  | true =>
   have c:=Ht.1 hm;refine⟨fun p=>?_,fun p=>?_,fun d=>?_⟩
   ·simp only[List.mem_cons,h1];constructor
    ·rintro(rfl|⟨a,b⟩)
     ·exact⟨.inl rfl,c⟩
     ·exact⟨.inr a,b⟩
    ·rintro⟨rfl|a,b⟩
     ·exact .inl rfl
     ·exact .inr ⟨a,b⟩
   ·simp only[List.mem_cons,h2];constructor
    ·rintro⟨a,b⟩;exact⟨.inr a,b⟩
    ·rintro⟨rfl|a,b⟩
     ·exact absurd c b
     ·exact⟨a,b⟩
   ·cases d with
    | cons a b=>exact⟨List.Pairwise.cons (fun p hp=>a p ((h1 p).1 hp).1) (h3 b).1,(h3 b).2⟩
  | false =>
   have c:=Jq.1 hm;refine⟨fun p=>?_,fun p=>?_,fun d=>?_⟩
   ·simp only[List.mem_cons,h1];constructor
    ·rintro⟨a,b⟩;exact⟨.inr a,b⟩
    ·rintro⟨rfl|a,b⟩
     ·exact absurd b c
     ·exact⟨a,b⟩
   ·simp only[List.mem_cons,h2];constructor
    ·rintro(rfl|⟨a,b⟩)
     ·exact⟨.inl rfl,c⟩
     ·exact⟨.inr a,b⟩
    ·rintro⟨rfl|a,b⟩
     ·exact .inl rfl
     ·exact .inr ⟨a,b⟩
   ·cases d with
    | cons a b=>exact⟨(h3 b).1,List.Pairwise.cons (fun p hp=>a p ((h2 p).1 hp).1) (h3 b).2⟩
section
variable {X:XP} {C:Ctx} {Q:Leaf->LH->Prop} {h:LH}
variable {P:Program}{d:Nat}{E E':Env}{o:Oper}{ro:List Nat}{ops:Array Oper}
theorem headT_wp{a:AV}{b:Env}{k:AV->T}(hw:(headT ((d,a)::b) d k).wp X P Q h):a≠.bad/\(k a).wp X P Q h:=by
 unfold headT at hw;simp only[Gx]at hw;cases a with
 | val v=>exact⟨by simp,hw⟩
 | pp n j=>exact⟨by simp,hw⟩
 | bad=>exact hw.elim
theorem splitA_wp{g:Bool}{a:AV}{k:AV->T}(hb:a≠.bad)(hw:(splitA g a k).wp X P Q h):(k a).wp X P Q h:=by
 unfold splitA at hw;split at hw
 ·rename_i b;cases b<;>exact hw
 ·exact hw
theorem Dt{x:Operand}(h:∀ t,x=.tmp t->E'.get t=E.get t):opdA E' x=opdA E x:=by
 cases x with
 | tmp t=>show slotA E' t=slotA E t;unfold slotA;rw[h t rfl]
 | _=>rfl
theorem mem_tmpsL{l:List Operand}{t:Nat}:t∈tmpsL l↔.tmp t∈l:=by
 induction l with
 | nil=>simp[tmpsL]
 | cons x l a=>cases x<;>simp[tmpsL,a]
theorem isFloat_congr(h:∀ s,E'.get s=E.get s):isFloat C E' o=isFloat C E o:=by
 have e:opdA E'=opdA E:=by funext x;exact Dt fun t _=>h t
 have a:isFloat.withL E'=isFloat.withL E:=by
  funext l
  induction l with
  | nil=>rfl
  | cons x l b=>rw[isFloat.withL,isFloat.withL,b,e]
 unfold isFloat;rw[e,a]
theorem guard_re{fin q:Bool}{k:Env->T}(G:isFloat C E o=true)(z:o.dst=some d)(hw:(guardT C fin ro q ops o E k).wp X C.P Q h) :
  ∃ a tail,(∀ s,Env.get tail s=E.get s)/\(k ((d,a)::tail)).wp X C.P Q h/\∀ (E':Env) (k':Env->T) f,(∀ s∈looksL ops o,E'.get s=E.get s)->(∀ s,4096<=s->E'.get s=E.get s) ->
   (∀ c:Env,(∀ s,c.get s=E'.get s)->(k' ((d,a)::c)).wp X C.P f h)->(guardT C fin ro q ops o E' k').wp X C.P f h:=by
 unfold guardT at hw ⊢;cases A:o.guard with
 | none =>
  rw[A]at hw;obtain⟨a,h1,re⟩:=float_re G z hw;refine⟨a,E,fun _=>rfl,h1,fun E' k' f n hp p=>?_⟩;have D:∀ t∈tmpsL o.op.operands.toList,E'.get t=E.get t:=by intro t J;exact n t (by unfold looksL;rw[A];exact J)
  exact re E' k' f (fun x F=>Dt fun t e=>D t (mem_tmpsL.2 (e▸F))) hp (p E' fun _=>rfl)
 | some g =>
  obtain⟨j,want⟩:=g;rw[A]at hw;simp only at hw ⊢;cases B:(ops[j]?).bind (·.dst) with
  | none=>rw[B]at hw;exact hw.elim
  | some dg =>
   rw[B]at hw;simp only at hw ⊢;have i:looksL ops o=dg::tmpsL o.op.operands.toList:=by unfold looksL;rw[A];simp only[B]
   cases hb:slotA E dg with
   | none=>rw[hb]at hw;exact hw.elim
   | some H =>
    rw[hb]at hw;cases H with
    | pp _ _=>exact hw.elim
    | bad=>exact hw.elim
    | val v =>
     cases v<;>first|exact hw.elim|skip
     case tuple vs =>
      rw[z]at hw;refine⟨.val undef,E,fun _=>rfl,hw,fun E' k' f n hp p=>?_⟩;have he:E'.get dg=E.get dg:=n dg (by rw[i];simp);obtain⟨y,m⟩:=J2 hb;have r:slotA E' dg=some (.val (.tuple vs)):=by unfold slotA;rw[Wi.2 y,he,m]
      rw[r,z];exact p E' fun _=>rfl
     rename_i b;obtain⟨y,m⟩:=J2 hb;have same:∀ s,Env.get ((dg,.val (.bool b))::E) s=E.get s:=by
      intro s;rw[Q0];by_cases e:dg=s
      ·subst e;rw[if_pos rfl,m]
      ·rw[if_neg e]
     have l:∀ E':Env,E'.get dg=E.get dg->∀ s,Env.get ((dg,.val (.bool b))::E') s=E'.get s:=by
      intro E' he s;rw[Q0];by_cases e:dg=s
      ·subst e;rw[if_pos rfl,he,m]
      ·rw[if_neg e]
     have r:∀ E':Env,E'.get dg=E.get dg->slotA E' dg=some (.val (.bool b)):=by
      intro E' he;unfold slotA;rw[Wi.2 y,he,m]
     have yes:(opT C fin ro q o ((dg,.val (.bool b))::E) k).wp X C.P Q h->∃ a tail,(∀ s,Env.get tail s=E.get s)/\(k ((d,a)::tail)).wp X C.P Q h/\∀ (E':Env) (k':Env->T) f,(∀ s∈looksL ops o,E'.get s=E.get s)->(∀ s,4096<=s->E'.get s=E.get s) ->
       (∀ c:Env,(∀ s,c.get s=E'.get s)->(k' ((d,a)::c)).wp X C.P f h)->slotA E' dg=some (.val (.bool b))/\(opT C fin ro q o ((dg,.val (.bool b))::E') k').wp X C.P f h:=by
      intro hw;obtain⟨a,h1,re⟩:=float_re (by rw[isFloat_congr same];exact G) z hw;refine⟨a,_,same,h1,fun E' k' f n hp p=>?_⟩;have he:E'.get dg=E.get dg:=n dg (by rw[i];simp);refine⟨r E' he,re _ k' f (fun x F=>Dt fun t e=>?_) (fun s I=>?_) (p _ (l E' he))⟩
      ·rw[l E' he,same,n t (by rw[i];exact List.mem_cons_of_mem _ (mem_tmpsL.2 (e▸F)))]
      ·rw[l E' he,same,hp s I]
     have no:(k (setD ((dg,.val (.bool b))::E) o.dst (.val undef))).wp X C.P Q h->∃ a tail,(∀ s,Env.get tail s=E.get s)/\(k ((d,a)::tail)).wp X C.P Q h/\∀ (E':Env) (k':Env->T) f,(∀ s∈looksL ops o,E'.get s=E.get s)->(∀ s,4096<=s->E'.get s=E.get s) ->
       (∀ c:Env,(∀ s,c.get s=E'.get s)->(k' ((d,a)::c)).wp X C.P f h)->slotA E' dg=some (.val (.bool b))/\(k' (setD ((dg,.val (.bool b))::E') o.dst (.val undef))).wp X C.P f h:=by
      intro hw;rw[z]at hw ⊢;refine⟨.val undef,_,same,hw,fun E' k' f n hp p=>?_⟩;have he:E'.get dg=E.get dg:=n dg (by rw[i];simp);exact⟨r E' he,p _ (l E' he)⟩
     cases b<;>cases want<;>simp only[cond_true,cond_false]at hw
     ·obtain⟨a,tail,h1,h2,h3⟩:=yes hw;refine⟨a,tail,h1,h2,fun E' k' f n hp p=>?_⟩;obtain⟨u,w⟩:=h3 E' k' f n hp p;rw[u];exact w
     ·obtain⟨a,tail,h1,h2,h3⟩:=no hw;refine⟨a,tail,h1,h2,fun E' k' f n hp p=>?_⟩;obtain⟨u,w⟩:=h3 E' k' f n hp p;rw[u];exact w
     ·obtain⟨a,tail,h1,h2,h3⟩:=no hw;refine⟨a,tail,h1,h2,fun E' k' f n hp p=>?_⟩;obtain⟨u,w⟩:=h3 E' k' f n hp p;rw[u];exact w
     ·obtain⟨a,tail,h1,h2,h3⟩:=yes hw;refine⟨a,tail,h1,h2,fun E' k' f n hp p=>?_⟩;obtain⟨u,w⟩:=h3 E' k' f n hp p;rw[u];exact w
def Prom(X:XP)(C:Ctx)(ro:List Nat)(ops:Array Oper)(E:Env)(p:PE)(h:LH):Prop :=
 ∀ (E':Env) (k':Env->T) Q',(∀ s∈looksL ops p.o,E'.get s=E.get s)->(∀ s,4096<=s->E'.get s=E.get s) ->
  (∀ tail':Env,(∀ s,tail'.get s=E'.get s)->(k' ((p.d,p.a)::tail')).wp X C.P Q' h)->(guardT C false ro false ops p.o E' k').wp X C.P Q' h
theorem rechk_wp{k:T}:∀ {l:List PE},(∀ p∈l,p.o.dst=some p.d)->(rechk C ro ops E k l).wp X C.P Q h->(∀ p∈l,Prom X C ro ops E p h)/\k.wp X C.P Q h:=by
 intro l
 induction l with
 | nil=>intro _ hw;exact⟨fun p hp=>(by cases hp),hw⟩
 | cons p l j =>
  intro f hw;rw[rechk]at hw;cases c:isFloat C E p.o with
  | false=>rw[c]at hw;exact hw.elim
  | true =>
   rw[c]at hw;obtain⟨a,tail,_,h1,re⟩:=guard_re c (f p (by simp)) hw;obtain⟨_,i,h2⟩:=headT_wp h1;have e:a=p.a:=i;subst e;obtain⟨h3,g⟩:=j (fun q b=>f q (by simp[b])) h2;refine⟨?_,g⟩;intro q b;rcases List.mem_cons.1 b with rfl|b
   ·exact re
   ·exact h3 q b
theorem bothL_wp{f:Nat->T}:∀ {l:List Nat},(bothL (mapT f l)).wp X P Q h->∀ i∈l,(f i).wp X P Q h:=by
 intro l
 induction l with
 | nil=>intro _ i c;cases c
 | cons a l d =>
  intro hw i c;cases l with
  | nil =>
   rcases List.mem_cons.1 c with rfl|c
   ·exact hw
   ·cases c
  | cons b l =>
   obtain⟨h1,h2⟩:=hw;rcases List.mem_cons.1 c with rfl|c
   ·exact h1
   ·exact d h2 i c
end
end
end Go.TM
