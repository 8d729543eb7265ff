/- Contracts and laws for the proof, joined by a program. No condition. -/
import Derived.Test.YtfkfohpnpljihaaGreatDoorM3
set_option linter.all false
noncomputable section
open Go Go.Conc Go.TM Go.Proofs
set_option maxRecDepth 100000
open Go.IntKind (wrap)
section
namespace Go.Y
open Go.ChangeShapes Go.WideShapes Go.RowKit
end Go.Y
namespace Go.Y.Tre
open Go.Proofs.YtfkfohpnpljihaaGreatDoor
open Go.ChangeShapes Go.WideShapes Go.RowKit
variable {n:Int}{W:World}{sp:Nat->Bool}{held a b:Bool}{fuel:Nat}{cs:List Value}
theorem own:ownKnob Tryz.prog.godebug=none:=by kernel_rfl
theorem lo:laidOutB Tryz.prog=true:=by kernel_rfl
theorem TT:TreatyTy Tryz.prog 3 30 56 58 53 55 where
 int:=by kernel_rfl
 int1:=by kernel_rfl
 kind:=by kernel_rfl
 kind1:=by kernel_rfl
 bytes:=⟨of_decide_eq_true (by kernel_rfl),of_decide_eq_true (by kernel_rfl)⟩
 ints:=by kernel_rfl
 ints1:=by kernel_rfl
 ev:=⟨_,Tryz.underlying58,rfl⟩
 ev5:=by kernel_rfl
 evs:=by kernel_rfl
 evs1:=by kernel_rfl
 file:=⟨_,Tryz.underlying55,rfl⟩
 file7:=by kernel_rfl
theorem und57:Tryz.prog.underlying 27=some (.int .u16):=by kernel_rfl
theorem und5:Tryz.prog.underlying 5=some (.int .u8):=by kernel_rfl
theorem wf_u16(h:(Lit.int .u16 n).wf=true):0<=n/\n<=65535:=by simpa[Lit.wf,IntKind.min,IntKind.max,IntKind.signed,IntKind.bits] using h
theorem wf_u8(h:(Lit.int .u8 n).wf=true):0<=n/\n<=255:=by simpa[Lit.wf,IntKind.min,IntKind.max,IntKind.signed,IntKind.bits] using h
def kindsN : String := "touchmark/treaty.kinds"
def boundN : String := "touchmark/treaty.bound"
theorem gKinds:Tryz.prog.globalNamed kindsN=some 0:=by kernel_rfl
theorem gBound:Tryz.prog.globalNamed boundN=some 2:=by kernel_rfl
theorem tKinds:(Tryz.prog.globals[0]?).map (·.type)=some 241:=by kernel_rfl
theorem tBound:(Tryz.prog.globals[2]?).map (·.type)=some 238:=by kernel_rfl
theorem uses_of{H:Type}{enc:TypeId×Value->H}{x:DataW H×List MemPlace}(h:DataW.trod enc Tryz.prog W 0 sp held fuel 238 cs=some x)(c:x.1=.agg [.lit (.bool a),.lit (.bool b)]):cs=[.bool a,.bool b]:=by
 obtain⟨ys,n,_,rfl,g,hlen,f⟩:=DataW.trod_struct Tryz.underlying238 h;rw[show Tryz.prog.cellsOf 238=2 by kernel_rfl]at g
 match cs,g,ys,hlen with
 | [v0,v1],_,[j,k],_ =>
  have h0:DataW.trod enc Tryz.prog W 0 sp held n 4 (([v0,v1].drop 0).take (Tryz.prog.cellsOf 4))=some j:=f 0 _ rfl;have h1:DataW.trod enc Tryz.prog W 0 sp held n 4 (([v0,v1].drop 1).take (Tryz.prog.cellsOf 4))=some k:=f 1 _ rfl;rw[show Tryz.prog.cellsOf 4=1 by kernel_rfl]at h0 h1;obtain⟨b0,d,g0⟩:=DataW.trod_bool Tryz.underlying4 h0;obtain⟨b1,e,i⟩:=DataW.trod_bool Tryz.underlying4 h1;simp at d e;simp[g0,i]at c;rw[d,e,c.1,c.2]
theorem Ho{x:DataW (List UInt8)×List MemPlace}{s:List UInt8}{c:UInt8}{r:List UInt8}{f0:FuncId}(d:((List.range Tryz.prog.funcs.size).filter fun f=>(Tryz.prog.funcs[f]?).any (·.name.toUTF8.data.toList==c::r))=[f0])
 (h:DataW.trod (funcToken Tryz.prog) Tryz.prog W 0 sp true fuel 240 cs=some x)(m:x.1=.agg [.lit (.string s),.agg [.lit (.bool a),.lit (.bool b)],.held (c::r)]):∃ v0,cs=[v0,.bool a,.bool b,.func (.func f0) #[] #[]]:=by
 obtain⟨ys,n,_,rfl,l,hlen,k⟩:=DataW.trod_struct Tryz.underlying240 h;rw[show Tryz.prog.cellsOf 240=4 by kernel_rfl]at l
 match cs,l,ys,hlen with
 | [v0,v1,v2,j],_,[v,o,p],_ =>
  have h1:DataW.trod (funcToken Tryz.prog) Tryz.prog W 0 sp true n 238 (([v0,v1,v2,j].drop 1).take (Tryz.prog.cellsOf 238))=some o:=k 1 _ rfl;have h2:DataW.trod (funcToken Tryz.prog) Tryz.prog W 0 sp true n 42 (([v0,v1,v2,j].drop 3).take (Tryz.prog.cellsOf 42))=some p:=k 2 _ rfl;rw[show Tryz.prog.cellsOf 238=2 by kernel_rfl]at h1;rw[show Tryz.prog.cellsOf 42=1 by kernel_rfl]at h2;simp only[List.map_cons,List.map_nil,DataW.agg.injEq,List.cons.injEq,and_true]at m;obtain⟨_,e,g⟩:=m;obtain⟨d1,t⟩:=o;obtain⟨d2,u⟩:=p;simp only at e g;subst e;subst g;have i:=uses_of h1 rfl;simp at i;rw[i.1,i.2];refine⟨v0,?_⟩;have q:j=.func (.func f0) #[] #[]:=Go.func_of_trod (P:=Tryz.prog) Tryz.underlying42 d h2;rw[q]
theorem Ys:((List.range Tryz.prog.funcs.size).filter fun f=>(Tryz.prog.funcs[f]?).any (·.name.toUTF8.data.toList==[116,111,117,99,104,109,97,114,107,47,116,114,101,97,116,121,46,121,101,115]))=[235]:=by kernel_rfl
theorem Y3:((List.range Tryz.prog.funcs.size).filter fun f=>(Tryz.prog.funcs[f]?).any (·.name.toUTF8.data.toList==[116,111,117,99,104,109,97,114,107,47,116,114,101,97,116,121,46,110,111]))=[236]:=by kernel_rfl
theorem array7{α:Type}:∀ {l:List α},l.length=7->∃ a b c d e f g,l=[a,b,c,d,e,f,g]
 | [a,b,c,d,e,f,g],_=>⟨a,b,c,d,e,f,g,rfl⟩
theorem four_cells{i:Nat}{v0 v1 v2 a:Value}(h:(cs.drop (i*4)).take 4=[v0,v1,v2,a]):cs[i*4+1]?=some v1/\cs[i*4+2]?=some v2/\cs[i*4+3]?=some a:=by
 have key:∀ j,j<4->cs[i*4+j]?=[v0,v1,v2,a][j]?:=by
  intro j b;rw[<- h,List.getElem?_take,if_pos b,List.getElem?_drop]
 exact⟨key 1 (by omega),key 2 (by omega),key 3 (by omega)⟩
theorem laid_at{P:Program}{w:World}{n:String}{d:DataW Unit}:∀ {l:List (String×DataW Unit)} {ps:List MemPlace},DataW.LaidVars P w l ps->(n,d)∈l->∃ g t cs fuel p,P.globalNamed n=some g/\(P.globals[g]?).map (·.type)=some t/\w.var? P n=some cs/\DataW.trod (fun _=>()) P w 0 (fun _=>true) false fuel t cs.toList=some (d,p)
 | [],_,_,h=>by simp at h
 | (m,e)::r,ps,h,hm=>by
  obtain⟨g,t,cs,fuel,p,q,h1,h2,h3,b,h5,_⟩:=h;rcases List.mem_cons.1 hm with a|a
  ·cases a;exact⟨g,t,cs,fuel,p,h1,h2,h3,b⟩
  ·exact laid_at h5 a
theorem kinds_of_laid{l:List (String×DataW Unit)}(h:laidMetH Tryz.prog l W)(H:(kindsN,Rows.laid_touchmark_treaty_kinds)∈l)(r:(boundN,Rows.laid_touchmark_treaty_bound)∈l):Kinds (getW W):=by
 obtain⟨g,t,cs,fuel,p,G,J,hv,F⟩:=laidMetH.funcs h (n:=kindsN) H;obtain rfl:=Option.some.inj (gKinds.symm.trans G);obtain rfl:=Option.some.inj (tKinds.symm.trans J);obtain⟨xs,m,_,o,K,I,k⟩:=DataW.trod_array Tryz.underlying241 F;have a:∀ j:Nat,W.cell? ⟨0,j,none⟩=cs[j]?:=World.var?_cell gKinds hv;obtain⟨N,O,P,Q,R,S,U,rfl⟩:=array7 I;have x:Tryz.prog.cellsOf 240=4:=by kernel_rfl
 simp only[Prod.mk.injEq]at o;obtain⟨o,_⟩:=o;simp only[DataW.funcsOut,DataW.funcsOutAll,List.map_cons,List.map_nil,DataW.agg.injEq,List.cons.injEq,beq_self_eq_true,if_true,and_true]at o;obtain⟨g0,y,z,A,B,C,D⟩:=o;rw[x]at k;have key:∀ i,i<7->∃ v0,(cs.toList.drop (i*4)).take 4=[v0,.bool (landK i),.bool (sinceK i),.func (.func (if givesK i then 235 else 236)) #[] #[]]:=by
  intro i d;have b:=k i d
  match i,d with
  | 0,_=>exact Ho Ys b g0.symm
  | 1,_=>exact Ho Y3 b y.symm
  | 2,_=>exact Ho Ys b z.symm
  | 3,_=>exact Ho Y3 b A.symm
  | 4,_=>exact Ho Y3 b B.symm
  | 5,_=>exact Ho Ys b C.symm
  | 6,_=>exact Ho Y3 b D.symm
 have cell:∀ i,i<7->cs[i*4+1]?=some (.bool (landK i))/\cs[i*4+2]?=some (.bool (sinceK i))/\cs[i*4+3]?=some (.func (.func (if givesK i then 235 else 236)) #[] #[]):=by
  intro i d;obtain⟨v0,h0⟩:=key i d;have:=four_cells h0;simpa using this
 obtain⟨ps,E,_⟩:=(laidMetH_iff.1 h).1;obtain⟨g',M,e,q,L,u,v,w,s⟩:=laid_at E (List.mem_filter.2 ⟨r,rfl⟩);obtain rfl:=Option.some.inj (gBound.symm.trans u);obtain rfl:=Option.some.inj (tBound.symm.trans v);have hb:=uses_of s rfl;have c:∀ j:Nat,W.cell? ⟨2,j,none⟩=e[j]?:=World.var?_cell gBound w;have f:∀ j:Nat,e[j]?=[Value.bool true,.bool false][j]?:=fun j=>by rw[<- hb];simp
 exact⟨fun i d=>W6 (by rw[a];exact(cell i d).1),fun i d=>W6 (by rw[a];exact(cell i d).2.1),fun i d=>W6 (by rw[a];exact(cell i d).2.2),W6 (by rw[c,f];rfl),W6 (by rw[c,f];rfl)⟩
def noTreaty:Value:=.agg #[.int .i64 0,.int .i64 0,.int .i64 0,.int .i64 0,.int .i64 0,.int .i64 0,.slice none 0 0]
theorem bytesEv:Tryz.prog.bytesOf 58=56:=by kernel_rfl
theorem treaty_argB{H:Type}{enc:TypeId×Value->H}{base b0:Nat}{r:Reach}{v:Value}{d:DataW H}{ps:List MemPlace}
 (hv:Value.okWide Tryz.prog W r b0 55 v)(j:Light Tryz.prog 55 d)(h:DataW.Trod enc Tryz.prog W base sp held 55 v d ps):∃ f y,v=treatyV f y/\TreatyR (getW W) f y/\y.events.length*56<=2^47:=by
 obtain⟨f,y,rfl,hr⟩:=treaty_arg TT hv j h;refine⟨f,y,rfl,hr,?_⟩;obtain⟨fuel,l⟩:=h;obtain⟨_,n,g⟩:=Kl TT.file j l;obtain⟨m,b,i⟩:=g 6 53 6 rfl;rw[TT.evs1]at b;have b:DataW.trod enc Tryz.prog W base sp held n 53 [.slice f.p f.n f.c]=some m:=b;rw[<- hr.2.1];rcases DataW.trod_slice TT.evs b with⟨e,_⟩|⟨a,len,cap,elems,rest,k,_,e,he,_,o,hm,hlen,_,_⟩
 ·simp at e;rw[e.2.1];omega
 ·have:=i ((elems.length+rest.length)*Tryz.prog.bytesOf 58) (by rw[he];simp[DataW.weights,TT.evs]);rw[bytesEv]at this;simp only[reachBytes]at this;simp at e;have h1:f.n=elems.length:=by rw[e.2.1];omega
  rw[h1];have h2:elems.length*56<=(elems.length+rest.length)*56:=Nat.mul_le_mul_right _ (Nat.le_add_right _ _);omega
end Go.Y.Tre
end
section
namespace Go.TM.Te
abbrev Items:=Nat->Bool
structure GMove where
 edition:Int
 src:Nat
 dst:Nat
def stepsT(l:List GMove)(back:Bool)(e:Int):List (Nat×Nat):=if back then (l.filter fun m=>m.edition==e-1).map (fun m=>(m.dst,m.src)) else (l.filter fun m=>m.edition==e).map (fun m=>(m.src,m.dst))
def coverSure(mv:List (Nat×Nat))(s:Items):Items:=fun y=>mv.any (fun m=>m.2==y)&&mv.all (fun m=>m.2 != y||s m.1)
def coverCan(mv:List (Nat×Nat))(c:Items):Items:=fun y=>mv.any fun m=>m.2==y&&c m.1
def Sub(a b:Items):Prop:=∀ n,a n=true->b n=true
theorem sure_up{mv:List (Nat×Nat)}{s t:Items}(h:Sub s t):Sub (coverSure mv s) (coverSure mv t):=by
 intro y a;unfold coverSure at a ⊢;rw[Bool.and_eq_true,List.all_eq_true]at a ⊢;refine⟨a.1,fun m hm=>?_⟩;have:=a.2 m hm;rw[Bool.or_eq_true]at this ⊢;exact this.imp_right (h _)
theorem can_up{mv:List (Nat×Nat)}{s t:Items}(h:Sub s t):Sub (coverCan mv s) (coverCan mv t):=by
 intro y a;unfold coverCan at a ⊢;rw[List.any_eq_true]at a ⊢;obtain⟨m,h1,h2⟩:=a;rw[Bool.and_eq_true]at h2;exact⟨m,h1,by rw[Bool.and_eq_true];exact⟨h2.1,h _ h2.2⟩⟩
def moveT(l:List GMove)(back:Bool):Nat->Int->Items×Items->Items×Items
 | 0,_,x=>x
 | n+1,e,x=>moveT l back n (if back then e-1 else e+1) (coverSure (stepsT l back e) x.1,coverCan (stepsT l back e) x.2)
theorem move_up(l:List GMove)(back:Bool):∀ (n:Nat) (e:Int) (x y:Items×Items),Sub x.1 y.1->Sub x.2 y.2->Sub (moveT l back n e x).1 (moveT l back n e y).1/\Sub (moveT l back n e x).2 (moveT l back n e y).2
 | 0,_,_,_,h1,h2=>⟨h1,h2⟩
 | n+1,e,x,y,h1,h2=>move_up l back n _ _ _ (sure_up h1) (can_up h2)
end Go.TM.Te
end
section
namespace Go.TM
structure GItem where
 name:ByteArray
 cls:Int
structure GMv where
 ed:Int
 src:Int
 dst:Int
structure GKn where
 ed:Int
 one:Int
 two:Int
 lev:Int
structure GTab where
 eds:List (List GItem)
 moves:List GMv
 kins:List GKn
def ItemE(h:Cells)(a:Addr)(x:GItem):Prop:=h.cell? (a.add 0)=some (.string x.name)/\h.cell? (a.add 1)=some (.int .i64 x.cls)
theorem ItemE.grow:Grow ItemE:=fun _ _ _ _ a h=>⟨a _ _ h.1,a _ _ h.2⟩
def EdE(h:Cells)(a:Addr)(l:List GItem):Prop:=∃ q n c,h.cell? (a.add 0)=some (.slice q n c)/\Sl ItemE 2 h q n l
theorem EdE.grow:Grow EdE:=fun _ _ _ _ a ⟨q,n,c,h1,h2⟩=>⟨q,n,c,a _ _ h1,h2.rd ItemE.grow a⟩
def MvE(h:Cells)(a:Addr)(x:GMv):Prop:=h.cell? (a.add 0)=some (.int .i64 x.ed)/\h.cell? (a.add 1)=some (.int .i64 x.src)/\h.cell? (a.add 2)=some (.int .i64 x.dst)
theorem MvE.grow:Grow MvE:=fun _ _ _ _ a h=>⟨a _ _ h.1,a _ _ h.2.1,a _ _ h.2.2⟩
def KnE(h:Cells)(a:Addr)(x:GKn):Prop:=h.cell? (a.add 0)=some (.int .i64 x.ed)/\h.cell? (a.add 1)=some (.int .i64 x.one)/\h.cell? (a.add 2)=some (.int .i64 x.two)/\h.cell? (a.add 3)=some (.int .i64 x.lev)
theorem KnE.grow:Grow KnE:=fun _ _ _ _ a h=>⟨a _ _ h.1,a _ _ h.2.1,a _ _ h.2.2.1,a _ _ h.2.2.2⟩
structure TabC where
 p0:Option Addr
 n0:Nat
 c0:Nat
 p1:Option Addr
 n1:Nat
 c1:Nat
 p2:Option Addr
 n2:Nat
 c2:Nat
def tabV(f:TabC):Value:=.agg #[.slice f.p0 f.n0 f.c0,.slice f.p1 f.n1 f.c1,.slice f.p2 f.n2 f.c2]
structure TabR(h:Cells)(f:TabC)(t:GTab):Prop where
 eds:Sl EdE 1 h f.p0 f.n0 t.eds
 moves:Sl MvE 3 h f.p1 f.n1 t.moves
 kins:Sl KnE 4 h f.p2 f.n2 t.kins
theorem TabR.rd{h h':Cells}{f:TabC}{t:GTab}(a:Rd h h')(r:TabR h f t):TabR h' f t:=⟨r.eds.rd EdE.grow a,r.moves.rd MvE.grow a,r.kins.rd KnE.grow a⟩
theorem TabR.le{h h':Cells}{f:TabC}{t:GTab}(a:h.le h')(r:TabR h f t):TabR h' f t:=r.rd (Ja a)
def letterB(c:UInt8):Bool:=decide (97<=c.toNat)&&decide (c.toNat<=122)
def digitB(c:UInt8):Bool:=decide (48<=c.toNat)&&decide (c.toNat<=57)
structure NameOk(s:ByteArray):Prop where
 size:1<=s.size/\s.size<=10
 all:∀ (i:Nat) c,s.data[i]?=some c->letterB c=true\/(digitB c=true/\i≠0)
def GTab.items(t:GTab)(e:Int):List GItem:=t.eds.getD e.toNat []
def itemB(t:GTab)(e n:Int):Prop:=0<=e/\e<(t.eds.length:Int)/\0<=n/\n<((t.items e).length:Int)
structure EdOk(l:List GItem):Prop where
 many:l.length<=8
 name:∀ x∈l,NameOk x.name
 cls:∀ x∈l,1<=x.cls/\x.cls<=45
 once:∀ (i j:Nat) x y,i<j->l[i]?=some x->l[j]?=some y->x.name≠y.name
structure TabOk(t:GTab):Prop where
 many:1<=t.eds.length/\t.eds.length<=3
 eds:∀ l∈t.eds,EdOk l
 moves:t.moves.length<=16
 move:∀ m∈t.moves,itemB t m.ed m.src/\itemB t (m.ed+1) m.dst
 moveOnce:∀ (i j:Nat) x y,i<j->t.moves[i]?=some x->t.moves[j]?=some y->¬ (x.ed=y.ed/\x.src=y.src/\x.dst=y.dst)
 kins:t.kins.length<=10
 kin:∀ k∈t.kins,itemB t k.ed k.one/\itemB t k.ed k.two/\k.one<k.two/\1<=k.lev/\k.lev<=5
 kinOnce:∀ (i j:Nat) x y,i<j->t.kins[i]?=some x->t.kins[j]?=some y->¬ (x.ed=y.ed/\x.one=y.one/\x.two=y.two)
theorem TabOk.items8{t:GTab}(o:TabOk t)(e:Int):(t.items e).length<=8:=by
 unfold GTab.items;rw[List.getD_eq_getElem?_getD];cases h:t.eds[e.toNat]? with
 | none=>simp
 | some l=>exact(o.eds l (List.mem_of_getElem? h)).many
section
variable {H:Type} {enc:TypeId×Value->H} {P:Program} {W:World} {base:Nat} {sp:Nat->Bool} {held:Bool} {fuel:Nat} {t:TypeId} {cs:List Value} {x:DataW H×List MemPlace}
structure GoodTy(P:Program)(tI tS tItem tItems tEd tEds tMv tMvs tKn tKns tTab:TypeId):Prop where
 int:P.underlying tI=some (.int .i64)
 int1:P.cellsOf tI=1
 str:P.underlying tS=some .string
 str1:P.cellsOf tS=1
 bytes:0<P.bytesOf tItem/\0<P.bytesOf tEd/\0<P.bytesOf tMv/\0<P.bytesOf tKn
 item:Kg P tItem [(tS,0),(tI,1)]
 item2:P.cellsOf tItem=2
 items:P.underlying tItems=some (.slice tItem)
 items1:P.cellsOf tItems=1
 ed:Kg P tEd [(tItems,0)]
 ed1:P.cellsOf tEd=1
 eds:P.underlying tEds=some (.slice tEd)
 eds1:P.cellsOf tEds=1
 mv:Kg P tMv [(tI,0),(tI,1),(tI,2)]
 mv3:P.cellsOf tMv=3
 mvs:P.underlying tMvs=some (.slice tMv)
 mvs1:P.cellsOf tMvs=1
 kn:Kg P tKn [(tI,0),(tI,1),(tI,2),(tI,3)]
 kn4:P.cellsOf tKn=4
 kns:P.underlying tKns=some (.slice tKn)
 kns1:P.cellsOf tKns=1
 tab:Kg P tTab [(tEds,0),(tMvs,1),(tKns,2)]
 tab3:P.cellsOf tTab=3
variable {tI tS tItem tItems tEd tEds tMv tMvs tKn tKns tTab:TypeId}
theorem items_of_trod(T:GoodTy P tI tS tItem tItems tEd tEds tMv tMvs tKn tKns tTab)(b:Light P tItems x.1)(h:DataW.trod enc P W base sp held fuel tItems cs=some x) :
  ∃ p n c l,cs=[.slice p n c]/\Sl ItemE 2 (getW W) p n l:=by
 refine Hh T.items T.item2 T.bytes.1 b ?_ h;intro n a cs y g hc i b;obtain⟨_,m,f⟩:=Kl T.item b i
 match cs,g with
 | [c0,c1],_ =>
  obtain⟨j,h0,_⟩:=f 0 tS 0 rfl;obtain⟨k,h1,_⟩:=f 1 tI 1 rfl;rw[T.str1]at h0;rw[T.int1]at h1;obtain⟨s,d,_⟩:=DataW.trod_string T.str h0;obtain⟨v,e,_,_⟩:=DataW.trod_int T.int h1;simp at d e;subst d;subst e;exact⟨⟨s,v⟩,hc 0 _ rfl,hc 1 _ rfl⟩
theorem eds_of_trod(T:GoodTy P tI tS tItem tItems tEd tEds tMv tMvs tKn tKns tTab)(b:Light P tEds x.1)(h:DataW.trod enc P W base sp held fuel tEds cs=some x) :
  ∃ p n c l,cs=[.slice p n c]/\Sl EdE 1 (getW W) p n l:=by
 refine Hh T.eds T.ed1 T.bytes.2.1 b ?_ h;intro n a cs y g hc i b;obtain⟨_,m,f⟩:=Kl T.ed b i
 match cs,g with
 | [c0],_ =>
  obtain⟨j,h0,d⟩:=f 0 tItems 0 rfl;rw[T.items1]at h0;obtain⟨p,k,c,l,e,s⟩:=items_of_trod T d h0;simp at e;subst e;exact⟨l,p,k,c,hc 0 _ rfl,s⟩
theorem mvs_of_trod(T:GoodTy P tI tS tItem tItems tEd tEds tMv tMvs tKn tKns tTab)(d:Light P tMvs x.1)(h:DataW.trod enc P W base sp held fuel tMvs cs=some x) :
  ∃ p n c l,cs=[.slice p n c]/\Sl MvE 3 (getW W) p n l:=by
 refine Hh T.mvs T.mv3 T.bytes.2.2.1 d ?_ h;intro n a cs y o hc q d;obtain⟨_,m,b⟩:=Kl T.mv d q
 match cs,o with
 | [c0,c1,c2],_ =>
  obtain⟨r,h0,_⟩:=b 0 tI 0 rfl;obtain⟨s,h1,_⟩:=b 1 tI 1 rfl;obtain⟨t,h2,_⟩:=b 2 tI 2 rfl;rw[T.int1]at h0 h1 h2;obtain⟨i,e,_,_⟩:=DataW.trod_int T.int h0;obtain⟨j,f,_,_⟩:=DataW.trod_int T.int h1;obtain⟨k,g,_,_⟩:=DataW.trod_int T.int h2;simp at e f g;subst e;subst f;subst g;exact⟨⟨i,j,k⟩,hc 0 _ rfl,hc 1 _ rfl,hc 2 _ rfl⟩
theorem kns_of_trod(T:GoodTy P tI tS tItem tItems tEd tEds tMv tMvs tKn tKns tTab)(d:Light P tKns x.1)(h:DataW.trod enc P W base sp held fuel tKns cs=some x) :
  ∃ p n c l,cs=[.slice p n c]/\Sl KnE 4 (getW W) p n l:=by
 refine Hh T.kns T.kn4 T.bytes.2.2.2 d ?_ h;intro n a cs y r hc s d;obtain⟨_,m,b⟩:=Kl T.kn d s
 match cs,r with
 | [c0,c1,c2,c3],_ =>
  obtain⟨t,h0,_⟩:=b 0 tI 0 rfl;obtain⟨u,h1,_⟩:=b 1 tI 1 rfl;obtain⟨v,h2,_⟩:=b 2 tI 2 rfl;obtain⟨w,h3,_⟩:=b 3 tI 3 rfl;rw[T.int1]at h0 h1 h2 h3;obtain⟨j,e,_,_⟩:=DataW.trod_int T.int h0;obtain⟨k,f,_,_⟩:=DataW.trod_int T.int h1;obtain⟨o,g,_,_⟩:=DataW.trod_int T.int h2;obtain⟨q,i,_,_⟩:=DataW.trod_int T.int h3;simp at e f g i;subst e;subst f;subst g;subst i;exact⟨⟨j,k,o,q⟩,hc 0 _ rfl,hc 1 _ rfl,hc 2 _ rfl,hc 3 _ rfl⟩
theorem table_arg(T:GoodTy P tI tS tItem tItems tEd tEds tMv tMvs tKn tKns tTab){r:Reach}{b0:Nat}{v:Value}{d:DataW H}{ps:List MemPlace}
 (hv:Value.okWide P W r b0 tTab v)(s:Light P tTab d)(h:DataW.Trod enc P W base sp held tTab v d ps):∃ f y,v=tabV f/\TabR (getW W) f y:=by
 obtain⟨B,hu,_⟩:=T.tab;obtain⟨cs,rfl,_⟩:=WideShapes.okWide_struct hu hv;obtain⟨fuel,q⟩:=h;obtain⟨i,m,g⟩:=Kl T.tab s q;rw[T.tab3]at i;have i:cs.toList.length=3:=i;have e:∃ a b c,cs.toList=[a,b,c]:=by
  match cs.toList,i with
  | [a,b,c],_=>exact⟨a,b,c,rfl⟩
 obtain⟨a,b,c,e⟩:=e;have hc:(Value.agg cs).cells.toList=[a,b,c]:=e;rw[hc]at g;obtain⟨C,h0,j⟩:=g 0 tEds 0 rfl;obtain⟨D,h1,k⟩:=g 1 tMvs 1 rfl;obtain⟨E,h2,l⟩:=g 2 tKns 2 rfl;rw[T.eds1]at h0;rw[T.mvs1]at h1;rw[T.kns1]at h2;obtain⟨p0,n0,t,w,n,A⟩:=eds_of_trod T j h0;obtain⟨p1,n1,k1,x,o,s1⟩:=mvs_of_trod T k h1;obtain⟨p2,n2,u,z,p,s2⟩:=kns_of_trod T l h2;simp at n o p;subst n;subst o;subst p;exact⟨⟨p0,n0,t,p1,n1,k1,p2,n2,u⟩,⟨w,x,z⟩,agg_of hc,A,s1,s2⟩
end
end Go.TM
end
section
namespace Go.Y
open Go.ChangeShapes Go.WideShapes Go.RowKit
theorem GT:GoodTy Tryz.prog 3 9 118 92 94 35 176 36 178 37 39 where
 int:=by kernel_rfl
 int1:=by kernel_rfl
 str:=by kernel_rfl
 str1:=by kernel_rfl
 bytes:=⟨of_decide_eq_true (by kernel_rfl),of_decide_eq_true (by kernel_rfl),of_decide_eq_true (by kernel_rfl),of_decide_eq_true (by kernel_rfl)⟩
 item:=⟨_,Tryz.underlying118,rfl⟩
 item2:=by kernel_rfl
 items:=by kernel_rfl
 items1:=by kernel_rfl
 ed:=⟨_,Tryz.underlying94,rfl⟩
 ed1:=by kernel_rfl
 eds:=by kernel_rfl
 eds1:=by kernel_rfl
 mv:=⟨_,Tryz.underlying176,rfl⟩
 mv3:=by kernel_rfl
 mvs:=by kernel_rfl
 mvs1:=by kernel_rfl
 kn:=⟨_,Tryz.underlying178,rfl⟩
 kn4:=by kernel_rfl
 kns:=by kernel_rfl
 kns1:=by kernel_rfl
 tab:=⟨_,Tryz.underlying39,rfl⟩
 tab3:=by kernel_rfl
end Go.Y
end
namespace Go.TM
section
variable {P:Program} {E:Halt->Cells->Prop}
variable {h:LH}{es:Array MapEntry}{c m r:Nat}{l:List Int}{kt t et:TypeId}{K:Value->T}{b:Bool}
theorem Dk{α:Type}{a:α}{Q:α->Cells->Prop}{h:Cells}:Qi P (Sem.pure a) Q E h=Q a h:=rfl
structure Keys(es:Array MapEntry)(c:Nat)(l:List Int):Prop where
 keys:es.toList.map (·.key)=l.map (Value.int .i64)
 nodup:l.Nodup
 born:(es.toList.map (·.born)).Nodup
 lt:∀ e∈es.toList,e.born<c
def MapOf(h:Cells)(m:Nat)(l:List Int):Prop:=∃ es c,h m=some (true,.map es c)/\Keys es c l
theorem Keys.nil:Keys #[] 0 []:=⟨rfl,List.nodup_nil,List.nodup_nil,fun e he=>by simp at he⟩
theorem Keys.isKey(k:Keys es c l)(b:Gp P kt=true):∀ e∈es.toList,IsKey P kt e.key:=by
 intro e he;have:e.key∈es.toList.map (·.key):=List.mem_map.2 ⟨e,he,rfl⟩;rw[k.keys]at this;obtain⟨n,_,a⟩:=List.mem_map.1 this;exact .inl ⟨b,n,a.symm⟩
variable {X:XP} {Q:Leaf->LH->Prop}
theorem Yg{k:Int}{v:Value}(hu:P.underlying t=some (.map kt et))(D:Gp P kt=true)(hm:MapOf h.get m l)
 (C:∀ es c E,(h.get.upd m (true,.map es c)) m=some (true,.map es c)->Keys es c E->(∀ x,x∈E↔x=k\/x∈l)->(K undef).wp X P Q { h with get:=h.get.upd m (true,.map es c) }):(T.sem false (Sem.bind (Instr.mapUpdate t (.map (some m)) (.int .i64 k) v) fun _=>pure (.tuple #[])) K).wp X P Q h:=by
 obtain⟨es,c,r,d⟩:=hm;refine J3 (A:=fun v h'=>v=undef/\(K undef).wp X P Q { h with get:=h' }) (Q0 _ _ ?_) (by rintro v h' ⟨rfl,hw⟩;exact hw);unfold Instr.mapUpdate;rw[lwp_bind,Qg hu];simp only[lwp_bind];refine⟨_,_,r,trivial,?_⟩;show Qi P (_ >>= _) _ _ _;rw[lwp_bind];have o:IsKey P kt (.int .i64 k):=.inl ⟨D,k,rfl⟩;refine lwp_checkKey o ?_;rw[lwp_bind];refine lwp_findKey o (d.isKey D) (fun j e he q=>?_) fun z=>?_
 ·have w:es[j]?=some e:=by rw[<- Array.getElem?_toList];exact he
  simp only[lwp_bind,Instr.keyThatStays,w,Option.map_some,Option.getD_some,q,sameBits_key o,if_true,Ql];refine⟨⟨_,r,trivial⟩,?_⟩;have p:(es.modify j fun e=>{ e with key:=.int .i64 k,val:=v }).toList=es.toList.modify j fun e=>{ e with key:=.int .i64 k,val:=v }:=by simp
  have H:j<es.toList.length:=(List.getElem?_eq_some_iff.1 he).1;have s:((es.modify j fun e=>{ e with key:=.int .i64 k,val:=v }).toList).map (·.key)=es.toList.map (·.key):=by
   rw[p];refine List.ext_getElem? fun i=>?_;rw[List.getElem?_map,List.getElem?_map,List.getElem?_modify];by_cases g:j=i
   ·subst g;simp[he,q]
   ·simp[g]
  have f:((es.modify j fun e=>{ e with key:=.int .i64 k,val:=v }).toList).map (·.born)=es.toList.map (·.born):=by
   rw[p];refine List.ext_getElem? fun i=>?_;rw[List.getElem?_map,List.getElem?_map,List.getElem?_modify];by_cases g:j=i
   ·subst g;simp[he]
   ·simp[g]
  refine⟨rfl,C _ _ l (Qd _ _ _) ⟨s.trans d.keys,d.nodup,by rw[f];exact d.born,fun B y=>?_⟩ fun x=>?_⟩
  ·have:B.born∈es.toList.map (·.born):=by rw[<- f];exact List.mem_map.2 ⟨B,y,rfl⟩
   obtain⟨F,h3,G⟩:=List.mem_map.1 this;rw[<- G];exact d.lt F h3
  ·have:Value.int .i64 k∈l.map (Value.int .i64):=by rw[<- d.keys];exact List.mem_map.2 ⟨e,List.mem_of_getElem? he,q⟩
   obtain⟨n,h1,h2⟩:=List.mem_map.1 this;cases h2;exact⟨.inr,fun h=>h.elim (fun e=>e▸h1) id⟩
 ·refine⟨⟨_,r,trivial⟩,rfl,C _ _ (l++[k]) (Qd _ _ _) ⟨?_,?_,?_,?_⟩ fun x=>?_⟩
  ·simp[d.keys]
  ·refine List.nodup_append.2 ⟨d.nodup,by simp,fun a u b hb e=>?_⟩;simp at hb;subst hb;subst e;have:Value.int .i64 a∈es.toList.map (·.key):=by rw[d.keys];exact List.mem_map.2 ⟨a,u,rfl⟩
   obtain⟨e,h1,h2⟩:=List.mem_map.1 this;exact z e h1 h2
  ·simp only[Array.toList_push,List.map_append,List.map_cons,List.map_nil];refine List.nodup_append.2 ⟨d.born,by simp,fun a u b hb e=>?_⟩;simp at hb;subst hb;subst e;obtain⟨e,h1,h2⟩:=List.mem_map.1 u;have:=d.lt e h1;omega
  ·intro e he;simp only[Array.toList_push,List.mem_append,List.mem_singleton]at he;rcases he with he|rfl
   ·have:=d.lt e he;omega
   ·exact Nat.lt_succ_self _
  ·simp[or_comm]
def NextKey(es:Array MapEntry)(seen:Array Nat)(xs:List Value)(seen':Array Nat):Prop:=∃ e∈es.toList,e.born∉seen.toList/\xs=[e.key]/\seen'=seen.push e.born
def AllSeen(es:Array MapEntry)(seen:Array Nat):Prop:=∀ e∈es.toList,e.born∈seen.toList
theorem t_range(hu:P.underlying t=some (.map kt et))(hm:h.get m=some (b,.map es c))
 (a:∀ r,h.get r=none->(K (.pointer (some ⟨r,0,none⟩))).wp X P Q { h with get:=h.get.upd r (true,.mapIter (some m) c #[] c) }):(T.sem false (Instr.range t (.map (some m))) K).wp X P Q h:=by
 refine J3 (A:=fun v h'=>∃ r,h.get r=none/\v=.pointer (some ⟨r,0,none⟩)/\h'=h.get.upd r (true,.mapIter (some m) c #[] c)) ?_ (by rintro v h' ⟨r,hr,rfl,rfl⟩;exact a r hr);unfold Instr.range;simp only[lwp_bind,Qg hu];refine⟨_,_,hm,trivial,?_⟩;show Qi P (pure _) _ _ _;rw[Ql];intro r hr;exact⟨r,hr,rfl,rfl⟩
theorem t_next{ty:TypeId}{seen:Array Nat}(hr:h.get r=some (true,.mapIter (some m) c seen c))(hm:h.get m=some (b,.map es c))(hlt:∀ e∈es.toList,e.born<c)
 (hend:AllSeen es seen->(K (.tuple #[.bool false])).wp X P Q h)
 (hk:∀ e∈es.toList,e.born∉seen.toList->(K (.tuple #[.bool true,e.key,e.val])).wp X P Q { h with get:=h.get.upd r (true,.mapIter (some m) c (seen.push e.born) c) }):(T.sem false (Instr.next (.pointer (some ⟨r,0,none⟩)) false ty) K).wp X P Q h:=by
 refine J3 (A:=fun v h'=>(K v).wp X P Q { h with get:=h' }) ?_ (fun v h' hw=>hw);unfold Instr.next;simp only[lwp_bind];refine⟨_,_,hr,trivial,?_⟩;show Qi P (_ >>= _) _ _ _;rw[lwp_bind];refine⟨_,_,hm,trivial,?_⟩;have hall:(!seen.isEmpty&&!es.isEmpty&&es.all fun x=>decide (x.born>=c))=false:=by
  cases he:es.toList with
  | nil =>
   have:es=#[]:=by rw[<- Array.toList_inj,he]
   simp[this]
  | cons e l =>
   have h1:=hlt e (by rw[he];simp);have h2:(es.all fun x=>decide (x.born>=c))=false:=by
    rw[<- Array.all_toList,he];simp;omega
   simp[h2]
 simp only[Dk,hall,Bool.false_eq_true,if_false,lwp_bind,Ql];have hold:((es.filter fun e=>!seen.contains e.born).filter fun x=>decide (x.born<c))=es.filter fun e=>!seen.contains e.born:=by
  rw[Array.filter_eq_self];intro e he;have:=hlt e (Array.mem_toList_iff.2 (Array.mem_filter.1 he).1);simp[this]
 have hnew:((es.filter fun e=>!seen.contains e.born).filter fun x=>decide (x.born>=c))=#[]:=by
  rw[Array.filter_filter];refine Array.filter_eq_empty_iff.2 fun e he=>?_;have:=hlt e (Array.mem_toList_iff.2 he);simp;omega
 rw[hold,hnew,Array.append_empty];by_cases hL:(es.filter fun e=>!seen.contains e.born).isEmpty=true
 ·have hL':(es.filter fun e=>!seen.contains e.born)=#[]:=Array.isEmpty_iff.1 hL;rw[hL'];simp only[Array.isEmpty_empty,if_true,Array.map_empty,Array.append_empty];show Qi P (choose (Question.mapNext 1)) _ _ _;show (if _ then _ else _);rw[if_pos (by rfl)];refine hend fun e he=>?_;have:=Array.filter_eq_empty_iff.1 hL' e (Array.mem_toList_iff.1 he);simpa using this
 ·rw[Bool.not_eq_true]at hL;simp only[hL,Bool.false_eq_true,if_false,Array.empty_append,Array.size_map];have hpos:0<(es.filter fun e=>!seen.contains e.born).size:=by
   rcases Nat.eq_zero_or_pos (es.filter fun e=>!seen.contains e.born).size with h0|h0
   ·rw[Array.size_eq_zero_iff]at h0;rw[h0]at hL;cases hL
   ·exact h0
  have fin:∀ i,i<(es.filter fun e=>!seen.contains e.born).size->Qi P (match (Array.map some (es.filter fun e=>!seen.contains e.born))[i]? with
   | some (some e)=>do
    setObj r (.mapIter (some m) c (seen.push e.born) c)
    pure (.tuple #[.bool true,e.key,e.val])
   | some none=>pure (.tuple #[.bool false])
   | none => stuck "Next: no such candidate" : Sem Value) (fun v h' => (K v).wp X P Q { h with get := h' }) (fun _ _ => False) h.get := by
   intro i hi;have hmem:(es.filter fun e=>!seen.contains e.born)[i]∈es.filter fun e=>!seen.contains e.born:=Array.getElem_mem hi;rw[Array.mem_filter]at hmem;have hget:(Array.map some (es.filter fun e=>!seen.contains e.born))[i]?=some (some (es.filter fun e=>!seen.contains e.born)[i]):=by simp[hi]
   rw[hget];simp only[lwp_bind];refine⟨⟨_,hr,trivial⟩,?_⟩;simp only[Dk,Ql];refine hk _ (Array.mem_toList_iff.2 hmem.1) ?_;have:=hmem.2;simpa using this
  show (if _ then _ else _);split
  ·exact fin 0 hpos
  ·exact fun t=>fin _ (Nat.mod_lt _ hpos)
theorem t_entry{seen:Array Nat}{e:MapEntry}(hr:h.get r=some (true,.mapIter (some m) c (seen.push e.born) c))(hm:h.get m=some (b,.map es c))(he:e∈es.toList)(hb:(es.toList.map (·.born)).Nodup)
 (g:(K (.tuple #[e.key,e.val])).wp X P Q h):(T.sem false (Instr.entry (.pointer (some ⟨r,0,none⟩))) K).wp X P Q h:=by
 refine J3 (A:=fun v h'=>v=.tuple #[e.key,e.val]/\h'=h.get) ?_ (by rintro v h' ⟨rfl,rfl⟩;exact g);unfold Instr.entry;simp only[lwp_bind];refine⟨_,_,hr,trivial,?_⟩;simp only[Dk,Array.back?_push,lwp_bind];refine⟨_,_,hm,trivial,?_⟩;have f:es.find? (fun x=>x.born==e.born)=some e:=by
  rw[<- Array.find?_toList];have:∀ l:List MapEntry,e∈l->(l.map (·.born)).Nodup->l.find? (fun x=>x.born==e.born)=some e:=by
   intro l
   induction l with
   | nil=>intro h;simp at h
   | cons a l i =>
    intro h1 h2;simp only[List.map_cons,List.nodup_cons]at h2;rw[List.find?_cons];rcases List.mem_cons.1 h1 with rfl|h1
    ·simp
    ·have d:(a.born==e.born)=false:=by
      cases hb:(a.born==e.born) with
      | false=>rfl
      | true=>exact absurd (List.mem_map.2 ⟨e,h1,(eq_of_beq hb).symm⟩) h2.1
     rw[d];exact i h1 h2.2
  exact this _ he hb
 simp only[Dk,bne_self_eq_false,Bool.false_eq_true,if_false,lwp_bind,Ql,f];exact⟨trivial,trivial⟩
end
section
variable {P:Program} {E:Halt->Cells->Prop} {h:Cells}
variable {t kt et:TypeId}{v a b k z:Value}{d s m:Nat}{ys bs:List Value}{es:Array MapEntry}{ok:Bool}{K:Value->T}{x y:Operand}
theorem Yz(a b:ByteArray):(a==b)=true↔a=b:=by
 obtain⟨x⟩:=a;obtain⟨y⟩:=b;show (x==y)=true↔_;rw[beq_iff_eq];constructor
 ·rintro rfl;rfl
 ·intro e;cases e;rfl
def isBas(P:Program)(t:TypeId)(v:Value):Prop:=(P.underlying t=some (.int .i64)/\∃ n,v=.int .i64 n)\/(P.underlying t=some .bool/\∃ b,v=.bool b)\/(P.underlying t=some .string/\∃ s,v=.string s)
theorem isBas.agg(b:isBas P t v):∃ d,P.underlying t=some d/\isAggT P t=false:=by
 rcases b with⟨hu,_⟩|⟨hu,_⟩|⟨hu,_⟩<;>exact⟨_,hu,by unfold isAggT;rw[hu]⟩
theorem W3{Q:Value->Cells->Prop}{cs:Array Value}{o:Nat}(b:isBas P t v)(hv:cs[o]?=some v)(c:Q v h):Qi P (part t cs o) Q E h:=by
 obtain⟨d,hu,a⟩:=b.agg;unfold part;rw[lwp_bind,J9 hu a];simp only[Bool.false_eq_true,if_false,hv];exact c
theorem Du{Q:Bool->Cells->Prop}(g:isBas P t a)(hb:isBas P t b)(f:∀ c:Bool,(c=true↔a=b)->Q c h):Qi P (Op.equalIn (d+1) t a b) Q E h:=by
 unfold Op.equalIn;rcases g with⟨hu,n,rfl⟩|⟨hu,n,rfl⟩|⟨hu,n,rfl⟩<;>rcases hb with⟨e,m,rfl⟩|⟨e,m,rfl⟩|⟨e,m,rfl⟩<;>(rw[hu]at e;first|cases e|skip)
 ·rw[lwp_bind,Qg hu];exact f _ (by simp)
 ·rw[lwp_bind,Qg hu];exact f _ (by simp)
 ·rw[lwp_bind,Qg hu];exact f _ (by rw[Yz];simp)
theorem Um{α σ:Type}{b s1:σ}{body:α->σ->Sem (ForInStep σ)}{c:α->Bool}:∀ {l:List α} {Q:σ->Cells->Prop},(∀ f∈l,∀ {Q:ForInStep σ->Cells->Prop},Q (if c f then .yield b else .done s1) h->Qi P (body f b) Q E h)->Q (if l.all c then b else s1) h->Qi P (forIn l b body) Q E h
 | [],Q,_,a=>by
  rw[List.forIn_nil];exact a
 | f::l,Q,hb,a=>by
  rw[List.forIn_cons,lwp_bind];refine hb f (by simp) ?_;cases hc:c f with
  | true =>
   simp only[if_true];refine Um (fun g d=>hb g (by simp[d])) ?_;simpa[hc] using a
  | false =>
   simp only[Bool.false_eq_true,if_false,Ql];simpa[hc] using a
inductive FlatAgg(P:Program)(t:TypeId)(vs:List Value):Prop where
 | str (fs : Array Field) (hu : P.underlying t = some (.struct fs)) (hs : P.stoodInHeld t = false) (hl : fs.toList.length = vs.length) (hf : ∀ (i : Nat) f v, fs.toList[i]? = some f -> vs[i]? = some v -> f.name ≠ "_" /\ f.offset = i /\ isBas P f.type v)
 | arr (n:Nat) (el:TypeId) (inf:TypeInfo) (hu:P.underlying t=some (.array n el)) (hi:P.info? el=some inf) (h1:inf.size=1) (hl:vs.length=n) (hf:∀ v∈vs,isBas P el v)
def FKey(P:Program)(t:TypeId)(v:Value):Prop:=isBas P t v\/∃ vs,v=.agg vs.toArray/\FlatAgg P t vs
theorem list_all_eq{α:Type}{a b:List α}(e:a.length=b.length)(h:∀ (i:Nat) x y,a[i]?=some x->b[i]?=some y->x=y):a=b:=by
 refine List.ext_getElem? fun i=>?_;by_cases d:i<a.length
 ·have c:=List.getElem?_eq_getElem d;have hb:=List.getElem?_eq_getElem (l:=b) (i:=i) (by omega);rw[c,hb,h i _ _ c hb]
 ·rw[List.getElem?_eq_none (by omega),List.getElem?_eq_none (by omega)]
open Classical in
theorem lwp_equalA{Q:Bool->Cells->Prop}(K:FlatAgg P t ys)(hb:FlatAgg P t bs)(z:∀ c:Bool,(c=true↔ys=bs)->Q c h):Qi P (Op.equalIn (d+1+1) t (.agg ys.toArray) (.agg bs.toArray)) Q E h:=by
 cases K with
 | str u hu O D w =>
  cases hb with
  | arr n el inf b=>rw[hu]at b;cases b
  | str A b R F p =>
   rw[hu]at b;cases b;have key:(u.toList.all fun f=>decide (ys[f.offset]?=bs[f.offset]?))=true↔ys=bs:=by
    rw[List.all_eq_true];constructor
    ·intro a;refine list_all_eq (by omega) fun i x y g k=>?_;have m:i<u.toList.length:=by rw[D];exact(List.getElem?_eq_some_iff.1 g).1
     have r:=List.getElem?_eq_getElem m;have h1:=of_decide_eq_true (a _ (List.mem_of_getElem? r));rw[(w i _ x r g).2.1,g,k]at h1;exact Option.some.inj h1
    ·rintro rfl f _;simp
   unfold Op.equalIn;rw[lwp_bind,Qg hu];simp only[lwp_bind,J4,O,Bool.false_eq_true,if_false,<- Array.forIn_toList];refine Um (s1:=⟨some false,()⟩) (c:=fun f=>decide (ys[f.offset]?=bs[f.offset]?)) ?_ ?_
   ·intro f B Q j;obtain⟨i,m⟩:=List.mem_iff_getElem?.1 B;have L:i<u.toList.length:=(List.getElem?_eq_some_iff.1 m).1;have g:=List.getElem?_eq_getElem (l:=ys) (i:=i) (by omega);have k:=List.getElem?_eq_getElem (l:=bs) (i:=i) (by omega);obtain⟨n1,G,b1⟩:=w i f _ m g;obtain⟨_,_,q⟩:=p i f _ m k;rw[if_pos n1];simp only[lwp_bind];refine W3 b1 (by rw[G];simpa using g) (W3 q (by rw[G];simpa using k) (Du b1 q fun c hc=>?_));rw[G,g,k]at j;cases c with
    | true =>
     have:ys[i]=bs[i]:=hc.1 rfl;simp only[this,decide_true,if_true]at j;simpa[Ql] using j
    | false =>
     have:¬ ys[i]=bs[i]:=fun e=>by cases hc.2 e
     have h2:¬ some ys[i]=some bs[i]:=fun e=>this (Option.some.inj e);simp only[h2,decide_false,Bool.false_eq_true,if_false]at j;simpa[Ql] using j
   ·cases a:(u.toList.all fun f=>decide (ys[f.offset]?=bs[f.offset]?)) with
    | true=>simpa[Ql] using z true (by simpa[a] using key)
    | false=>simpa[Ql] using z false (by simpa[a] using key)
 | arr n el inf hu m h1 D w =>
  cases hb with
  | str A b=>rw[hu]at b;cases b
  | arr S I H b s J F p =>
   rw[hu]at b;cases b;rw[m]at s;cases s;have key:((List.range' 0 n).all fun i=>decide (ys[i]?=bs[i]?))=true↔ys=bs:=by
    rw[List.all_eq_true];constructor
    ·intro a;refine list_all_eq (by omega) fun i x y g k=>?_;have m:i<n:=by rw[<- D];exact(List.getElem?_eq_some_iff.1 g).1
     have h1:=of_decide_eq_true (a i (by simp[m]));rw[g,k]at h1;exact Option.some.inj h1
    ·rintro rfl f _;simp
   unfold Op.equalIn;rw[lwp_bind,Qg hu];simp only[lwp_bind,Q4 m,h1,Nat.mul_one,Std.Legacy.Range.forIn_eq_forIn_range'];have hr:List.range' 0 ([:n]:Std.Legacy.Range).size=List.range' 0 n:=by simp[Std.Legacy.Range.size]
   have N:([:n]:Std.Legacy.Range).start=0/\([:n]:Std.Legacy.Range).step=1:=⟨rfl,rfl⟩
   refine Um (s1:=⟨some false,()⟩) (c:=fun i=>decide (ys[i]?=bs[i]?)) ?_ ?_
   ·intro i C Q j;have M:i<n:=by
     have:=C;simp[Std.Legacy.Range.size]at this;omega
    have g:=List.getElem?_eq_getElem (l:=ys) (i:=i) (by omega);have k:=List.getElem?_eq_getElem (l:=bs) (i:=i) (by omega);have b1:=w _ (List.mem_of_getElem? g);have q:=p _ (List.mem_of_getElem? k);simp only[lwp_bind];refine W3 (v:=ys[i]) b1 ?_ ?_
    ·rw[List.getElem?_toArray];exact g
    refine W3 (v:=bs[i]) q ?_ ?_
    ·rw[List.getElem?_toArray];exact k
    refine Du b1 q fun c hc=>?_;rw[g,k]at j;cases c with
    | true =>
     have:ys[i]=bs[i]:=hc.1 rfl;simp only[this,decide_true,if_true]at j;simpa[Ql] using j
    | false =>
     have:¬ ys[i]=bs[i]:=fun e=>by cases hc.2 e
     have h2:¬ some ys[i]=some bs[i]:=fun e=>this (Option.some.inj e);simp only[h2,decide_false,Bool.false_eq_true,if_false]at j;simpa[Ql] using j
   ·have o:(List.range' ([:n]:Std.Legacy.Range).start ([:n]:Std.Legacy.Range).size ([:n]:Std.Legacy.Range).step)=List.range' 0 n:=by simp[Std.Legacy.Range.size]
    rw[o];cases a:((List.range' 0 n).all fun i=>decide (ys[i]?=bs[i]?)) with
    | true=>simpa[Ql] using z true (by simpa[a] using key)
    | false=>simpa[Ql] using z false (by simpa[a] using key)
theorem Uq:Value.agg ys.toArray=.agg bs.toArray↔ys=bs:=by
 constructor
 ·intro e;injection e with e;simpa using e
 ·rintro rfl;rfl
theorem lwp_equalK{Q:Bool->Cells->Prop}(f:FKey P t a)(hb:FKey P t b)(i:∀ c:Bool,(c=true↔a=b)->Q c h):Qi P (Op.equal t a b) Q E h:=by
 have g:Op.maxDepth=9998+1+1:=rfl;unfold Op.equal;rw[g];rcases f with f|⟨ys,rfl,f⟩<;>rcases hb with hb|⟨bs,rfl,hb⟩
 ·exact Du f hb i
 ·obtain⟨d,hu,e⟩:=f.agg;cases hb<;>(unfold isAggT at e;rename_i j;first|(rw[‹P.underlying t=some (.struct _)›]at e;cases e)|(rw[‹P.underlying t=some (.array _ _)›]at e;cases e))
 ·obtain⟨d,hu,e⟩:=hb.agg;cases f<;>(unfold isAggT at e;first|(rw[‹P.underlying t=some (.struct _)›]at e;cases e)|(rw[‹P.underlying t=some (.array _ _)›]at e;cases e))
 ·exact lwp_equalA f hb fun c hc=>i c (by rw[Uq];exact hc)
theorem Gt{Q:Unit->Cells->Prop}{e:Bool}(s:FKey P kt v)(b:Q () h):Qi P (Instr.checkKey e 10000 kt v) Q E h:=by
 have one:∀ {Q:Unit->Cells->Prop} {d:Nat} {t:TypeId} {v:Value},isBas P t v->Q () h->Qi P (Instr.checkKey e (d+1) t v) Q E h:=by
  intro Q d t v hb b;unfold Instr.checkKey;rcases hb with⟨hu,n,rfl⟩|⟨hu,n,rfl⟩|⟨hu,n,rfl⟩<;>(rw[lwp_bind,Qg hu];exact b)
 rcases s with hb|⟨vs,rfl,a⟩
 ·exact one (d:=9999) hb b
 ·rw[show (10000:Nat)=9998+1+1 from rfl,Instr.checkKey];cases a with
  | str p hu x u a =>
   rw[lwp_bind,Qg hu];simp only[lwp_bind,<- Array.forIn_toList];refine Um (s1:=()) (c:=fun _=>true) ?_ (by simpa[Ql] using b);intro f m Q k;obtain⟨i,j⟩:=List.mem_iff_getElem?.1 m;have q:i<p.toList.length:=(List.getElem?_eq_some_iff.1 j).1;have g:=List.getElem?_eq_getElem (l:=vs) (i:=i) (by omega);obtain⟨n1,w,b1⟩:=a i f _ j g;rw[if_pos n1];simp only[lwp_bind];refine W3 (v:=vs[i]) b1 (by rw[w];simpa using g) (one b1 ?_);simpa[Ql] using k
  | arr n el inf hu j h1 u a =>
   rw[lwp_bind,Qg hu];simp only[lwp_bind,Std.Legacy.Range.forIn_eq_forIn_range'];refine Um (s1:=()) (c:=fun _=>true) ?_ (by simpa[Ql] using b);intro i o Q k;have r:i<n:=by
    have:=o;simp[Std.Legacy.Range.size]at this;omega
   have g:=List.getElem?_eq_getElem (l:=vs) (i:=i) (by omega);have b1:=a _ (List.mem_of_getElem? g);simp only[lwp_bind,Q4 j,h1,Nat.mul_one];refine W3 (v:=vs[i]) b1 ?_ ?_
   ·rw[List.getElem?_toArray];exact g
   refine one b1 ?_;simpa[Ql] using k
theorem sameNow_iff{kd:TypeDesc}{c:Bool}(h:Instr.sameNow kd a b=some c):c=true↔a=b:=by
 unfold Instr.sameNow at h;split at h
 ·split at h
  ·rename_i e;cases h;subst e;simp
  ·cases h
 ·cases h;simp[Yz]
 ·cases h;simp
 ·cases h
theorem findNow_spec{kd:TypeDesc}{k:Value}:∀ (es:List MapEntry) (i:Nat) (r:Option (Nat×Value)),Instr.findNow kd k es i=some r ->
  (∃ j e,es[j]?=some e/\e.key=k/\r=some (i+j,e.val))\/((∀ e∈es,e.key≠k)/\r=none)
 | [],i,r,h=>by cases h;exact .inr ⟨fun e he=>by simp at he,rfl⟩
 | e::es,i,r,h=>by
  unfold Instr.findNow at h;split at h
  ·rename_i d;cases h;exact .inl ⟨0,e,rfl,((sameNow_iff d).1 rfl).symm,rfl⟩
  ·rename_i d;have c:e.key≠k:=fun f=>by have:=(sameNow_iff d).2 f.symm;cases this
   rcases findNow_spec es (i+1) r h with⟨j,b,h1,h2,h3⟩|⟨h1,h2⟩
   ·exact .inl ⟨j+1,b,by simpa using h1,h2,by rw[h3];congr 2;omega⟩
   ·refine .inr ⟨fun b a=>?_,h2⟩;rcases List.mem_cons.1 a with rfl|a
    ·exact c
    ·exact h1 b a
  ·cases h
theorem lwp_findAskingK{Q:Option (Nat×Value)->Cells->Prop}{kt:TypeId}{k:Value}(m:FKey P kt k):∀ (es:List MapEntry) (i:Nat),(∀ e∈es,FKey P kt e.key) ->
  (∀ j e,es[j]?=some e->e.key=k->Q (some (i+j,e.val)) h)->((∀ e∈es,e.key≠k)->Q none h)->Qi P (Instr.findAsking kt k es i) Q E h
 | [],i,_,_,h2=>h2 fun e he=>by simp at he
 | e::es,i,d,h1,h2=>by
  unfold Instr.findAsking;rw[lwp_bind];refine lwp_equalK m (d e (by simp)) fun c hc=>?_;cases c with
  | true =>
   simp only[if_true,Ql];have:=h1 0 e rfl (hc.1 rfl).symm;simpa using this
  | false =>
   have g:e.key≠k:=fun n=>by have:=hc.2 n.symm;cases this
   simp only[Bool.false_eq_true,if_false];refine lwp_findAskingK m es (i+1) (fun b a=>d b (by simp[a])) (fun j b a f=>?_) fun l=>h2 fun b a=>?_
   ·have:=h1 (j+1) b (by simpa using a) f;rw[show i+1+j=i+(j+1) by omega];exact this
   ·rcases List.mem_cons.1 a with rfl|a
    ·exact g
    ·exact l b a
theorem FKey.und(b:FKey P kt k):∃ d,P.underlying kt=some d:=by
 rcases b with hb|⟨vs,rfl,a⟩
 ·obtain⟨d,hu,_⟩:=hb.agg;exact⟨d,hu⟩
 ·cases a<;>exact⟨_,‹P.underlying kt=some _›⟩
theorem Hm{Q:Option (Nat×Value)->Cells->Prop}{es:List MapEntry}(g:FKey P kt k)(c:∀ e∈es,FKey P kt e.key)(h1:∀ j e,es[j]?=some e->e.key=k->Q (some (j,e.val)) h)(h2:(∀ e∈es,e.key≠k)->Q none h):Qi P (Instr.findKey kt k es) Q E h:=by
 unfold Instr.findKey;obtain⟨d,hu⟩:=g.und;rw[lwp_bind,Qg hu];cases hr:Instr.findNow d k es 0 with
 | some r =>
  simp only[Ql];rcases findNow_spec es 0 r hr with⟨j,e,a,b,i⟩|⟨a,b⟩
  ·rw[i];have:=h1 j e a b;simpa using this
  ·rw[b];exact h2 a
 | none =>
  exact lwp_findAskingK g es 0 c (fun j e he f=>by have:=h1 j e he f;simpa using this) h2
theorem Hj(b:isBas P t v)(d:Nat):Instr.sameBits d v v=true:=by
 rcases b with⟨_,n,rfl⟩|⟨_,n,rfl⟩|⟨_,n,rfl⟩<;>unfold Instr.sameBits<;>simp[Yz]
theorem sameBits_all:∀ {l:List Value},(∀ v∈l,Instr.sameBits 9999 v v=true)->((l.zip l).all fun (x,y)=>Instr.sameBits 9999 x y)=true
 | [],_=>rfl
 | v::l,a=>by
  simp only[List.zip_cons_cons,List.all_cons,Bool.and_eq_true];exact⟨a v (by simp),sameBits_all fun w hw=>a w (by simp[hw])⟩
theorem sameBits_flat(d:FKey P kt k):Instr.sameBits 10000 k k=true:=by
 rcases d with hb|⟨vs,rfl,a⟩
 ·exact Hj hb _
 ·rw[show (10000:Nat)=9999+1 from rfl];unfold Instr.sameBits;simp only[beq_self_eq_true,Bool.true_and];refine sameBits_all fun v hv=>?_;cases a with
  | str f hu g e a =>
   obtain⟨i,b⟩:=List.mem_iff_getElem?.1 (show v∈vs by simpa using hv);have c:i<vs.length:=(List.getElem?_eq_some_iff.1 b).1;exact Hj (a i _ v (List.getElem?_eq_getElem (by omega)) b).2.2 _
  | arr n el inf hu b h1 e a=>exact Hj (a v (by simpa using hv)) _
theorem lwp_lookupK{Q:Value->Cells->Prop}{b:Nat}(hu:P.underlying t=some (.map kt et))(p:(P.info? et).map (fun i=>(i.size,i.bytes,i.zero))=some (s,b,some z))(hm:MapAt h m es)(l:FKey P kt k)(d:∀ e∈es.toList,FKey P kt e.key)
 (h1:∀ e∈es.toList,e.key=k->Q (if ok then .tuple #[e.val,.bool true] else e.val) h)(h2:(∀ e∈es.toList,e.key≠k)->Q (if ok then .tuple #[z,.bool false] else z) h):Qi P (Instr.lookup t (.map (some m)) k ok) Q E h:=by
 obtain⟨inf,n,_,_,o⟩:=Zk p;obtain⟨c,f⟩:=hm;unfold Instr.lookup;rw[lwp_bind,Qg hu];simp only[lwp_bind];refine⟨_,_,f,trivial,?_⟩;show Qi P (_ >>= _) Q E h;rw[lwp_bind,Ql,lwp_bind];refine Gt l ?_;rw[lwp_bind];refine Hm l d (fun j e he a=>?_) fun g=>?_
 ·simp only[Ql,lwp_bind];have:=h1 e (List.mem_of_getElem? he) a;cases ok<;>exact this
 ·simp only[lwp_bind,Jp n o,Ql];have:=h2 g;cases ok<;>exact this
theorem lwp_mapUpdateK{Q:Unit->Cells->Prop}(hu:P.underlying t=some (.map kt et))(hm:MapAt h m es)(q:FKey P kt k)(o:∀ e∈es.toList,FKey P kt e.key)
 (u:∀ f c,(∀ e∈f.toList,(e.key=k/\e.val=v)\/e∈es.toList)->Q () (h.upd m (true,.map f c))):Qi P (Instr.mapUpdate t (.map (some m)) k v) Q E h:=by
 obtain⟨c,d⟩:=hm;unfold Instr.mapUpdate;rw[lwp_bind,Qg hu];simp only[lwp_bind];refine⟨_,_,d,trivial,?_⟩;show Qi P (_ >>= _) _ E h;rw[lwp_bind];refine Gt q ?_;rw[lwp_bind];refine Hm q o (fun j e he n=>?_) fun x=>?_
 ·have l:es[j]?=some e:=by rw[<- Array.getElem?_toList];exact he
  simp only[lwp_bind,Instr.keyThatStays,l,Option.map_some,Option.getD_some,n,sameBits_flat q,if_true,Ql];refine⟨⟨_,d,trivial⟩,?_⟩;have g:∀ i:Nat,(es.modify j fun e=>{ e with key:=k,val:=v })[i]?=if i=j then (es[i]?).map (fun e=>{ e with key:=k,val:=v }) else es[i]?:=by
   intro i;rw[Array.getElem?_modify];by_cases b:j=i
   ·subst b;simp
   ·rw[if_neg b,if_neg (Ne.symm b)]
  refine u _ _ (fun r a=>?_);obtain⟨i,w,p⟩:=List.getElem_of_mem a;have h3:(es.modify j fun e=>{ e with key:=k,val:=v })[i]?=some r:=by rw[<- Array.getElem?_toList,List.getElem?_eq_getElem w,p]
  rw[g]at h3;by_cases b:i=j
  ·rw[if_pos b]at h3;cases s:es[i]? with
   | none=>rw[s]at h3;cases h3
   | some y=>rw[s]at h3;simp only[Option.map_some,Option.some.injEq]at h3;subst h3;exact .inl ⟨rfl,rfl⟩
  ·rw[if_neg b]at h3;right;exact List.mem_of_getElem? (i:=i) (by rw[Array.getElem?_toList];exact h3)
 ·refine⟨⟨_,d,trivial⟩,?_⟩;refine u _ _ (fun r a=>?_);simp only[Array.toList_push,List.mem_append,List.mem_singleton]at a;rcases a with a|rfl
  ·exact .inr a
  ·exact .inl ⟨rfl,rfl⟩
variable {X:XP} {Q:Leaf->LH->Prop}
theorem Uv{h:LH}{b:Nat}(hu:P.underlying t=some (.map kt et))(f:(P.info? et).map (fun i=>(i.size,i.bytes,i.zero))=some (s,b,some z))(hm:MapAt h.get m es)(g:FKey P kt k)(c:∀ e∈es.toList,FKey P kt e.key)
 (h1:∀ e∈es.toList,e.key=k->(K (if ok then .tuple #[e.val,.bool true] else e.val)).wp X P Q h)(h2:(∀ e∈es.toList,e.key≠k)->(K (if ok then .tuple #[z,.bool false] else z)).wp X P Q h):(T.sem false (Instr.lookup t (.map (some m)) k ok) K).wp X P Q h :=
 J3 (A:=fun v h'=>h'=h.get/\(K v).wp X P Q h) (lwp_lookupK hu f hm g c (fun e he a=>⟨rfl,h1 e he a⟩) fun d=>⟨rfl,h2 d⟩) (by rintro v h' ⟨rfl,hw⟩;exact hw)
theorem He{h:LH}(hu:P.underlying t=some (.map kt et))(hm:MapAt h.get m es)(d:FKey P kt k)(b:∀ e∈es.toList,FKey P kt e.key)
 (f:∀ a c,(∀ e∈a.toList,(e.key=k/\e.val=v)\/e∈es.toList)->(K (.tuple #[])).wp X P Q { h with get:=h.get.upd m (true,.map a c) }):(T.sem false (Sem.bind (Instr.mapUpdate t (.map (some m)) k v) fun _=>pure (.tuple #[])) K).wp X P Q h :=
 J3 (A:=fun w h'=>w=.tuple #[]/\∃ a c,(∀ e∈a.toList,(e.key=k/\e.val=v)\/e∈es.toList)/\h'=h.get.upd m (true,.map a c))
  (Q0 _ _ (lwp_mapUpdateK hu hm d b fun a c he=>by rw[Ql];exact⟨rfl,a,c,he,rfl⟩)) (by rintro w h' ⟨rfl,a,c,he,rfl⟩;exact f a c he)
theorem t_eqK{h:LH}(a:FlatAgg P t ys)(hb:FlatAgg P t bs)(b:P.eqGuardType P.depth t=false)(d:∀ c:Bool,(c=true↔ys=bs)->(K (.bool c)).wp X P Q h) :
  (T.sem false (Sem.bind (eqGuard .eql t x y (.agg ys.toArray) (.agg bs.toArray)) fun _=>binOp .eql t (.agg ys.toArray) (.agg bs.toArray)) K).wp X P Q h:=by
 refine J3 (A:=fun w h'=>h'=h.get/\(K w).wp X P Q h) (Q0 _ _ ?_) (by rintro w h' ⟨rfl,hw⟩;exact hw);unfold eqGuard;simp only[Bool.not_true,Bool.false_eq_true,if_false,lwp_bind,J4,b,Bool.not_false,if_true,Ql];unfold binOp;rw[lwp_bind];refine lwp_equalK (.inr ⟨_,rfl,a⟩) (.inr ⟨_,rfl,hb⟩) fun c hc=>⟨rfl,d c (by rw[hc,Uq])⟩
theorem str_list(a b:ByteArray):(a.toList==b.toList)=true↔a=b:=by
 rw[beq_iff_eq,ByteArray.toList_eq,ByteArray.toList_eq];obtain⟨x⟩:=a;obtain⟨y⟩:=b;constructor
 ·intro e;have:x=y:=by apply Array.ext';simpa using e
  rw[this]
 ·intro e;cases e;rfl
theorem t_eqStr{h:LH}{a b:ByteArray}(hu:P.underlying t=some .string)(d:∀ c:Bool,(c=true↔a=b)->(K (.bool c)).wp X P Q h) :
  (T.sem false (Sem.bind (eqGuard .eql t x y (.string a) (.string b)) fun _=>binOp .eql t (.string a) (.string b)) K).wp X P Q h:=by
 refine J3 (A:=fun w h'=>h'=h.get/\(K w).wp X P Q h) (Q0 _ _ ?_) (by rintro w h' ⟨rfl,hw⟩;exact hw);unfold eqGuard;simp only[Bool.not_true,Bool.false_eq_true,if_false,Ql];unfold binOp;show Qi P (Op.stringOp .eql a b) _ _ _;unfold Op.stringOp;rw[Ql];exact⟨rfl,d _ (str_list a b)⟩
theorem Hy{h:LH}{c:TypeId}{s:ByteArray}(hu:P.underlying t=some .string)(b:(K (.int .i64 (s.size:Int))).wp X P Q h):(T.sem false (Builtin.len_ #[t] c #[.string s]) K).wp X P Q h:=by
 refine J3 (A:=fun w h'=>h'=h.get/\(K w).wp X P Q h) ?_ (by rintro w h' ⟨rfl,hw⟩;exact hw);unfold Builtin.len_;change Qi P (underlying t >>= _) _ _ _;rw[lwp_bind,Qg hu];exact⟨rfl,b⟩
/-! ### Flat types, told by a look -/
inductive Bk where
 | i|b|s
def basB(P:Program)(t:TypeId)(k:Bk):Bool:=match P.underlying t,k with
 | some (.int .i64),.i=>true
 | some .bool,.b=>true
 | some .string,.s=>true
 | _,_=>false
def BasV:Bk->Value->Prop
 | .i,v=>∃ n,v=.int .i64 n
 | .b,v=>∃ n,v=.bool n
 | .s,v=>∃ n,v=.string n
theorem basB_is{k:Bk}(h:basB P t k=true)(hv:BasV k v):isBas P t v:=by
 unfold basB at h;split at h
 ·rename_i hu;exact .inl ⟨hu,hv⟩
 ·rename_i hu;exact .inr (.inl ⟨hu,hv⟩)
 ·rename_i hu;exact .inr (.inr ⟨hu,hv⟩)
 ·cases h
def flatGo(P:Program):List Field->List Bk->Nat->Bool
 | [],[],_=>true
 | f :: fs, k :: ks, i => f.name != "_" && Nat.beq f.offset i && basB P f.type k && flatGo P fs ks (i + 1)
 | _,_,_=>false
def flatB(P:Program)(t:TypeId)(ks:List Bk):Bool:=match P.underlying t with
 | some (.struct fs)=>flatGo P fs.toList ks 0&&!P.stoodInHeld t
 | _=>false
theorem flatGo_at : ∀ {fs : List Field} {ks : List Bk} {i : Nat}, flatGo P fs ks i = true -> fs.length = ks.length /\ ∀ (j : Nat) f k, fs[j]? = some f -> ks[j]? = some k -> f.name ≠ "_" /\ f.offset = i + j /\ basB P f.type k = true
 | [],[],i,_=>⟨rfl,fun j f k h=>by simp at h⟩
 | f::fs,k::ks,i,h=>by
  unfold flatGo at h;simp only[Bool.and_eq_true,bne_iff_ne]at h;obtain⟨⟨⟨h1,h2⟩,h3⟩,h4⟩:=h;obtain⟨g1,g2⟩:=flatGo_at h4;refine⟨by simp[g1],fun j f' k' hf hk=>?_⟩;cases j with
  | zero=>simp at hf hk;subst hf;subst hk;exact⟨h1,Jf h2,h3⟩
  | succ j =>
   obtain⟨a,b,c⟩:=g2 j f' k' (by simpa using hf) (by simpa using hk);exact⟨a,by omega,c⟩
 | [],k::ks,i,h=>by cases h
 | f::fs,[],i,h=>by cases h
theorem flat_of{ks:List Bk}(h:flatB P t ks=true){vs:List Value}(o:vs.length=ks.length)(hv:∀ (i:Nat) k v,ks[i]?=some k->vs[i]?=some v->BasV k v):FlatAgg P t vs:=by
 unfold flatB at h;split at h
 ·rename_i l hu;simp only[Bool.and_eq_true,Bool.not_eq_true']at h;obtain⟨h1,h2⟩:=h;obtain⟨n,m⟩:=flatGo_at h1;refine .str l hu h2 (by omega) fun i f v g e=>?_;have d:i<ks.length:=by have:=(List.getElem?_eq_some_iff.1 g).1;omega
  have j:=List.getElem?_eq_getElem d;obtain⟨a,b,c⟩:=m i f _ g j;exact⟨a,by omega,basB_is c (hv i _ v j e)⟩
 ·cases h
theorem flat_ints{vs:List Int}(h:flatB P t (vs.map fun _=>Bk.i)=true):FlatAgg P t (vs.map fun n=>Value.int .i64 n):=by
 refine flat_of h (by simp) fun i k v a hv=>?_;rw[List.getElem?_map]at a hv;cases b:vs[i]? with
 | none=>rw[b]at a;cases a
 | some n=>rw[b]at a hv;cases a;cases hv;exact⟨n,rfl⟩
end
section
variable {P:Program} {E:Halt->Cells->Prop} {h:Cells}
def ByteE(h:Cells)(a:Addr)(c:UInt8):Prop:=h.cell? (a.add 0)=some (.int .u8 (c.toNat:Int))
variable {el:TypeId}{s:ByteArray}{K:Value->T}
theorem freeze_upd{h:Cells}{r:Nat}{cs:Array Value}{k:Nat}:(h.upd r (true,.cells cs el (0,0))).freeze { block:=r,off:=k } 1=h.upd r (true,.cells cs el (k,k+1)):=by
 funext a;unfold Cells.freeze Cells.upd;by_cases e:a=r
 ·subst e;simp[frzO]
 ·simp[e]
theorem lwp_bytes{Q:Value->Cells->Prop}(d:∀ r cap,h r=none->s.size<=cap->∀ cs:Array Value,(∀ (i:Nat) c,s.data[i]?=some c->cs[i]?=some (.int .u8 (c.toNat:Int)))->Q (.slice (some ⟨r,0,none⟩) s.size cap) (h.upd r (true,.cells cs el (cs.size,cs.size+1)))):Qi P (Conv.stringToBytes el s) Q E h:=by
 unfold Conv.stringToBytes;rw[lwp_bind];show (if _ then _ else _);split
 ·rename_i a;simp[Question.forced]at a
 ·intro t;simp only[lwp_bind];refine Kw fun r hr=>?_;unfold markStringish;rw[lwp_bind];refine⟨⟨_,Qd _ _ _⟩,?_⟩;have e:∀ (cs:Array Value),(h.upd r (true,.cells cs el (0,0))).shape? r=some (el,cs.size):=by
   intro cs;unfold Cells.shape?;rw[Qd]
  simp only[e];refine⟨by decide,⟨_,Qd _ _ _,fun _=>id⟩,?_⟩;rw[freeze_upd];refine d r _ hr (Nat.le_add_right _ _) _ fun i c hc=>?_;have b:i<s.data.size:=(Array.getElem?_eq_some_iff.1 hc).1;rw[Array.getElem?_append_left (by simpa using b),Array.getElem?_map,hc];rfl
variable {X:XP} {Q:Leaf->LH->Prop}
theorem t_bytes{h:LH}{src dst:TypeId}(h1:P.underlying src=some .string)(h2:P.underlying dst=some (.slice el))(h3:P.underlying el=some (.int .u8))(g:s.size<4611686018427387904)
 (e:∀ r cap h',h.le h'->Sl ByteE 1 h'.get (some ⟨r,0,none⟩) s.size s.data.toList->(K (.slice (some ⟨r,0,none⟩) s.size cap)).wp X P Q h'):(T.sem false (convert src dst (.string s)) K).wp X P Q h:=by
 refine J3 (A:=fun w h'=>∃ r cap,w=.slice (some ⟨r,0,none⟩) s.size cap/\h.get.le h'/\Sl ByteE 1 h' (some ⟨r,0,none⟩) s.size s.data.toList) ?_ (by rintro w h' ⟨r,cap,rfl,f,b⟩;exact e r cap _ ⟨f,rfl,rfl,rfl⟩ b);unfold convert;simp only[lwp_bind,Qg h1,Qg h2,Qg h3];refine lwp_bytes fun r cap hr d cs a=>⟨r,cap,rfl,Wv _ hr,?_⟩;refine⟨by rw[Array.length_toList];rfl,by rw[Array.length_toList];exact g,fun i c hc=>⟨_,rfl,?_⟩⟩;unfold ByteE;rw[Qh,Qh];simp only[Nat.zero_add,Nat.mul_one,Nat.add_zero];unfold Cells.cell?;rw[Qd];exact a i c (by simpa using hc)
theorem Ge{h:LH}{t:TypeId}{i:Nat}{c:UInt8}(hu:P.underlying t=some .string)(hc:s.data[i]?=some c)(b:(K (.int .u8 (c.toNat:Int))).wp X P Q h):(T.sem false (Instr.index t (.string s) (.int .i64 (i:Int))) K).wp X P Q h:=by
 refine J3 (A:=fun w h'=>h'=h.get/\w=.int .u8 (c.toNat:Int)) ?_ (by rintro w h' ⟨rfl,rfl⟩;exact b);unfold Instr.index;simp only[asIntOf,lwp_bind,Ql,Qg hu];have a:i<s.size:=(Array.getElem?_eq_some_iff.1 hc).1;have h1:s[(i:Int).toNat]?=some c:=by
  rw[Int.toNat_natCast,getElem?_pos s i a];have:=Array.getElem?_eq_getElem (xs:=s.data) (i:=i) a;rw[this]at hc;exact hc
 rw[if_pos (by omega),h1];exact⟨rfl,rfl⟩
end
end Go.TM
namespace Go.Y
section
attribute [local irreducible] T.wp CV FWK
def indexF(x:Int):Nat->List Int->Int
 | _,[]=>-1
 | i,y::l=>if x==y then i else indexF x (i+1) l
variable {h:LH}{p:Option Addr}{n c:Nat}{l:List Int}
theorem indexF_ge(x:Int):∀ (l:List Int) (i:Nat),decide (indexF x i l>=0)=l.contains x:=by
 intro l
 induction l with
 | nil=>intro i;rfl
 | cons y l a =>
  intro i;rw[indexF,List.contains_cons];split
  ·rename_i h;rw[h];simp
  ·rename_i h;have h':(x==y)=false:=by simpa using h
   rw[a,h',Bool.false_or]
theorem c106(d:Sl IntE 1 h.get p n l)(x:Int):Pu Tryz.prog 171 #[.slice p n c,x] h (.int .i64 (indexF x 0 l)):=by
 refine w106 _ _ _ _ Qn ?_;unfold n106;have q:=d.1;have hb:=d.2.1;refine Qq (fun m vs h'=>h'=h/\∃ i:Nat,vs=[.int .i64 0,.int .i64 i]/\i<=n/\m=n-i/\indexF x 0 l=indexF x i (l.drop i)) ⟨rfl,0,rfl,Nat.zero_le _,rfl,rfl⟩ ?_;rintro Y m vs _ g ⟨rfl,i,rfl,o,rfl,hc⟩;refine yJ (fun e=>?_) (fun e=>?_)
 ·obtain⟨y,a,j,k,f⟩:=d.at (i:=i) (by omega);unfold IntE at f;refine gZ ?_;rw[Jd j,indexF]at hc;refine Qt (fun b=>?_) (fun b=>?_)
  ·refine gZ ?_;refine Qe ⟨?_,rfl⟩;rw[hc,if_pos b]
  ·refine Qa (g (n-(i+1)) _ _ (by omega) ⟨rfl,i+1,?_,by omega,rfl,?_⟩)
   ·rw[Qj (by omega) (by omega)];rfl
   ·rw[hc,if_neg (by simp[b])]
 ·refine gZ ?_;refine Qe ⟨?_,rfl⟩;rw[hc,List.drop_eq_nil_of_le (by omega)];rfl
theorem c100(a:Sl IntE 1 h.get p n l)(x:Int):Pu Tryz.prog 125 #[.slice p n c,x] h (.bool (l.contains x)):=by
 refine w100 _ _ _ _ Qn ?_;unfold n100;refine t_pu (c106 a x) ?_;refine gZ ?_;refine Qe ⟨?_,rfl⟩;rw[indexF_ge]
def placeF{α:Type}(f:α->Bool):Nat->List α->Int
 | _,[]=>-1
 | i,y::l=>if f y then i else placeF f (i+1) l
theorem placeF_ge{α:Type}(f:α->Bool):∀ (l:List α) (i:Nat),decide (placeF f i l>=0)=l.any f:=by
 intro l
 induction l with
 | nil=>intro i;rfl
 | cons y l a =>
  intro i;rw[placeF,List.any_cons];split
  ·rename_i h;rw[h];simp
  ·rename_i h;have h':f y=false:=by simpa using h
   rw[a,h',Bool.false_or]
end
section
attribute [local irreducible] T.wp CV FWK
variable {h:Cells}{r i:Nat}{m:Bool}{cs:Array Value}{el:TypeId}
theorem setCell_upd{v:Value}(hr:h r=some (m,.cells cs el (0,0))):h.setCell ⟨r,i,none⟩ v=h.upd r (m,.cells (cs.setIfInBounds i v) el (0,0)):=by
 funext b;unfold Cells.setCell Cells.upd;by_cases e:b=r
 ·subst e;simp[hr]
 ·simp[e]
theorem frozen_plain(hr:h r=some (m,.cells cs el (0,0))):h.frozen? ⟨r,i,none⟩=false:=by
 simp[Cells.frozen?,hr]
end
section
attribute [local irreducible] T.wp CV FWK
theorem c49{h:LH}(n a b:Int):Pu Tryz.prog 50 #[n,a,b] h (.bool (isIn n a b)):=by
 refine w49 _ _ _ Qn ?_;unfold n49;refine t_if (fun e=>?_) (fun e=>?_)<;>refine Qe ⟨?_,rfl⟩<;>simp[isIn,e]
end
section
set_option linter.unusedVariables false
variable {X:XP} {h:LH} {A:Value->LH->Prop}
variable {a b c d e f g i j k l m:Int}{n o p q r s t u v w x y z:Nat}{B C D E F G H I J K L M:Option Addr}
theorem w3131:FX X 22 #[.agg #[.slice B n o,.slice C p q,.slice D r s]] h A (.blk (bif decide ((↑n:Int)>20) then .rn [true] else bif decide ((↑p:Int)>20) then .rn [true] else bif decide ((↑r:Int)>20) then .rn [true] else .ag [false]) (fun a=>.popB a fun c a=>.unNil a (.loop [c,.int .i64 0] (fun a=>.popB a fun c a=>.pi a fun b a=>.unNil a (bif decide (b<(↑n:Int)) then .need (0<=b/\b<(↑n:Int)) (.someA B fun e=>.loadS ((e.add (b.toNat*1)).add 0) fun f k g=>bif decide ((↑k:Int)>20) then .rn [true,b] else .loop [c,.int .i64 0] (fun a=>.popB a fun c a=>.pi a fun d a=>.unNil a (.need (0<=b/\b<(↑n:Int)) (.someA B fun e=>.loadS ((e.add (b.toNat*1)).add 0) fun f l g=>bif decide (d<(↑l:Int)) then .need (0<=b/\b<(↑n:Int)) (.someA B fun e=>.loadS ((e.add (b.toNat*1)).add 0) fun f b g=>.need (0<=d/\d<(↑b:Int)) (.someA f fun e=>.loadStr ((e.add (d.toNat*2)).add 0) fun m=>.sem false (Builtin.len_ #[9] 3 #[.string m]) fun t=>.ui t fun b=>bif decide (b>100) then .rn [true,d] else .ag [c,.int .i64 (wrap .i64 (d+1))])) else .bk [c,d]))) (fun a=>.popB a fun c a=>.pi a fun d a=>.unNil a (.ag [c,.int .i64 (wrap .i64 (b+1))])) (fun a=>.popB a fun c a=>.pi a fun d a=>.unNil a (.rn [c,b])) fun i j=>.fail) else .bk [c,b])) (fun a=>.popB a fun c a=>.pi a fun b a=>.unNil a (.rt (.bool false))) (fun a=>.popB a fun c a=>.pi a fun b a=>.unNil a (.rt (.bool c))) fun i j=>.fail)) (fun a=>.popB a fun c a=>.unNil a (.rt (.bool c))) fun i j=>.fail):=fk [1] [⟨2,[(2,.bool),(4,.int .i64)],[1],[],[],[]⟩,⟨0,[(2,.bool),(3,.int .i64)],[1],[],[],[]⟩] [⟨3,[(2,.bool)],[1],[],[],[]⟩] Tryz.f22
theorem w3132:FX X 23 #[.agg #[.slice B n o,.slice C p q,.slice D r s]] h A (.cB 50 #[.int .i64 (↑n:Int),.int .i64 1,.int .i64 3] fun k=>bif !k then .rt (.int .i64 2) else .loop [.int .i64 0,.int .i64 0] (fun a=>.pi a fun b a=>.pi a fun d a=>.unNil a (bif decide (d<(↑n:Int)) then .need (0<=d/\d<(↑n:Int)) (.someA B fun j=>.loadS ((j.add (d.toNat*1)).add 0) fun m e l=>.cI 55 #[.agg #[.slice m e l]] fun c=>bif c != 0 then .rn [c,d] else .ag [b,.int .i64 (wrap .i64 (d+1))]) else .bk [b,d])) (fun a=>.pi a fun b a=>.pi a fun d a=>.unNil a (bif decide ((↑p:Int)>16) then .rt (.int .i64 2) else .loop [b,.int .i64 0] (fun a=>.pi a fun b a=>.pi a fun e a=>.unNil a (bif decide (e<(↑p:Int)) then .cI 56 #[.agg #[.slice B n o,.slice C p q,.slice D r s],e] fun c=>bif c != 0 then .rn [c,e] else .ag [b,.int .i64 (wrap .i64 (e+1))] else .bk [b,e])) (fun a=>.pi a fun b a=>.pi a fun e a=>.unNil a (bif decide ((↑r:Int)>10) then .rt (.int .i64 2) else .loop [b,.int .i64 0] (fun a=>.pi a fun b a=>.pi a fun c a=>.unNil a (bif decide (c<(↑r:Int)) then .cI 57 #[.agg #[.slice B n o,.slice C p q,.slice D r s],c] fun f=>bif f != 0 then .rn [f,c] else .ag [b,.int .i64 (wrap .i64 (c+1))] else .bk [b,c])) (fun a=>.pi a fun b a=>.pi a fun b a=>.unNil a (.rt (.int .i64 0))) (fun a=>.pi a fun b a=>.pi a fun c a=>.unNil a (.rt (.int .i64 b))) fun g i=>.fail)) (fun a=>.pi a fun b a=>.pi a fun e a=>.unNil a (.rt (.int .i64 b))) fun g i=>.fail)) (fun a=>.pi a fun b a=>.pi a fun d a=>.unNil a (.rt (.int .i64 b))) fun g i=>.fail):=fk [1] [⟨0,[(2,.int .i64),(3,.int .i64)],[1],[],[],[]⟩,⟨2,[(2,.int .i64),(5,.int .i64)],[1],[],[],[]⟩,⟨4,[(2,.int .i64),(7,.int .i64)],[1],[],[],[]⟩] [] Tryz.f23
theorem w3136:FX X 148 #[.agg #[.slice B n o,.slice C p q,.slice D r s],a,.slice E t u] h A (.loop [.int .i64 0,.int .i64 0] (fun b=>.pi b fun d b=>.pi b fun c b=>.unNil b (bif decide (c<(↑t:Int)) then .need (0<=c/\c<(↑t:Int)) (.someA E fun e=>.li (e.add (c.toNat*1)) fun f=>.cB 187 #[.agg #[.slice B n o,.slice C p q,.slice D r s],a,f] fun g=>bif !g then .rn [.int .i64 6,c] else bif decide (c>0) then .need (0<=wrap .i64 (c-1)/\wrap .i64 (c-1)<(↑t:Int)) (.someA E fun e=>.li (e.add ((wrap .i64 (c-1)).toNat*1)) fun i=>bif decide (f<=i) then .rn [.int .i64 7,c] else .ag [d,.int .i64 (wrap .i64 (c+1))]) else .ag [d,.int .i64 (wrap .i64 (c+1))]) else .bk [d,c])) (fun b=>.pi b fun d b=>.pi b fun d b=>.unNil b (.rt (.int .i64 0))) (fun b=>.pi b fun d b=>.pi b fun c b=>.unNil b (.rt (.int .i64 d))) fun j k=>.fail):=fk [3] [⟨0,[(6,.int .i64),(11,.int .i64)],[3],[],[],[]⟩] [] Tryz.f148
theorem w3140{e:ByteArray}:FX X 95 #[.string e] h A (.blk (.sem false (Builtin.len_ #[9] 3 #[.string e]) fun d=>.ui d fun b=>bif b==0 then .rn [false] else .sem false (Builtin.len_ #[9] 3 #[.string e]) fun d=>.ui d fun b=>bif decide (b>10) then .rn [false] else .ag [false]) (fun a=>.popB a fun c a=>.unNil a (.loop [c,.int .i64 0] (fun a=>.popB a fun c a=>.pi a fun b a=>.unNil a (.sem false (Builtin.len_ #[9] 3 #[.string e]) fun d=>.ui d fun l=>bif decide (b<l) then .blk (.both (.sem false (Instr.index 9 (.string e) (.int .i64 b)) fun d=>.unI .u8 d fun g=>.nds [b,.val (.string e)] (.both (.cB 50 #[.int .i64 (wrap .i64 g),.int .i64 97,.int .i64 122] fun c=>.nds [b,.val (.string e)] (.sem false (Instr.index 9 (.string e) (.int .i64 b)) fun d=>.unI .u8 d fun b=>.cB 50 #[.int .i64 (wrap .i64 b),.int .i64 48,.int .i64 57] fun f=>.ag [c,f])) (.sem false (Instr.index 9 (.string e) (.int .i64 b)) fun d=>.unI .u8 d fun b=>.nd (.int .i64 (wrap .i64 g)) (.cB 50 #[.int .i64 (wrap .i64 g),.int .i64 97,.int .i64 122] fun c=>.nd (.int .i64 (wrap .i64 b)) (.cB 50 #[.int .i64 (wrap .i64 b),.int .i64 48,.int .i64 57] fun f=>.ag [c,f]))))) (.sem false (Instr.index 9 (.string e) (.int .i64 b)) fun d=>.unI .u8 d fun g=>.nds [b,.val (.string e)] (.sem false (Instr.index 9 (.string e) (.int .i64 b)) fun d=>.unI .u8 d fun b=>.nd (.int .i64 (wrap .i64 g)) (.cB 50 #[.int .i64 (wrap .i64 b),.int .i64 97,.int .i64 122] fun c=>.nd (.int .i64 (wrap .i64 g)) (.cB 50 #[.int .i64 (wrap .i64 g),.int .i64 48,.int .i64 57] fun f=>.ag [c,f]))))) (fun a=>.popB a fun f a=>.popB a fun i a=>.unNil a (bif !f then bif !i then .rn [false,b] else bif b==0 then .rn [false,b] else .ag [c,.int .i64 (wrap .i64 (b+1))] else .ag [c,.int .i64 (wrap .i64 (b+1))])) (fun a=>.popB a fun f a=>.popB a fun i a=>.unNil a (.rn [c,b])) fun j k=>.fail else .bk [c,b])) (fun a=>.popB a fun c a=>.pi a fun b a=>.unNil a (.rt (.bool true))) (fun a=>.popB a fun c a=>.pi a fun b a=>.unNil a (.rt (.bool c))) fun j k=>.fail)) (fun a=>.popB a fun c a=>.unNil a (.rt (.bool c))) fun j k=>.fail):=fk [] [⟨0,[(2,.bool),(3,.int .i64)],[],[],[],[]⟩] [⟨7,[(4,.bool),(5,.bool)],[],[],[],[]⟩,⟨3,[(2,.bool)],[],[],[],[]⟩] Tryz.f95
theorem w3160:FX X 146 #[.agg #[.slice B n o,.slice C p q,.slice D r s]] h A (.sem false (Instr.buildSlice 278 3 #[(0,.func (Fn.func 184) #[.agg #[.slice B n o,.slice C p q,.slice D r s]] #[]),(1,.func (Fn.func 185) #[.agg #[.slice B n o,.slice C p q,.slice D r s]] #[]),(2,.func (Fn.func 186) #[.agg #[.slice B n o,.slice C p q,.slice D r s]] #[])]) fun d=>.unS d fun e b g=>.loop [.int .i64 0,.int .i64 0] (fun a=>.pi a fun f a=>.pi a fun c a=>.unNil a (bif decide (c<(↑b:Int)) then .need (0<=c/\c<(↑b:Int)) (.someA e fun e=>.loadV (e.add (c.toNat*1)) fun d=>.callv false d #[] fun d=>.ui d fun b=>bif b != 0 then .rn [b,c] else .ag [f,.int .i64 (wrap .i64 (c+1))]) else .bk [f,c])) (fun a=>.pi a fun b a=>.pi a fun b a=>.unNil a (.rt (.int .i64 0))) (fun a=>.pi a fun b a=>.pi a fun f a=>.unNil a (.rt (.int .i64 b))) fun i j=>.fail):=fk [1,3] [⟨0,[(2,.int .i64),(17,.int .i64)],[1,3],[],[],[]⟩] [] Tryz.f146
theorem w3161:FX X 147 #[.agg #[.slice B n o,.slice C p q,.slice D r s],a] h A (.cB 122 #[a,.int .i64 0,.int .i64 (wrap .i64 ((↑n:Int)-1))] fun b=>.rt (.bool b)):=fk [2] [] [] Tryz.f147
theorem w3165:FX X 55 #[.agg #[.slice B n o]] h A (bif decide ((↑n:Int)>8) then .rt (.int .i64 2) else .loop [.int .i64 0,.int .i64 0] (fun a=>.pi a fun d a=>.pi a fun b a=>.unNil a (bif decide (b<(↑n:Int)) then .need (0<=b/\b<(↑n:Int)) (.someA B fun e=>.loadStr ((e.add (b.toNat*2)).add 0) fun g=>.cB 95 #[.string g] fun f=>bif !f then .rn [.int .i64 4,b] else .loop [d,.int .i64 0] (fun a=>.pi a fun d a=>.pi a fun c a=>.unNil a (bif decide (c<b) then .need (0<=c/\c<(↑n:Int)) (.someA B fun e=>.loadStr ((e.add (c.toNat*2)).add 0) fun g=>.need (0<=b/\b<(↑n:Int)) (.someA B fun i=>.loadStr ((i.add (b.toNat*2)).add 0) fun j=>.sem false (Sem.bind (eqGuard BinOp.eql 9 (Operand.tmp 34) (Operand.tmp 40) (.string g) (.string j)) fun s=>binOp BinOp.eql 9 (.string g) (.string j)) fun p=>.unB p fun f=>.nd (.pointer (some ((i.add (b.toNat*2)).add 0))) (.need (0<=b/\b<(↑n:Int)) (.someA B fun k=>.ne (.pointer (some (k.add (b.toNat*2)))) (.pointer (some (i.add (b.toNat*2)))) (.nds [b,.S B n o,.pp 1 0,.val (.pointer (some ((e.add (c.toNat*2)).add 0)))] (.need (0<=c/\c<(↑n:Int)) (.someA B fun l=>.ne (.pointer (some (l.add (c.toNat*2)))) (.pointer (some (e.add (c.toNat*2)))) (.nds [c,.S B n o,.pp 1 0] (bif f then .rn [.int .i64 5,c] else .ag [d,.int .i64 (wrap .i64 (c+1))]))))))))) else .bk [d,c])) (fun a=>.pi a fun d a=>.pi a fun c a=>.unNil a (.need (0<=b/\b<(↑n:Int)) (.someA B fun e=>.li ((e.add (b.toNat*2)).add 1) fun m=>.cB 50 #[m,.int .i64 1,.int .i64 45] fun f=>bif !f then .rn [.int .i64 1,b] else .ag [d,.int .i64 (wrap .i64 (b+1))]))) (fun a=>.pi a fun d a=>.pi a fun c a=>.unNil a (.rn [d,b])) fun q r=>.fail) else .bk [d,b])) (fun a=>.pi a fun d a=>.pi a fun d a=>.unNil a (.rt (.int .i64 0))) (fun a=>.pi a fun d a=>.pi a fun b a=>.unNil a (.rt (.int .i64 d))) fun q r=>.fail):=fk [1] [⟨2,[(2,.int .i64),(4,.int .i64)],[1],[],[],[]⟩,⟨0,[(2,.int .i64),(3,.int .i64)],[1],[],[],[]⟩] [] Tryz.f55
theorem w3166:FX X 56 #[.agg #[.slice B n o,.slice C p q,.slice D r s],a] h A (.need (0<=a/\a<(↑p:Int)) (.someA C fun c=>.li ((c.add (a.toNat*3)).add 0) fun b=>.li ((c.add (a.toNat*3)).add 1) fun G=>.li ((c.add (a.toNat*3)).add 2) fun H=>.blk (.cB 50 #[b,.int .i64 0,.int .i64 (wrap .i64 ((↑n:Int)-2))] fun f=>.nds [.val (.int .i64 (↑n:Int)),.S B n o,.pp 2 0,.pp 5 0] (bif !f then .nds [.U,.U,.U,.U,.U,.U,.U,.U,.B (!f),.val (.int .i64 (↑n:Int)),.S B n o,.pp 2 0,.pp 5 0,.U,.U,.U,.U,.U,.U,.U,.U,.B (!f),.val (.int .i64 (↑n:Int)),.S B n o,.pp 2 0,.pp 5 0,.U,.U,.U,.U] (.nds [.U,.U,.U,.B (!f),.val (.int .i64 (↑n:Int)),.S B n o,.pp 2 0,.pp 5 0,.U,.U,.U,.U,.U,.U,.U,.B (!f),.val (.int .i64 (↑n:Int)),.S B n o,.pp 2 0,.pp 5 0,.U,.U,.U,.U,.U,true,.U,.U,.U,.U] (.nds [.U,.U,.U,.B (!f),.val (.int .i64 (↑n:Int)),.S B n o,.pp 2 0,.pp 5 0,.U,.U,.U,.U,.U,.U,.U,true,.U,.U,.U,.U,.U,.U,.U,.B (!f),.val (.int .i64 (↑n:Int)),.S B n o,.pp 2 0,.pp 5 0,.U,.U] (.nds [.U,.U,.U,.U,.U,true,.U,.U,.U,.U,.U,.U,.U,.B (!f),.val (.int .i64 (↑n:Int)),.S B n o,.pp 2 0,.pp 5 0,.U,.U,.U,.U,.U,.U,true,.U,.U,.U,.U,.U] (.nds [.U,.U,.B (!f),.val (.int .i64 (↑n:Int)),.S B n o,.pp 2 0,.pp 5 0,.U,.U,.U,.U,.U,.U,true,.U,.U,.U,.U,.U,.U,.U,.B (!f),.val (.int .i64 (↑n:Int)),.S B n o,.pp 2 0,.pp 5 0] (.rn [.int .i64 6]))))) else .need (0<=b/\b<(↑n:Int)) (.someA B fun c=>.loadS ((c.add (b.toNat*1)).add 0) fun k g j=>.cB 50 #[G,.int .i64 0,.int .i64 (wrap .i64 ((↑g:Int)-1))] fun i=>.nd (.int .i64 (↑g:Int)) (.loadS ((c.add (b.toNat*1)).add 0) fun U u O=>.ne (.slice U u O) (.slice k g j) (.nd (.pointer (some ((c.add (b.toNat*1)).add 0))) (.need (0<=b/\b<(↑n:Int)) (.someA B fun w=>.ne (.pointer (some (w.add (b.toNat*1)))) (.pointer (some (c.add (b.toNat*1)))) (.nds [b,.pp 5 0,.S B n o,.pp 2 0,.pp 5 1,.B (!f),.val (.int .i64 (↑n:Int)),.S B n o,.pp 2 0,.pp 5 0] (bif !i then .nds [.U,.U,.U,.U,.U,.B (!i),.B (!i),.val (.int .i64 (↑g:Int))] (.loadS ((c.add (b.toNat*1)).add 0) fun I e z=>.ne (.slice I e z) (.slice k g j) (.nd (.pointer (some ((c.add (b.toNat*1)).add 0))) (.need (0<=b/\b<(↑n:Int)) (.someA B fun l=>.ne (.pointer (some (l.add (b.toNat*1)))) (.pointer (some (c.add (b.toNat*1)))) (.nds [b,.pp 5 0,.S B n o,.pp 2 0,.pp 5 1,.B (!f),.val (.int .i64 (↑n:Int)),.S B n o,.pp 2 0,.pp 5 0,.U,.U,.U,.U,.U,.U,.U,.B (!i),.B (!i),.val (.int .i64 (↑g:Int))] (.loadS ((c.add (b.toNat*1)).add 0) fun J m E=>.ne (.slice J m E) (.slice k g j) (.nd (.pointer (some ((c.add (b.toNat*1)).add 0))) (.need (0<=b/\b<(↑n:Int)) (.someA B fun x=>.ne (.pointer (some (x.add (b.toNat*1)))) (.pointer (some (c.add (b.toNat*1)))) (.nds [b,.pp 5 0,.S B n o,.pp 2 0,.pp 5 1,.B (!f),.val (.int .i64 (↑n:Int)),.S B n o,.pp 2 0,.pp 5 0,.U,.U,.U,.U,.U,.U,.U,.B (!i),.B (!i),.val (.int .i64 (↑g:Int))] (.loadS ((c.add (b.toNat*1)).add 0) fun K t F=>.ne (.slice K t F) (.slice k g j) (.nd (.pointer (some ((c.add (b.toNat*1)).add 0))) (.need (0<=b/\b<(↑n:Int)) (.someA B fun y=>.ne (.pointer (some (y.add (b.toNat*1)))) (.pointer (some (c.add (b.toNat*1)))) (.nds [b,.pp 5 0,.S B n o,.pp 2 0,.pp 5 1,.B (!f),.val (.int .i64 (↑n:Int)),.S B n o,.pp 2 0,.pp 5 0,.U,.U,.U,.U,.U,.U,.B (!i),.B (!i),.val (.int .i64 (↑g:Int))] (.loadS ((c.add (b.toNat*1)).add 0) fun V v Q=>.ne (.slice V v Q) (.slice k g j) (.nd (.pointer (some ((c.add (b.toNat*1)).add 0))) (.need (0<=b/\b<(↑n:Int)) (.someA B fun L=>.ne (.pointer (some (L.add (b.toNat*1)))) (.pointer (some (c.add (b.toNat*1)))) (.nds [b,.pp 5 0,.S B n o,.pp 2 0,.pp 5 1,.B (!f),.val (.int .i64 (↑n:Int)),.S B n o,.pp 2 0,.pp 5 0,.U,.U,.U,.U,.U,.U,.B (!i),.B (!i),.val (.int .i64 (↑g:Int))] (.loadS ((c.add (b.toNat*1)).add 0) fun W S R=>.ne (.slice W S R) (.slice k g j) (.nd (.pointer (some ((c.add (b.toNat*1)).add 0))) (.need (0<=b/\b<(↑n:Int)) (.someA B fun M=>.ne (.pointer (some (M.add (b.toNat*1)))) (.pointer (some (c.add (b.toNat*1)))) (.nds [b,.pp 5 0,.S B n o,.pp 2 0,.pp 5 1,.B (!f),.val (.int .i64 (↑n:Int)),.S B n o,.pp 2 0,.pp 5 0] (.rn [.int .i64 6])))))))))))))))))))))))))) else .need (0<=wrap .i64 (b+1)/\wrap .i64 (b+1)<(↑n:Int)) (.someA B fun l=>.loadS ((l.add ((wrap .i64 (b+1)).toNat*1)).add 0) fun I e z=>.cB 50 #[H,.int .i64 0,.int .i64 (wrap .i64 ((↑e:Int)-1))] fun N=>.nd (.int .i64 (↑e:Int)) (.loadS ((l.add ((wrap .i64 (b+1)).toNat*1)).add 0) fun J m E=>.ne (.slice J m E) (.slice I e z) (.nd (.pointer (some ((l.add ((wrap .i64 (b+1)).toNat*1)).add 0))) (.need (0<=wrap .i64 (b+1)/\wrap .i64 (b+1)<(↑n:Int)) (.someA B fun x=>.ne (.pointer (some (x.add ((wrap .i64 (b+1)).toNat*1)))) (.pointer (some (l.add ((wrap .i64 (b+1)).toNat*1)))) (.nds [.val (.int .i64 (wrap .i64 (b+1))),b,.pp 5 0,.S B n o,.pp 2 0,.pp 5 2,.B (!i),.B (!i),.val (.int .i64 (↑g:Int))] (.loadS ((c.add (b.toNat*1)).add 0) fun K t F=>.ne (.slice K t F) (.slice k g j) (.nd (.pointer (some ((c.add (b.toNat*1)).add 0))) (.need (0<=b/\b<(↑n:Int)) (.someA B fun y=>.ne (.pointer (some (y.add (b.toNat*1)))) (.pointer (some (c.add (b.toNat*1)))) (.nds [b,.pp 5 0,.S B n o,.pp 2 0,.pp 5 1,.B (!f),.val (.int .i64 (↑n:Int)),.S B n o,.pp 2 0,.pp 5 0] (bif !N then .rn [.int .i64 6] else .ag [.int .i64 0]))))))))))))))))))))) (fun d=>.pi d fun g d=>.unNil d (.loop [g,.int .i64 0] (fun d=>.pi d fun u d=>.pi d fun e d=>.unNil d (bif decide (e<a) then .need (0<=e/\e<(↑p:Int)) (.someA C fun c=>.li ((c.add (e.toNat*3)).add 0) fun m=>.li ((c.add (e.toNat*3)).add 1) fun t=>.li ((c.add (e.toNat*3)).add 2) fun v=>.sem false (Sem.bind (eqGuard BinOp.eql 176 (Operand.tmp 60) (Operand.tmp 61) (.agg #[m,t,v]) (.agg #[b,G,H])) fun b0=>binOp BinOp.eql 176 (.agg #[m,t,v]) (.agg #[b,G,H])) fun Y=>.unB Y fun f=>.need (0<=e/\e<(↑p:Int)) (.someA C fun w=>.ne (.pointer (some (w.add (e.toNat*3)))) (.pointer (some (c.add (e.toNat*3)))) (.nds [e,.S C p q,.pp 2 1] (bif f then .rn [.int .i64 5,e] else .ag [u,.int .i64 (wrap .i64 (e+1))])))) else .bk [u,e])) (fun d=>.pi d fun b d=>.pi d fun b d=>.unNil d (.rt (.int .i64 0))) (fun d=>.pi d fun b d=>.pi d fun u d=>.unNil d (.rt (.int .i64 b))) fun Z a0=>.fail)) (fun d=>.pi d fun b d=>.unNil d (.rt (.int .i64 b))) fun Z a0=>.fail)):=fk [2,5] [⟨0,[(4,.int .i64),(6,.int .i64)],[2,5],[],[],[]⟩] [⟨4,[(4,.int .i64)],[2,5],[],[],[]⟩] Tryz.f56
theorem w3167:FX X 57 #[.agg #[.slice B n o,.slice C p q,.slice D r s],a] h A (.need (0<=a/\a<(↑r:Int)) (.someA D fun d=>.li ((d.add (a.toNat*4)).add 0) fun b=>.li ((d.add (a.toNat*4)).add 1) fun v=>.li ((d.add (a.toNat*4)).add 2) fun G=>.li ((d.add (a.toNat*4)).add 3) fun Q=>.blk (.cB 50 #[b,.int .i64 0,.int .i64 (wrap .i64 ((↑n:Int)-1))] fun f=>.nds [.val (.int .i64 (↑n:Int)),.S B n o,.pp 2 0,.pp 5 0] (bif !f then .nds [.U,.U,.U,.U,.U,.U,.U,.U,.B (!f),.val (.int .i64 (↑n:Int)),.S B n o,.pp 2 0,.pp 5 0,.U,.U,.U,.U,.U,.U,.U,.U,.B (!f),.val (.int .i64 (↑n:Int)),.S B n o,.pp 2 0,.pp 5 0,.U,.U,.U,.U] (.nds [.U,.U,.U,.B (!f),.val (.int .i64 (↑n:Int)),.S B n o,.pp 2 0,.pp 5 0,.U,.U,.U,.U,.U,.U,.U,.B (!f),.val (.int .i64 (↑n:Int)),.S B n o,.pp 2 0,.pp 5 0,.U,.U,.U,.U,.U,.U,.U,.U,true,.U] (.nds [.U,.U,.U,.U,.U,.U,.B (!f),.val (.int .i64 (↑n:Int)),.S B n o,.pp 2 0,.pp 5 0,.U,.U,.U,.U,.U,.U,.U,.U,true,.U,.U,.U,.U,.U,.U,.U,.B (!f),.val (.int .i64 (↑n:Int)),.S B n o] (.nds [.pp 2 0,.pp 5 0,.U,.U,.U,.U,.U,.U,.U,true,.U,.U,.U,.U,.U,.U,.U,.B (!f),.val (.int .i64 (↑n:Int)),.S B n o,.pp 2 0,.pp 5 0,.U,.U,.U,.U,.U,.U,.U,true] (.nds [.U,.U,.U,.U,.U,.U,.U,.B (!f),.val (.int .i64 (↑n:Int)),.S B n o,.pp 2 0,.pp 5 0] (.rn [.int .i64 6]))))) else .need (0<=b/\b<(↑n:Int)) (.someA B fun d=>.loadS ((d.add (b.toNat*1)).add 0) fun w g u=>.cB 50 #[v,.int .i64 0,.int .i64 (wrap .i64 ((↑g:Int)-1))] fun j=>.nd (.int .i64 (↑g:Int)) (.loadS ((d.add (b.toNat*1)).add 0) fun R t N=>.ne (.slice R t N) (.slice w g u) (.nd (.pointer (some ((d.add (b.toNat*1)).add 0))) (.need (0<=b/\b<(↑n:Int)) (.someA B fun m=>.ne (.pointer (some (m.add (b.toNat*1)))) (.pointer (some (d.add (b.toNat*1)))) (.nds [b,.pp 5 0,.S B n o,.pp 2 0,.pp 5 1,.B (!f),.val (.int .i64 (↑n:Int)),.S B n o,.pp 2 0,.pp 5 0] (bif !j then .nds [.U,.U,.U,.U,.U,.U,.U,.U,.B (!j),.B (!j),.val (.int .i64 (↑g:Int))] (.loadS ((d.add (b.toNat*1)).add 0) fun I c z=>.ne (.slice I c z) (.slice w g u) (.nd (.pointer (some ((d.add (b.toNat*1)).add 0))) (.need (0<=b/\b<(↑n:Int)) (.someA B fun k=>.ne (.pointer (some (k.add (b.toNat*1)))) (.pointer (some (d.add (b.toNat*1)))) (.nds [b,.pp 5 0,.S B n o,.pp 2 0,.pp 5 1,.B (!f),.val (.int .i64 (↑n:Int)),.S B n o,.pp 2 0,.pp 5 0,.U,.U,.U,.U,.U,.U,.U,.U,.B (!j),.B (!j),.val (.int .i64 (↑g:Int))] (.loadS ((d.add (b.toNat*1)).add 0) fun J i E=>.ne (.slice J i E) (.slice w g u) (.nd (.pointer (some ((d.add (b.toNat*1)).add 0))) (.need (0<=b/\b<(↑n:Int)) (.someA B fun x=>.ne (.pointer (some (x.add (b.toNat*1)))) (.pointer (some (d.add (b.toNat*1)))) (.nds [b,.pp 5 0,.S B n o,.pp 2 0,.pp 5 1,.B (!f),.val (.int .i64 (↑n:Int)),.S B n o,.pp 2 0,.pp 5 0,.U,.U,.U,.U,.U,.U,.U,.B (!j),.B (!j),.val (.int .i64 (↑g:Int))] (.loadS ((d.add (b.toNat*1)).add 0) fun K l F=>.ne (.slice K l F) (.slice w g u) (.nd (.pointer (some ((d.add (b.toNat*1)).add 0))) (.need (0<=b/\b<(↑n:Int)) (.someA B fun y=>.ne (.pointer (some (y.add (b.toNat*1)))) (.pointer (some (d.add (b.toNat*1)))) (.nds [b,.pp 5 0,.S B n o,.pp 2 0,.pp 5 1,.B (!f),.val (.int .i64 (↑n:Int)),.S B n o,.pp 2 0,.pp 5 0,.U,.U,.U,.U,.U,.U,.U,.B (!j),.B (!j),.val (.int .i64 (↑g:Int))] (.loadS ((d.add (b.toNat*1)).add 0) fun S H O=>.ne (.slice S H O) (.slice w g u) (.nd (.pointer (some ((d.add (b.toNat*1)).add 0))) (.need (0<=b/\b<(↑n:Int)) (.someA B fun L=>.ne (.pointer (some (L.add (b.toNat*1)))) (.pointer (some (d.add (b.toNat*1)))) (.nds [b,.pp 5 0,.S B n o,.pp 2 0,.pp 5 1,.B (!f),.val (.int .i64 (↑n:Int)),.S B n o,.pp 2 0,.pp 5 0] (.rn [.int .i64 6]))))))))))))))))))))) else .need (0<=b/\b<(↑n:Int)) (.someA B fun k=>.loadS ((k.add (b.toNat*1)).add 0) fun I c z=>.cB 50 #[G,.int .i64 0,.int .i64 (wrap .i64 ((↑c:Int)-1))] fun M=>.nd (.int .i64 (↑c:Int)) (.loadS ((k.add (b.toNat*1)).add 0) fun J i E=>.ne (.slice J i E) (.slice I c z) (.nd (.pointer (some ((k.add (b.toNat*1)).add 0))) (.need (0<=b/\b<(↑n:Int)) (.someA B fun x=>.ne (.pointer (some (x.add (b.toNat*1)))) (.pointer (some (k.add (b.toNat*1)))) (.nds [b,.pp 5 0,.S B n o,.pp 2 0,.pp 5 2,.B (!j),.B (!j),.val (.int .i64 (↑g:Int))] (.loadS ((d.add (b.toNat*1)).add 0) fun K l F=>.ne (.slice K l F) (.slice w g u) (.nd (.pointer (some ((d.add (b.toNat*1)).add 0))) (.need (0<=b/\b<(↑n:Int)) (.someA B fun y=>.ne (.pointer (some (y.add (b.toNat*1)))) (.pointer (some (d.add (b.toNat*1)))) (.nds [b,.pp 5 0,.S B n o,.pp 2 0,.pp 5 1,.B (!f),.val (.int .i64 (↑n:Int)),.S B n o,.pp 2 0,.pp 5 0] (bif !M then .rn [.int .i64 6] else .ag [.int .i64 0]))))))))))))))))))))) (fun e=>.pi e fun g e=>.unNil e (bif decide (v>=G) then .rt (.int .i64 7) else .cB 50 #[Q,.int .i64 1,.int .i64 5] fun f=>bif !f then .rt (.int .i64 1) else .loop [g,.int .i64 0] (fun e=>.pi e fun t e=>.pi e fun c e=>.unNil e (bif decide (c<a) then .need (0<=c/\c<(↑r:Int)) (.someA D fun d=>.li ((d.add (c.toNat*4)).add 0) fun i=>bif i==b then .need (0<=c/\c<(↑r:Int)) (.someA D fun m=>.li ((m.add (c.toNat*4)).add 1) fun l=>bif l==v then .need (0<=c/\c<(↑r:Int)) (.someA D fun d=>.li ((d.add (c.toNat*4)).add 2) fun b=>bif b==G then .rn [.int .i64 5,c] else .ag [t,.int .i64 (wrap .i64 (c+1))]) else .nds [.U,.U,.U,.U,.U,.U,.B (l==v),.B (l==v),v,.pp 5 1] (.li ((m.add (c.toNat*4)).add 1) fun H=>.ne H l (.nd (.pointer (some ((m.add (c.toNat*4)).add 1))) (.need (0<=c/\c<(↑r:Int)) (.someA D fun k=>.ne (.pointer (some (k.add (c.toNat*4)))) (.pointer (some (m.add (c.toNat*4)))) (.nds [c,.S D r s,.pp 2 2] (.nf (i==b) true (.nds [.B (i==b),b,.pp 5 0] (.li ((d.add (c.toNat*4)).add 0) fun b=>.ne b i (.nd (.pointer (some ((d.add (c.toNat*4)).add 0))) (.need (0<=c/\c<(↑r:Int)) (.someA D fun x=>.ne (.pointer (some (x.add (c.toNat*4)))) (.pointer (some (d.add (c.toNat*4)))) (.nds [c,.S D r s,.pp 2 2] (.ag [t,.int .i64 (wrap .i64 (c+1))])))))))))))))) else .nds [.U,.U,.U,.U,.U,.U,.B (i==b),b,.pp 5 0] (.li ((d.add (c.toNat*4)).add 0) fun l=>.ne l i (.nd (.pointer (some ((d.add (c.toNat*4)).add 0))) (.need (0<=c/\c<(↑r:Int)) (.someA D fun m=>.ne (.pointer (some (m.add (c.toNat*4)))) (.pointer (some (d.add (c.toNat*4)))) (.nds [c,.S D r s,.pp 2 2,.U,.U,.U,.U,.U,.U,false,.U,.U,.U,.U,.U,.U,.B (i==b),b,.pp 5 0] (.li ((d.add (c.toNat*4)).add 0) fun b=>.ne b i (.nd (.pointer (some ((d.add (c.toNat*4)).add 0))) (.need (0<=c/\c<(↑r:Int)) (.someA D fun k=>.ne (.pointer (some (k.add (c.toNat*4)))) (.pointer (some (d.add (c.toNat*4)))) (.nds [c,.S D r s,.pp 2 2] (.ag [t,.int .i64 (wrap .i64 (c+1))])))))))))))) else .bk [t,c])) (fun e=>.pi e fun b e=>.pi e fun b e=>.unNil e (.rt (.int .i64 0))) (fun e=>.pi e fun b e=>.pi e fun t e=>.unNil e (.rt (.int .i64 b))) fun U V=>.fail)) (fun e=>.pi e fun b e=>.unNil e (.rt (.int .i64 b))) fun U V=>.fail)):=fk [2,5] [⟨0,[(4,.int .i64),(6,.int .i64)],[2,5],[],[],[]⟩] [⟨4,[(4,.int .i64)],[2,5],[],[],[]⟩] Tryz.f57
theorem w3168:FX X 187 #[.agg #[.slice B n o,.slice C p q,.slice D r s],a,b] h A (.cl 207 #[.agg #[.slice B n o,.slice C p q,.slice D r s],a] fun e=>.unS e fun f d g=>.cB 122 #[b,.int .i64 0,.int .i64 (wrap .i64 ((↑d:Int)-1))] fun c=>.rt (.bool c)):=fk [3] [] [] Tryz.f187
theorem w3180:FX X 184 #[.agg #[.slice B n o,.slice C p q,.slice D r s]] h A (.cB 122 #[.int .i64 (↑n:Int),.int .i64 1,.int .i64 3] fun e=>bif !e then .rt (.int .i64 2) else .sem false (Instr.makeMap 295 none) fun i=>.unM i fun j=>.loop [.int .i64 0,.int .i64 0] (fun a=>.pi a fun b a=>.pi a fun d a=>.unNil a (bif decide (d<(↑n:Int)) then .need (0<=d/\d<(↑n:Int)) (.someA B fun m=>.loadS ((m.add (d.toNat*1)).add 0) fun u f x=>bif decide ((↑f:Int)>8) then .rn [.int .i64 2,d] else .loop [b,.int .i64 0] (fun a=>.pi a fun b a=>.pi a fun c a=>.unNil a (bif decide (c<(↑f:Int)) then .need (0<=c/\c<(↑f:Int)) (.someA u fun k=>.loadStr ((k.add (c.toNat*2)).add 0) fun g=>.li ((k.add (c.toNat*2)).add 1) fun t=>.cB 206 #[.string g] fun e=>bif !e then .rn [.int .i64 4,c] else .sem false (Instr.lookup 295 (.map j) (.agg #[d,.string g]) false) fun i=>.unB i fun e=>bif e then .rn [.int .i64 5,c] else .cB 122 #[t,.int .i64 1,.int .i64 45] fun e=>bif !e then .rn [.int .i64 1,c] else .sem false (Sem.bind (Instr.mapUpdate 295 (.map j) (.agg #[d,.string g]) (.bool true)) fun w=>pure (.tuple #[])) fun l=>.ag [b,.int .i64 (wrap .i64 (c+1))]) else .bk [b,c])) (fun a=>.pi a fun b a=>.pi a fun c a=>.unNil a (.ag [b,.int .i64 (wrap .i64 (d+1))])) (fun a=>.pi a fun b a=>.pi a fun c a=>.unNil a (.rn [b,d])) fun l v=>.fail) else .bk [b,d])) (fun a=>.pi a fun b a=>.pi a fun b a=>.unNil a (.rt (.int .i64 0))) (fun a=>.pi a fun b a=>.pi a fun d a=>.unNil a (.rt (.int .i64 b))) fun l v=>.fail):=fk [1,5,7,8] [⟨2,[(2,.int .i64),(32,.int .i64)],[1,5],[],[],[]⟩,⟨0,[(2,.int .i64),(20,.int .i64)],[1],[],[],[]⟩] [] Tryz.f184
theorem w3181:FX X 185 #[.agg #[.slice B n o,.slice C p q,.slice D r s]] h A (bif decide ((↑p:Int)>16) then .rt (.int .i64 2) else .sem false (Instr.makeMap 298 none) fun j=>.unM j fun k=>.loop [.int .i64 0,.int .i64 0] (fun a=>.pi a fun d a=>.pi a fun b a=>.unNil a (bif decide (b<(↑p:Int)) then .need (0<=b/\b<(↑p:Int)) (.someA C fun f=>.li ((f.add (b.toNat*3)).add 0) fun e=>.li ((f.add (b.toNat*3)).add 1) fun g=>.li ((f.add (b.toNat*3)).add 2) fun i=>.cB 147 #[.agg #[.slice B n o,.slice C p q,.slice D r s],e] fun c=>bif !c then .rn [.int .i64 6,b] else .cB 147 #[.agg #[.slice B n o,.slice C p q,.slice D r s],.int .i64 (wrap .i64 (e+1))] fun c=>bif !c then .rn [.int .i64 6,b] else .cB 187 #[.agg #[.slice B n o,.slice C p q,.slice D r s],e,g] fun c=>bif !c then .rn [.int .i64 6,b] else .cB 187 #[.agg #[.slice B n o,.slice C p q,.slice D r s],.int .i64 (wrap .i64 (e+1)),i] fun c=>bif !c then .rn [.int .i64 6,b] else .sem false (Instr.lookup 298 (.map k) (.agg #[e,g,i]) false) fun j=>.unB j fun c=>bif c then .rn [.int .i64 5,b] else .sem false (Sem.bind (Instr.mapUpdate 298 (.map k) (.agg #[e,g,i]) (.bool true)) fun m=>pure (.tuple #[])) fun l=>.ag [d,.int .i64 (wrap .i64 (b+1))]) else .bk [d,b])) (fun a=>.pi a fun d a=>.pi a fun d a=>.unNil a (.rt (.int .i64 0))) (fun a=>.pi a fun d a=>.pi a fun b a=>.unNil a (.rt (.int .i64 d))) fun l t=>.fail):=fk [1,5] [⟨0,[(2,.int .i64),(16,.int .i64)],[1],[],[],[]⟩] [] Tryz.f185
theorem w3182:FX X 186 #[.agg #[.slice B n o,.slice C p q,.slice D r s]] h A (bif decide ((↑r:Int)>10) then .rt (.int .i64 2) else .sem false (Instr.makeMap 299 none) fun j=>.unM j fun k=>.loop [.int .i64 0,.int .i64 0] (fun a=>.pi a fun d a=>.pi a fun b a=>.unNil a (bif decide (b<(↑r:Int)) then .need (0<=b/\b<(↑r:Int)) (.someA D fun f=>.li ((f.add (b.toNat*4)).add 0) fun e=>.li ((f.add (b.toNat*4)).add 1) fun g=>.li ((f.add (b.toNat*4)).add 2) fun i=>.li ((f.add (b.toNat*4)).add 3) fun m=>.blk (.cB 147 #[.agg #[.slice B n o,.slice C p q,.slice D r s],e] fun c=>bif !c then .ag [true] else .cB 187 #[.agg #[.slice B n o,.slice C p q,.slice D r s],e,g] fun c=>bif !c then .ag [true] else .cB 187 #[.agg #[.slice B n o,.slice C p q,.slice D r s],e,i] fun c=>.ag [.bool !c]) (fun a=>.popB a fun c a=>.unNil a (bif c then .rn [.int .i64 6,b] else bif decide (g>=i) then .rn [.int .i64 7,b] else .cB 122 #[m,.int .i64 1,.int .i64 5] fun c=>bif !c then .rn [.int .i64 1,b] else .sem false (Instr.lookup 299 (.map k) (.agg #[e,g,i,.int .i64 0]) false) fun j=>.unB j fun c=>bif c then .rn [.int .i64 5,b] else .sem false (Sem.bind (Instr.mapUpdate 299 (.map k) (.agg #[e,g,i,.int .i64 0]) (.bool true)) fun u=>pure (.tuple #[])) fun l=>.ag [d,.int .i64 (wrap .i64 (b+1))])) (fun a=>.popB a fun c a=>.unNil a (.rn [d,b])) fun l t=>.fail) else .bk [d,b])) (fun a=>.pi a fun d a=>.pi a fun d a=>.unNil a (.rt (.int .i64 0))) (fun a=>.pi a fun d a=>.pi a fun b a=>.unNil a (.rt (.int .i64 d))) fun l t=>.fail):=fk [1,5,6] [⟨0,[(2,.int .i64),(17,.int .i64)],[1],[],[],[]⟩] [⟨2000023,[(23,.bool)],[1,5,6],[],[],[]⟩] Tryz.f186
theorem w3183:FX X 122 #[a,b,c] h A (bif decide (b<=a) then .rt (.bool (decide (a<=c))) else .rt (.bool false)):=fk [] [] [] Tryz.f122
theorem w3194:FX X 207 #[.agg #[.slice B n o,.slice C p q,.slice D r s],a] h A (.cB 122 #[a,.int .i64 0,.int .i64 (wrap .i64 ((↑n:Int)-1))] fun c=>bif !c then .rt (.slice none 0 0) else .need (0<=a/\a<(↑n:Int)) (.someA B fun b=>.loadS ((b.add (a.toNat*1)).add 0) fun f e d=>.rt (.slice f e d))):=fk [2] [] [] Tryz.f207
theorem w3208{c:ByteArray}:FX X 206 #[.string c] h A (.sem false (Builtin.len_ #[9] 3 #[.string c]) fun b=>.ui b fun a=>.cB 122 #[a,.int .i64 1,.int .i64 10] fun d=>bif !d then .rt (.bool false) else .sem false (Instr.index 9 (.string c) (.int .i64 0)) fun b=>.unI .u8 b fun a=>bif decide (a<97) then .rt (.bool false) else .sem false (Instr.index 9 (.string c) (.int .i64 0)) fun b=>.unI .u8 b fun a=>bif decide (a>122) then .rt (.bool false) else .sem false (convert 9 307 (.string c)) fun b=>.unS b fun e a f=>.cB 213 #[.slice e a f,.func (Fn.func 214) #[] #[]] fun d=>.rt (.bool !d)):=fk [] [] [] Tryz.f206
theorem w3239{a:Value}:FX X 213 #[.slice B n o,a] h A (.cI 216 #[.slice B n o,a] fun b=>.rt (.bool (decide (b>=0)))):=fk [] [] [] Tryz.f213
theorem w3240:FX X 214 #[.int .u8 a] h A (bif decide (a<97) then bif decide (a<48) then .rt (.bool true) else .rt (.bool (decide (a>57))) else bif decide (a>122) then bif decide (a<48) then .rt (.bool true) else .rt (.bool (decide (a>57))) else .rt (.bool false)):=fk [] [] [] Tryz.f214
theorem w3247{d:Value}:FX X 216 #[.slice B n o,d] h A (.loop [.int .i64 0,.int .i64 0] (fun a=>.pi a fun c a=>.pi a fun b a=>.unNil a (bif decide (b<(↑n:Int)) then .need (0<=b/\b<(↑n:Int)) (.someA B fun e=>.loadI .u8 (e.add (b.toNat*1)) fun g=>.callv false d #[.int .u8 g] fun i=>.unB i fun f=>bif f then .rn [b,b] else .ag [c,.int .i64 (wrap .i64 (b+1))]) else .bk [c,b])) (fun a=>.pi a fun c a=>.pi a fun c a=>.unNil a (.rt (.int .i64 (-1)))) (fun a=>.pi a fun c a=>.pi a fun b a=>.unNil a (.rt (.int .i64 c))) fun j k=>.fail):=fk [] [⟨0,[(4,.int .i64),(8,.int .i64)],[],[],[],[]⟩] [] Tryz.f216
end
section
attribute [local irreducible] T.wp CV FWK
variable {h:LH}{f:TabC}{t:GTab}{n c:Nat}{p:Option Addr}{fv:Value}
theorem und9:Tryz.prog.underlying 9=some .string:=by kernel_rfl
theorem und1275:Tryz.prog.underlying 307=some (.slice 5):=by kernel_rfl
theorem undU8:Tryz.prog.underlying 5=some (.int .u8):=by kernel_rfl
theorem c3183(n a b:Int):Pu Tryz.prog 122 #[n,a,b] h (.bool (isIn n a b)):=by
 refine w3183 Qn ?_;refine t_if (fun e=>?_) (fun e=>?_)<;>refine Qe ⟨?_,rfl⟩<;>simp[isIn,e]
theorem c3161(hr:TabR h.get f t)(n:Int):Pu Tryz.prog 147 #[tabV f,n] h (.bool (isIn n 0 ((t.eds.length:Int)-1))):=by
 refine w3161 Qn ?_;have a:=hr.eds.1;have hb:=hr.eds.2.1;rw[Qj (n:=(f.n0:Int)-1) (by omega) (by omega),a];refine t_pu (c3183 _ _ _) ?_;refine gZ ?_;exact Qe ⟨rfl,rfl⟩
def itemsIn(t:GTab)(e:Int):List GItem:=if isIn e 0 ((t.eds.length:Int)-1) then t.items e else []
theorem c3194(hr:TabR h.get f t)(e:Int):FW X0 Tryz.prog 207 #[tabV f,.int .i64 e] h fun r h'=>h=h'/\∃ p n c,r=.slice p n c/\Sl ItemE 2 h.get p n (itemsIn t e):=by
 refine w3194 Qn ?_;have m:=hr.eds.1;have hb:=hr.eds.2.1;rw[Qj (n:=(f.n0:Int)-1) (by omega) (by omega),m];refine t_pu (c3183 _ _ _) ?_;refine yI (fun b=>?_) (fun b=>?_)
 ·have d:isIn e 0 ((t.eds.length:Int)-1)=false:=by simpa using b
  refine Qe ⟨rfl,none,0,0,rfl,?_⟩;unfold itemsIn;rw[d];exact Sl.nil
 ·have d:isIn e 0 ((t.eds.length:Int)-1)=true:=by simpa using b
  have j:0<=e/\e<(t.eds.length:Int):=by
   unfold isIn at d;simp only[Bool.and_eq_true,decide_eq_true_eq]at d;omega
  obtain⟨l,a,k,s,q,n,c,o,g⟩:=hr.eds.at (i:=e.toNat) (by omega);refine gZ ?_;refine Qe ⟨rfl,q,n,c,rfl,?_⟩;unfold itemsIn GTab.items;rw[if_pos d,List.getD_eq_getElem?_getD,k];exact g
theorem c3168(hr:TabR h.get f t)(e n:Int):Pu Tryz.prog 187 #[tabV f,e,n] h (.bool (isIn n 0 (((itemsIn t e).length:Int)-1))):=by
 refine w3168 Qn ?_;refine Qz (Ko (c3194 hr e)) ?_;rintro _ _ ⟨rfl,p,k,c,rfl,a⟩;have b:=a.1;have hb:=a.2.1;refine gZ ?_;rw[Qj (n:=(k:Int)-1) (by omega) (by omega),b];refine t_pu (c3183 _ _ _) ?_;refine gZ ?_;exact Qe ⟨rfl,rfl⟩
theorem Un{e n:Int}:isIn n 0 (((itemsIn t e).length:Int)-1)=true↔itemB t e n:=by
 unfold itemsIn itemB isIn;constructor
 ·intro a;split at a
  ·rename_i h1;simp only[Bool.and_eq_true,decide_eq_true_eq]at h1 a;omega
  ·simp at a;omega
 ·rintro⟨h1,h2,h3,b⟩;rw[if_pos (by simp;omega)];simp;omega
/-! ### Names -/
theorem letter_in(c:UInt8):isIn (c.toNat:Int) 97 122=letterB c:=by
 unfold isIn letterB;congr 1<;>rw[decide_eq_decide]<;>omega
theorem digit_in(c:UInt8):isIn (c.toNat:Int) 48 57=digitB c:=by
 unfold isIn digitB;congr 1<;>rw[decide_eq_decide]<;>omega
theorem byte_lt(c:UInt8):c.toNat<256:=c.toNat_lt
theorem c3240(c:UInt8):Pu Tryz.prog 214 #[.int .u8 (c.toNat:Int)] h (.bool (!(letterB c||digitB c))):=by
 refine w3240 Qn ?_;unfold letterB digitB;refine t_if (fun b=>?_) (fun b=>?_)
 ·refine t_if (fun a=>?_) (fun a=>?_)<;>refine Qe ⟨?_,rfl⟩
  ·have h1:¬ 97<=c.toNat:=by omega
   have h2:¬ 48<=c.toNat:=by omega
   simp[h1,h2]
  ·have h1:¬ 97<=c.toNat:=by omega
   have h2:48<=c.toNat:=by omega
   by_cases h3:c.toNat<=57
   ·have:¬ (c.toNat:Int)>57:=by omega
    simp[h1,h2,h3,this]
   ·have:(c.toNat:Int)>57:=by omega
    simp[h1,h2,h3,this]
 ·have h1:97<=c.toNat:=by omega
  refine t_if (fun a=>?_) (fun a=>?_)
  ·refine t_if (fun d=>by omega) (fun d=>?_);refine Qe ⟨?_,rfl⟩;have h2:¬ c.toNat<=122:=by omega
   have h3:¬ c.toNat<=57:=by omega
   have:(c.toNat:Int)>57:=by omega
   simp[h2,h3,this]
  ·refine Qe ⟨?_,rfl⟩;have h2:c.toNat<=122:=by omega
   simp[h1,h2]
theorem c3247{l:List UInt8}{g:UInt8->Bool}(d:Sl ByteE 1 h.get p n l)(k:∀ x:UInt8,CV X0 Tryz.prog fv #[.int .u8 (x.toNat:Int)] h fun r h'=>r=.bool (g x)/\h'=h) :
  Pu Tryz.prog 216 #[.slice p n c,fv] h (.int .i64 (placeF g 0 l)):=by
 refine w3247 Qn ?_;have t:=d.1;have hb:=d.2.1;refine Qq (fun m vs h'=>h'=h/\∃ i:Nat,vs=[.int .i64 0,.int .i64 i]/\i<=n/\m=n-i/\placeF g 0 l=placeF g i (l.drop i)) ⟨rfl,0,rfl,Nat.zero_le _,rfl,rfl⟩ ?_;rintro Y m vs _ j ⟨rfl,i,rfl,s,rfl,hc⟩;refine yJ (fun e=>?_) (fun e=>?_)
 ·obtain⟨x,a,o,q,f⟩:=d.at (i:=i) (by omega);unfold ByteE at f;refine gZ ?_;refine J2 (k x) ?_;rintro _ _ ⟨rfl,rfl⟩;refine gZ ?_;rw[Jd o,placeF]at hc;refine Qt (fun b=>?_) (fun b=>?_)
  ·refine gZ ?_;refine Qe ⟨?_,rfl⟩;rw[hc,if_pos b]
  ·refine Qa (j (n-(i+1)) _ _ (by omega) ⟨rfl,i+1,?_,by omega,rfl,?_⟩)
   ·rw[Qj (by omega) (by omega)];rfl
   ·rw[hc,if_neg (by simp[b])]
 ·refine gZ ?_;refine Qe ⟨?_,rfl⟩;rw[hc,List.drop_eq_nil_of_le (by omega)];rfl
theorem c3239{l:List UInt8}{g:UInt8->Bool}(b:Sl ByteE 1 h.get p n l)(a:∀ x:UInt8,CV X0 Tryz.prog fv #[.int .u8 (x.toNat:Int)] h fun r h'=>r=.bool (g x)/\h'=h) :
  Pu Tryz.prog 213 #[.slice p n c,fv] h (.bool (l.any g)):=by
 refine w3239 Qn ?_;refine t_pu (c3247 b a) ?_;refine gZ ?_;refine Qe ⟨?_,rfl⟩;rw[placeF_ge]
theorem c3208{s:ByteArray}(b:NameOk s):Gr Tryz.prog 206 #[.string s] h fun r _=>r=.bool true:=by
 refine w3208 Qn ?_;have f:=b.size;have h0:0<s.data.size:=f.1;have hc:=Array.getElem?_eq_getElem (xs:=s.data) (i:=0) h0;generalize s.data[0]=c at hc;have k:letterB c=true:=(b.all 0 c hc).resolve_right (fun m=>m.2 rfl);unfold letterB at k;simp only[Bool.and_eq_true,decide_eq_true_eq]at k;refine Hy und9 ?_;refine gZ ?_;refine t_pu (c3183 _ _ _) ?_;have l:isIn (s.size:Int) 1 10=true:=by unfold isIn;simp;omega
 rw[l];refine yF ?_;refine Ge (i:=0) und9 hc ?_;refine gZ ?_;refine t_if (fun e=>by omega) (fun _=>?_);refine Ge (i:=0) und9 hc ?_;refine gZ ?_;refine t_if (fun e=>by omega) (fun _=>?_);refine t_bytes und9 und1275 undU8 (by omega) fun r cap h1 j d=>?_;refine gZ ?_;refine t_pu (c3239 d (g:=fun c=>!(letterB c||digitB c)) (fun x=>?_)) ?_
 ·exact CV.mono (Kq Qn (by rfl) (c3240 x)) (by rintro v h' ⟨rfl,rfl⟩;exact⟨rfl,rfl⟩)
 have a:(s.data.toList.any fun c=>!(letterB c||digitB c))=false:=by
  rw[List.any_eq_false];intro c hc;obtain⟨i,n⟩:=List.mem_iff_getElem?.1 hc;rcases b.all i c (by simpa using n) with h1|⟨h1,_⟩<;>simp[h1]
 rw[a];refine gZ ?_;exact Qe ⟨j,rfl⟩
theorem c3140(s:ByteArray):FW X0 Tryz.prog 95 #[.string s] h fun r h'=>h=h'/\∃ b,r=.bool b/\(b=true->NameOk s):=by
 refine w3140 Qn ?_;refine Jw (fun vs h'=>vs=[.bool false]/\h=h'/\1<=s.size/\s.size<=10) ?_ ?_
 ·refine Hy und9 ?_;refine yI (fun _=>?_) (fun f=>?_)
  ·refine gI ?_;refine gZ ?_;exact Qe ⟨rfl,false,rfl,fun e=>by cases e⟩
  refine Hy und9 ?_;refine yJ (fun _=>?_) (fun w=>?_)
  ·refine gI ?_;refine gZ ?_;exact Qe ⟨rfl,false,rfl,fun e=>by cases e⟩
  ·refine Qa ⟨rfl,rfl,?_,by omega⟩;have:¬ s.size=0:=by simpa using f
   omega
 rintro vs _ ⟨rfl,rfl,l,m⟩;refine gZ ?_;refine Qq (fun o vs h'=>h=h'/\∃ i:Nat,vs=[.bool false,.int .i64 i]/\i<=s.size/\o=s.size-i/\∀ (j:Nat) c,j<i->s.data[j]?=some c->letterB c=true\/(digitB c=true/\j≠0)) ⟨rfl,0,rfl,Nat.zero_le _,rfl,fun j c n=>absurd n (Nat.not_lt_zero _)⟩ ?_;rintro Y o vs _ v ⟨rfl,i,rfl,x,rfl,a⟩;refine gZ ?_;refine Hy und9 ?_;refine yJ (fun f=>?_) (fun f=>?_)
 ·have g:i<s.data.size:=by show i<s.size;omega
  have hc:=Array.getElem?_eq_getElem (xs:=s.data) (i:=i) g;generalize s.data[i]=c at hc;have hw:wrap .i64 (c.toNat:Int)=(c.toNat:Int):=Qj (by omega) (by have:=byte_lt c;omega);have i1:=letter_in c;have i2:=digit_in c;have next:(letterB c=true\/(digitB c=true/\i≠0))->Y [.bool false,.int .i64 (wrap .i64 ((i:Int)+1))] h:=fun k=>by
   refine v (s.size-(i+1)) _ _ (by omega) ⟨rfl,i+1,?_,by omega,rfl,fun j t n d=>?_⟩
   ·rw[Qj (by omega) (by omega)];rfl
   ·by_cases e:j=i
    ·subst e;rw[hc]at d;cases d;exact k
    ·exact a j t (by omega) d
  refine Jw (fun vs h'=>vs=[.bool (letterB c),.bool (digitB c)]/\h=h') ?_ ?_
  ·refine Hg ?_ ?_
   ·refine Ge und9 hc ?_;refine gZ ?_;refine Hg ?_ ?_
    ·rw[hw];refine t_pu (c49 _ _ _) ?_;rw[i1];refine gZ ?_;refine Ge und9 hc ?_;refine gZ ?_;rw[hw];refine t_pu (c49 _ _ _) ?_;rw[i2];refine gZ ?_;exact Qa ⟨rfl,rfl⟩
    ·refine Ge und9 hc ?_;refine gZ ?_;rw[hw];refine t_pu (c49 _ _ _) ?_;rw[i1];refine gZ ?_;refine t_pu (c49 _ _ _) ?_;rw[i2];refine gZ ?_;exact Qa ⟨rfl,rfl⟩
   ·refine Ge und9 hc ?_;refine gZ ?_;refine Ge und9 hc ?_;refine gZ ?_;rw[hw];refine t_pu (c49 _ _ _) ?_;rw[i1];refine gZ ?_;refine t_pu (c49 _ _ _) ?_;rw[i2];refine gZ ?_;exact Qa ⟨rfl,rfl⟩
  rintro vs _ ⟨rfl,rfl⟩;refine yI (fun b1=>?_) (fun b1=>?_)
  ·refine Qt (fun _=>?_) (fun p=>?_)
   ·refine gI ?_;refine gZ ?_;exact Qe ⟨rfl,false,rfl,fun e=>by cases e⟩
   refine Qt (fun _=>?_) (fun q=>?_)
   ·refine gI ?_;refine gZ ?_;exact Qe ⟨rfl,false,rfl,fun e=>by cases e⟩
   ·refine Qa (next (.inr ⟨by simpa using p,?_⟩));intro u;subst u;simp at q
  ·exact Qa (next (.inl (by simpa using b1)))
 ·refine gZ ?_;refine Qe ⟨rfl,true,rfl,fun _=>⟨⟨l,m⟩,fun j c hc=>a j c ?_ hc⟩⟩;have:j<s.data.size:=(Array.getElem?_eq_some_iff.1 hc).1;have h2:s.data.size=s.size:=rfl;omega
end
section
attribute [local irreducible] T.wp CV FWK
theorem c3131{h:LH}{f:TabC}{t:GTab}(hr:TabR h.get f t):FW X0 Tryz.prog 22 #[tabV f] h fun r h'=>h=h'/\∃ b,r=.bool b:=by
 refine w3131 Qn ?_;have F:=hr.eds.1;have hb:=hr.eds.2.1;refine Jw (fun vs h'=>vs=[.bool false]/\h=h') ?_ ?_
 ·refine t_if (fun _=>?_) (fun _=>?_)
  ·refine gI ?_;refine gZ ?_;exact Qe ⟨rfl,_,rfl⟩
  refine t_if (fun _=>?_) (fun _=>?_)
  ·refine gI ?_;refine gZ ?_;exact Qe ⟨rfl,_,rfl⟩
  refine t_if (fun _=>?_) (fun _=>?_)
  ·refine gI ?_;refine gZ ?_;exact Qe ⟨rfl,_,rfl⟩
  ·exact Qa ⟨rfl,rfl⟩
 rintro vs _ ⟨rfl,rfl⟩;refine gZ ?_;refine Qq (fun d vs h'=>h=h'/\∃ i:Nat,vs=[.bool false,.int .i64 i]/\i<=f.n0/\d=f.n0-i) ⟨rfl,0,rfl,Nat.zero_le _,rfl⟩ ?_;rintro Y d vs _ o ⟨rfl,i,rfl,C,rfl⟩;refine yJ (fun k=>?_) (fun k=>?_)
 ·obtain⟨l,a,E,B,q,n,c,y,e⟩:=hr.eds.at (i:=i) (by omega);have G:=e.1;have v:=e.2.1;have s:0<=(i:Int)/\(i:Int)<(f.n0:Int):=by omega
  refine yJ (fun _=>?_) (fun _=>?_)
  ·refine gI ?_;refine gZ ?_;exact Qe ⟨rfl,_,rfl⟩
  refine Qq (fun d vs h'=>h=h'/\∃ j:Nat,vs=[.bool false,.int .i64 j]/\j<=n/\d=n-j) ⟨rfl,0,rfl,Nat.zero_le _,rfl⟩ ?_;rintro w d vs _ g ⟨rfl,j,rfl,D,rfl⟩;refine yJ (fun m=>?_) (fun m=>?_)
  ·obtain⟨x,b,H,p,z,A⟩:=e.at (i:=j) (by omega);have u:0<=(j:Int)/\(j:Int)<(n:Int):=by omega
   refine gZ ?_
   repeat ((first|refine Kt (by assumption) ?_|refine Z3 (by assumption) ?_|refine gL0 (by assumption) ?_);refine gZ ?_)
   refine Hy und9 ?_;refine yJ (fun _=>?_) (fun _=>?_)
   ·refine gI ?_;refine gZ ?_;exact Qe ⟨rfl,_,rfl⟩
   ·refine Qa (g (n-(j+1)) _ _ (by omega) ⟨rfl,j+1,?_,by omega,rfl⟩);rw[Qj (by omega) (by omega)];rfl
  ·refine gZ ?_;refine Qa (o (f.n0-(i+1)) _ _ (by omega) ⟨rfl,i+1,?_,by omega,rfl⟩);rw[Qj (by omega) (by omega)];rfl
 ·refine gZ ?_;exact Qe ⟨rfl,_,rfl⟩
theorem c3165{h:LH}{p:Option Addr}{n c:Nat}{l:List GItem}(B:Sl ItemE 2 h.get p n l):FW X0 Tryz.prog 55 #[.agg #[.slice p n c]] h fun r h'=>h=h'/\∃ g:Int,r=.int .i64 g/\(g=0->EdOk l):=by
 refine w3165 Qn ?_;have hn:=B.1;have hb:=B.2.1;refine t_if (fun _=>Qe ⟨rfl,2,rfl,fun e=>by cases e⟩) (fun V=>?_);refine Qq (fun A vs h'=>h=h'/\∃ i:Nat,vs=[.int .i64 0,.int .i64 i]/\i<=n/\A=n-i/\(∀ (j:Nat) x,j<i->l[j]?=some x->NameOk x.name/\1<=x.cls/\x.cls<=45)/\∀ (j k:Nat) x y,j<k->k<i->l[j]?=some x->l[k]?=some y->x.name≠y.name)
  ⟨rfl,0,rfl,Nat.zero_le _,rfl,fun j x f=>absurd f (Nat.not_lt_zero _),fun j k x y _ I=>absurd I (Nat.not_lt_zero _)⟩ ?_
 rintro Y A vs _ M ⟨rfl,i,rfl,hi,rfl,d,m⟩;refine yJ (fun K=>?_) (fun K=>?_)
 ·obtain⟨x,a,q,N,W,X⟩:=B.at (i:=i) (by omega);have P:0<=(i:Int)/\(i:Int)<(n:Int):=by omega
  refine gZ ?_
  repeat ((first|refine Kt (by assumption) ?_|refine Z3 (by assumption) ?_|refine gL0 (by assumption) ?_);refine gZ ?_)
  refine Qz (Ko (c3140 x.name)) ?_;rintro _ _ ⟨rfl,b,rfl,E⟩;refine yI (fun _=>?_) (fun b1=>?_)
  ·refine gI ?_;refine gZ ?_;exact Qe ⟨rfl,4,rfl,fun e=>by cases e⟩
  have t:=E (by simpa using b1);refine Qq (fun A vs h'=>h=h'/\∃ k:Nat,vs=[.int .i64 0,.int .i64 k]/\k<=i/\A=i-k/\∀ (j:Nat) y,j<k->l[j]?=some y->y.name≠x.name) ⟨rfl,0,rfl,Nat.zero_le _,rfl,fun j y f=>absurd f (Nat.not_lt_zero _)⟩ ?_;rintro S A vs _ C ⟨rfl,k,rfl,I,rfl,w⟩;refine yJ (fun L=>?_) (fun L=>?_)
  ·obtain⟨y,J,o,D,Z,g4⟩:=B.at (i:=k) (by omega);obtain rfl:a=J:=Option.some.inj (N.symm.trans D);have R:0<=(k:Int)/\(k:Int)<(n:Int):=by omega
   refine gZ ?_
   repeat ((first|refine Kt (by assumption) ?_|refine Z3 (by assumption) ?_|refine gL0 (by assumption) ?_);refine gZ ?_)
   refine t_eqStr und9 fun U F=>?_;refine yI (fun _=>?_) (fun G=>?_)
   ·refine gI ?_;refine gZ ?_;exact Qe ⟨rfl,5,rfl,fun e=>by cases e⟩
   ·refine Qa (C (i-(k+1)) _ _ (by omega) ⟨rfl,k+1,?_,by omega,rfl,fun j z f u=>?_⟩)
    ·rw[Qj (by omega) (by omega)];rfl
    ·by_cases e:j=k
     ·subst e;rw[o]at u;cases u;intro O;rw[F.2 O]at G;cases G
     ·exact w j z (by omega) u
  ·refine gZ ?_;refine t_pu (c49 _ _ _) ?_;refine yI (fun _=>?_) (fun H=>?_)
   ·refine gI ?_;refine gZ ?_;exact Qe ⟨rfl,1,rfl,fun e=>by cases e⟩
   ·have v:1<=x.cls/\x.cls<=45:=by
     unfold isIn at H;simpa using H
    refine Qa (M (n-(i+1)) _ _ (by omega) ⟨rfl,i+1,?_,by omega,rfl,fun j y f o=>?_,fun j k' y z s Q o u=>?_⟩)
    ·rw[Qj (by omega) (by omega)];rfl
    ·by_cases e:j=i
     ·subst e;rw[q]at o;cases o;exact⟨t,v⟩
     ·exact d j y (by omega) o
    ·by_cases e:k'=i
     ·subst e;rw[q]at u;cases u;exact w j y (by omega) o
     ·exact m j k' y z s (by omega) o u
 ·refine gZ ?_;refine Qe ⟨rfl,0,rfl,fun _=>⟨by omega,fun x q=>?_,fun x q=>?_,fun j k x y s q o=>?_⟩⟩
  ·obtain⟨j,f⟩:=List.mem_iff_getElem?.1 q;exact(d j x (by have:=(List.getElem?_eq_some_iff.1 f).1;omega) f).1
  ·obtain⟨j,f⟩:=List.mem_iff_getElem?.1 q;exact(d j x (by have:=(List.getElem?_eq_some_iff.1 f).1;omega) f).2
  ·exact m j k x y s (by have:=(List.getElem?_eq_some_iff.1 o).1;omega) q o
end
section
set_option linter.unusedVariables false
variable {X:XP} {h:LH} {A:Value->LH->Prop}
variable {a b c d e f g i j k l m:Int}{n o p q r s t u v w x y z:Nat}{B C D E F G H I J K L M:Option Addr}
theorem w3108:FX X 7 #[.agg #[.slice B n o,.slice C p q,.slice D r s]] h A (.cB 22 #[.agg #[.slice B n o,.slice C p q,.slice D r s]] fun a=>bif !a then .cI 23 #[.agg #[.slice B n o,.slice C p q,.slice D r s]] fun b=>.rt (.bool (b==0)) else .rt (.bool false)):=fk [1] [] [] Tryz.f7
theorem w3127:FX X 49 #[.agg #[a,b,c,d,e,f,.slice B n o],g,i,.agg #[.slice C p q,.slice D r s,.slice E t u],j] h A (.cT 41 #[.agg #[a,b,c,d,e,f,.slice B n o],g,i] fun G k=>.unS G fun y m z=>.unCons k fun G k=>.ui G fun l=>.unNil k (.loop [.slice none 0 0,.int .i64 0] (fun k=>.popS k fun v w z k=>.pi k fun x k=>.unNil k (bif decide (x<(↑m:Int)) then .need (0<=j/\j<(↑p:Int)) (.someA C fun H=>.loadS ((H.add (j.toNat*1)).add 0) fun L K F=>bif decide (x<(↑K:Int)) then .need (0<=x/\x<(↑m:Int)) (.someA y fun y=>.loadB (y.add (x.toNat*1)) fun I=>bif I then .sem false (Instr.buildSlice 30 1 #[(0,.int .i64 x)]) fun G=>.unS G fun y m J=>.sem false (Builtin.append_ #[30,30] 30 #[.slice v w z,.slice y m J]) fun G=>.unS G fun y m z=>.ag [.slice y m z,.int .i64 (wrap .i64 (x+1))] else .ag [.slice v w z,.int .i64 (wrap .i64 (x+1))]) else .bk [.slice v w z,x]) else .bk [.slice v w z,x])) (fun k=>.popS k fun v w F k=>.pi k fun x k=>.unNil k (bif l==0 then .nds [.B ((↑m:Int)==a),.B ((↑m:Int)==a),a,.pp 5 0,.val (.int .i64 (↑m:Int)),.S y m z,.B (l==0),l] (.rt (.tuple #[.slice v w F,.bool ((↑m:Int)==a)])) else .both (.nds [.U,.U,.B (l==0),l,.S v w F] (.both (.nds [.U,.B (l==0),l,.S v w F,false,.U,.B (l==0),l] (.rt (.tuple #[.slice v w F,false]))) (.nds [.U,.U,.B (l==0),l,.U,.B (l==0),l] (.rt (.tuple #[.slice v w F,false]))))) (.nds [.U,.U,.U,.B (l==0),l,.U,.U,.B (l==0),l,.U,.B (l==0),l] (.rt (.tuple #[.slice v w F,false]))))) (fun k=>.popS k fun y m z k=>.pi k fun m k=>.unNil k (.rt (.tuple #[.slice none 0 0,false]))) fun M N=>.fail)):=fk [5,8] [⟨0,[(14,.slice),(15,.int .i64)],[5,8],[],[],[]⟩] [] Tryz.f49
theorem w3122:FX X 10 #[.agg #[.slice B n o,.slice C p q,.slice D r s],a,.int .u8 b] h A (.loop [.slice none 0 0,.int .i64 0] (fun c=>.popS c fun e d f c=>.pi c fun g c=>.unNil c (.need (0<=a/\a<(↑n:Int)) (.someA B fun j=>.loadS ((j.add (a.toNat*1)).add 0) fun v m u=>bif decide (g<(↑m:Int)) then .need (0<=g) (bif IntKind.wrap .u8 (↑(BitVec.toNat (BitVec.ofInt 8 (Int.fdiv b (2^min (g.toNat) 8)) &&& BitVec.ofInt 8 1)):Int)==1 then .sem false (Instr.buildSlice 30 1 #[(0,.int .i64 g)]) fun i=>.unS i fun k t l=>.sem false (Builtin.append_ #[30,30] 30 #[.slice e d f,.slice k t l]) fun i=>.unS i fun e d f=>.ag [.slice e d f,.int .i64 (wrap .i64 (g+1))] else .ag [.slice e d f,.int .i64 (wrap .i64 (g+1))]) else .bk [.slice e d f,g]))) (fun c=>.popS c fun e d f c=>.pi c fun g c=>.unNil c (.rt (.slice e d f))) (fun c=>.popS c fun e d f c=>.pi c fun d c=>.unNil c (.rt (.slice none 0 0))) fun w x=>.fail):=fk [3] [⟨0,[(7,.slice),(8,.int .i64)],[3],[],[],[]⟩] [] Tryz.f10
end
section
attribute [local irreducible] T.wp CV FWK
variable {h:LH}{f:TabC}{t:GTab}{i:Nat}
theorem flatMv(a b c:Int):FlatAgg Tryz.prog 176 [.int .i64 a,.int .i64 b,.int .i64 c]:=flat_ints (vs:=[a,b,c]) (by kernel_rfl)
theorem egMv:Tryz.prog.eqGuardType Tryz.prog.depth 176=false:=by kernel_rfl
theorem K1{n a b:Int}:isIn n a b=true↔a<=n/\n<=b:=by unfold isIn;simp
theorem c3166(hr:TabR h.get f t)(hi:i<f.n1):FW X0 Tryz.prog 56 #[tabV f,.int .i64 i] h fun r h'=>h=h'/\∃ g:Int,r=.int .i64 g /\
  (g=0->∀ m,t.moves[i]?=some m->(itemB t m.ed m.src/\itemB t (m.ed+1) m.dst)/\∀ (k:Nat) y,k<i->t.moves[k]?=some y->¬ (y.ed=m.ed/\y.src=m.src/\y.dst=m.dst)):=by
 refine w3166 Qn ?_;have l0:=hr.eds.1;have X:=hr.eds.2.1;have m0:=hr.moves.1;have hb1:=hr.moves.2.1;obtain⟨m,a,hm,W,g1,g2,g3⟩:=hr.moves.at (i:=i) (by omega);have Z:0<=(i:Int)/\(i:Int)<(f.n1:Int):=by omega
 refine gZ ?_;have w2:wrap .i64 ((f.n0:Int)-2)=(f.n0:Int)-2:=Qj (by omega) (by omega);rw[w2];refine Jw (fun vs h'=>vs=[.int .i64 0]/\h=h'/\itemB t m.ed m.src/\itemB t (m.ed+1) m.dst) ?_ ?_
 ·refine t_pu (c49 _ _ _) ?_;refine yI (fun _=>?_) (fun u=>?_)
  ·refine gZ ?_;exact Qe ⟨rfl,6,rfl,fun e=>by cases e⟩
  have A:0<=m.ed/\m.ed<=(f.n0:Int)-2:=K1.1 (by simpa using u);have M:0<=m.ed/\m.ed<(f.n0:Int):=by omega
  have U:wrap .i64 (m.ed+1)=m.ed+1:=Qj (by omega) (by omega);rw[U];have L:0<=m.ed+1/\m.ed+1<(f.n0:Int):=by omega
  obtain⟨l,Q,hl,w,q,k,c,e2,J⟩:=hr.eds.at (i:=m.ed.toNat) (by omega);obtain⟨l',s,C,d,q',k',c',e4,K⟩:=hr.eds.at (i:=(m.ed+1).toNat) (by omega);obtain rfl:Q=s:=Option.some.inj (w.symm.trans d);have hk:=J.1;have j0:=J.2.1;have e0:=K.1;have N:=K.2.1;have wk:wrap .i64 ((k:Int)-1)=(k:Int)-1:=Qj (by omega) (by omega);have H:wrap .i64 ((k':Int)-1)=(k':Int)-1:=Qj (by omega) (by omega);refine gZ ?_;rw[wk];refine t_pu (c49 _ _ _) ?_;refine yI (fun _=>?_) (fun R=>?_)
  ·refine gZ ?_;exact Qe ⟨rfl,6,rfl,fun e=>by cases e⟩
  have p:=K1.1 (show isIn m.src 0 ((k:Int)-1)=true by simpa using R);refine gZ ?_;rw[H];refine t_pu (c49 _ _ _) ?_;refine yI (fun _=>?_) (fun S=>?_)
  ·refine gZ ?_;exact Qe ⟨rfl,6,rfl,fun e=>by cases e⟩
  have n:=K1.1 (show isIn m.dst 0 ((k':Int)-1)=true by simpa using S);refine Qa ⟨rfl,rfl,⟨A.1,by omega,p.1,?_⟩,⟨by omega,by omega,n.1,?_⟩⟩
  ·unfold GTab.items;rw[List.getD_eq_getElem?_getD,hl];show m.src<(l.length:Int);omega
  ·unfold GTab.items;rw[List.getD_eq_getElem?_getD,C];show m.dst<(l'.length:Int);omega
 rintro vs _ ⟨rfl,rfl,D,E⟩;refine gZ ?_;refine Qq (fun O vs h'=>h=h'/\∃ k:Nat,vs=[.int .i64 0,.int .i64 k]/\k<=i/\O=i-k/\∀ (j:Nat) y,j<k->t.moves[j]?=some y->¬ (y.ed=m.ed/\y.src=m.src/\y.dst=m.dst)) ⟨rfl,0,rfl,Nat.zero_le _,rfl,fun j y B=>absurd B (Nat.not_lt_zero _)⟩ ?_;rintro Y O vs _ V ⟨rfl,k,rfl,hk,rfl,b⟩;refine yJ (fun u=>?_) (fun u=>?_)
 ·obtain⟨y,P,F,v,g4,g5,g6⟩:=hr.moves.at (i:=k) (by omega);obtain rfl:a=P:=Option.some.inj (W.symm.trans v);have k0:0<=(k:Int)/\(k:Int)<(f.n1:Int):=by omega
  refine gZ ?_;refine t_eqK (flatMv _ _ _) (flatMv _ _ _) egMv fun cb x=>?_;refine yI (fun _=>?_) (fun I=>?_)
  ·refine gI ?_;refine gZ ?_;exact Qe ⟨rfl,5,rfl,fun e=>by cases e⟩
  ·refine Qa (V (i-(k+1)) _ _ (by omega) ⟨rfl,k+1,?_,by omega,rfl,fun j z B G=>?_⟩)
   ·rw[Qj (by omega) (by omega)];rfl
   ·by_cases e:j=k
    ·subst e;rw[F]at G;cases G;rintro⟨h1,h2,h3⟩;rw[x.2 (by rw[h1,h2,h3])]at I;cases I
    ·exact b j z (by omega) G
 ·refine gZ ?_;refine Qe ⟨rfl,0,rfl,fun _ m' o=>?_⟩;rw[hm]at o;cases o;exact⟨⟨D,E⟩,fun j y B F=>b j y (by omega) F⟩
theorem c3167(hr:TabR h.get f t)(hi:i<f.n2):FW X0 Tryz.prog 57 #[tabV f,.int .i64 i] h fun r h'=>h=h'/\∃ g:Int,r=.int .i64 g /\
  (g=0->∀ m,t.kins[i]?=some m->(itemB t m.ed m.one/\itemB t m.ed m.two/\m.one<m.two/\1<=m.lev/\m.lev<=5)/\∀ (k:Nat) y,k<i->t.kins[k]?=some y->¬ (y.ed=m.ed/\y.one=m.one/\y.two=m.two)):=by
 refine w3167 Qn ?_;have e0:=hr.eds.1;have R:=hr.eds.2.1;have j0:=hr.kins.1;have hb1:=hr.kins.2.1;obtain⟨m,a,hm,P,g1,g2,g3,g4⟩:=hr.kins.at (i:=i) (by omega);have S:0<=(i:Int)/\(i:Int)<(f.n2:Int):=by omega
 refine gZ ?_;have w2:wrap .i64 ((f.n0:Int)-1)=(f.n0:Int)-1:=Qj (by omega) (by omega);rw[w2];refine Jw (fun vs h'=>vs=[.int .i64 0]/\h=h'/\itemB t m.ed m.one/\itemB t m.ed m.two) ?_ ?_
 ·refine t_pu (c49 _ _ _) ?_;refine yI (fun _=>?_) (fun H=>?_)
  ·refine gZ ?_;exact Qe ⟨rfl,6,rfl,fun e=>by cases e⟩
  have o:0<=m.ed/\m.ed<=(f.n0:Int)-1:=K1.1 (by simpa using H);have J:0<=m.ed/\m.ed<(f.n0:Int):=by omega
  obtain⟨l,a0,Z,Q,q,k,c,I,v⟩:=hr.eds.at (i:=m.ed.toNat) (by omega);have V:=v.1;have W:=v.2.1;have wk:wrap .i64 ((k:Int)-1)=(k:Int)-1:=Qj (by omega) (by omega);refine gZ ?_;rw[wk];refine t_pu (c49 _ _ _) ?_;refine yI (fun _=>?_) (fun M=>?_)
  ·refine gZ ?_;exact Qe ⟨rfl,6,rfl,fun e=>by cases e⟩
  have u:=K1.1 (show isIn m.one 0 ((k:Int)-1)=true by simpa using M);refine gZ ?_;rw[wk];refine t_pu (c49 _ _ _) ?_;refine yI (fun _=>?_) (fun N=>?_)
  ·refine gZ ?_;exact Qe ⟨rfl,6,rfl,fun e=>by cases e⟩
  have n:=K1.1 (show isIn m.two 0 ((k:Int)-1)=true by simpa using N);have U:(t.items m.ed).length=l.length:=by
   unfold GTab.items;rw[List.getD_eq_getElem?_getD,Z];rfl
  exact Qa ⟨rfl,rfl,⟨o.1,by omega,u.1,by omega⟩,⟨o.1,by omega,n.1,by omega⟩⟩
 rintro vs _ ⟨rfl,rfl,B,C⟩;refine gZ ?_;refine t_if (fun _=>Qe ⟨rfl,7,rfl,fun e=>by cases e⟩) (fun H=>?_);refine t_pu (c49 _ _ _) ?_;refine gZ ?_;refine Qt (fun _=>Qe ⟨rfl,1,rfl,fun e=>by cases e⟩) (fun I=>?_);have d:=K1.1 (show isIn m.lev 1 5=true by simpa using I);refine Qq (fun K vs h'=>h=h'/\∃ k:Nat,vs=[.int .i64 0,.int .i64 k]/\k<=i/\K=i-k/\∀ (j:Nat) y,j<k->t.kins[j]?=some y->¬ (y.ed=m.ed/\y.one=m.one/\y.two=m.two)) ⟨rfl,0,rfl,Nat.zero_le _,rfl,fun j y x=>absurd x (Nat.not_lt_zero _)⟩ ?_;rintro Y K vs _ O ⟨rfl,k,rfl,V,rfl,b⟩;refine yJ (fun v=>?_) (fun v=>?_)
 ·obtain⟨y,L,D,w,k1,k2,k3,k4⟩:=hr.kins.at (i:=k) (by omega);obtain rfl:a=L:=Option.some.inj (P.symm.trans w);have X:0<=(k:Int)/\(k:Int)<(f.n2:Int):=by omega
  have next:¬ (y.ed=m.ed/\y.one=m.one/\y.two=m.two)->Y [.int .i64 0,.int .i64 (wrap .i64 ((k:Int)+1))] h:=fun A=>by
   refine O (i-(k+1)) _ _ (by omega) ⟨rfl,k+1,?_,by omega,rfl,fun j z x E=>?_⟩
   ·rw[Qj (by omega) (by omega)];rfl
   ·by_cases e:j=k
    ·subst e;rw[D]at E;cases E;exact A
    ·exact b j z (by omega) E
  refine yI (fun b1=>?_) (fun b1=>?_)
  ·refine yI (fun F=>?_) (fun F=>?_)
   ·refine yI (fun G=>?_) (fun G=>?_)
    ·refine gI ?_;refine gZ ?_;exact Qe ⟨rfl,5,rfl,fun e=>by cases e⟩
    ·exact Qa (next fun p=>by simp[p.2.2]at G)
   ·refine gZ ?_;refine gT (by rw[b1]) ?_;refine gZ ?_;exact Qa (next fun p=>by simp[p.2.1]at F)
  ·refine gZ ?_;exact Qa (next fun p=>by simp[p.1]at b1)
 ·refine gZ ?_;refine Qe ⟨rfl,0,rfl,fun _ m' s=>?_⟩;rw[hm]at s;cases s;exact⟨⟨B,C,by omega,d.1,d.2⟩,fun j y x D=>b j y (by omega) D⟩
theorem c3132(hr:TabR h.get f t):FW X0 Tryz.prog 23 #[tabV f] h fun r h'=>h=h'/\∃ g:Int,r=.int .i64 g/\(g=0->TabOk t):=by
 refine w3132 Qn ?_;have O:=hr.eds.1;have M:=hr.eds.2.1;have P:=hr.moves.1;have hb1:=hr.moves.2.1;have Q:=hr.kins.1;have hb2:=hr.kins.2.1;refine t_pu (c49 _ _ _) ?_;refine gZ ?_;refine Qt (fun _=>Qe ⟨rfl,2,rfl,fun e=>by cases e⟩) (fun L=>?_);have G:=K1.1 (show isIn (f.n0:Int) 1 3=true by simpa using L);refine J7 (fun u vs h'=>h=h'/\∃ i:Nat,vs=[.int .i64 0,.int .i64 i]/\i<=f.n0/\u=f.n0-i/\∀ (j:Nat) l,j<i->t.eds[j]?=some l->EdOk l) (fun vs h'=>h=h'/\(∃ i:Nat,vs=[.int .i64 0,.int .i64 i])/\∀ l∈t.eds,EdOk l) ⟨rfl,0,rfl,Nat.zero_le _,rfl,fun j y d=>absurd d (Nat.not_lt_zero _)⟩ ?_ ?_
 ·rintro Y u vs _ w ⟨rfl,i,rfl,K,rfl,b⟩;refine yJ (fun J=>?_) (fun J=>?_)
  ·obtain⟨l,a,F,R,q,n,c,D,E⟩:=hr.eds.at (i:=i) (by omega);have N:0<=(i:Int)/\(i:Int)<(f.n0:Int):=by omega
   refine gZ ?_;refine Qz (Ko (c3165 E)) ?_;rintro _ _ ⟨rfl,g,rfl,B⟩;refine yI (fun o=>?_) (fun o=>?_)
   ·refine gI ?_;refine gZ ?_;exact Qe ⟨rfl,g,rfl,fun e=>by subst e;cases o⟩
   ·refine Qa (w (f.n0-(i+1)) _ _ (by omega) ⟨rfl,i+1,?_,by omega,rfl,fun j z d p=>?_⟩)
    ·rw[Qj (by omega) (by omega)];rfl
    ·by_cases e:j=i
     ·subst e;rw[F]at p;cases p;exact B (by simpa using o)
     ·exact b j z (by omega) p
  ·refine gH ⟨rfl,⟨i,rfl⟩,fun l F=>?_⟩;obtain⟨j,d⟩:=List.mem_iff_getElem?.1 F;exact b j l (by have:=(List.getElem?_eq_some_iff.1 d).1;omega) d
 rintro vs _ ⟨rfl,⟨i0,rfl⟩,A⟩;refine gZ ?_;refine t_if (fun _=>Qe ⟨rfl,2,rfl,fun e=>by cases e⟩) (fun J=>?_);refine J7 (fun u vs h'=>h=h'/\∃ i:Nat,vs=[.int .i64 0,.int .i64 i]/\i<=f.n1/\u=f.n1-i/\∀ (j:Nat) m,j<i->t.moves[j]?=some m->(itemB t m.ed m.src/\itemB t (m.ed+1) m.dst)/\∀ (k:Nat) y,k<j->t.moves[k]?=some y->¬ (y.ed=m.ed/\y.src=m.src/\y.dst=m.dst))
  (fun vs h'=>h=h'/\(∃ i:Nat,vs=[.int .i64 0,.int .i64 i])/\∀ (j:Nat) m,t.moves[j]?=some m->(itemB t m.ed m.src/\itemB t (m.ed+1) m.dst)/\∀ (k:Nat) y,k<j->t.moves[k]?=some y->¬ (y.ed=m.ed/\y.src=m.src/\y.dst=m.dst)) ⟨rfl,0,rfl,Nat.zero_le _,rfl,fun j y d=>absurd d (Nat.not_lt_zero _)⟩ ?_ ?_
 ·rintro Y u vs _ w ⟨rfl,i,rfl,K,rfl,b⟩;refine yJ (fun D=>?_) (fun D=>?_)
  ·refine Qz (Ko (c3166 hr (i:=i) (by omega))) ?_;rintro _ _ ⟨rfl,g,rfl,B⟩;refine yI (fun o=>?_) (fun o=>?_)
   ·refine gI ?_;refine gZ ?_;exact Qe ⟨rfl,g,rfl,fun e=>by subst e;cases o⟩
   ·refine Qa (w (f.n1-(i+1)) _ _ (by omega) ⟨rfl,i+1,?_,by omega,rfl,fun j z d p=>?_⟩)
    ·rw[Qj (by omega) (by omega)];rfl
    ·by_cases e:j=i
     ·subst e;exact B (by simpa using o) z p
     ·exact b j z (by omega) p
  ·refine gH ⟨rfl,⟨i,rfl⟩,fun j m d=>?_⟩;exact b j m (by have:=(List.getElem?_eq_some_iff.1 d).1;omega) d
 rintro vs _ ⟨rfl,⟨i1,rfl⟩,s⟩;refine gZ ?_;refine t_if (fun _=>Qe ⟨rfl,2,rfl,fun e=>by cases e⟩) (fun D=>?_);refine Qq (fun u vs h'=>h=h'/\∃ i:Nat,vs=[.int .i64 0,.int .i64 i]/\i<=f.n2/\u=f.n2-i/\∀ (j:Nat) m,j<i->t.kins[j]?=some m->(itemB t m.ed m.one/\itemB t m.ed m.two/\m.one<m.two/\1<=m.lev/\m.lev<=5)/\∀ (k:Nat) y,k<j->t.kins[k]?=some y->¬ (y.ed=m.ed/\y.one=m.one/\y.two=m.two)) ⟨rfl,0,rfl,Nat.zero_le _,rfl,fun j y d=>absurd d (Nat.not_lt_zero _)⟩ ?_;rintro Y u vs _ w ⟨rfl,i,rfl,K,rfl,b⟩;refine yJ (fun E=>?_) (fun E=>?_)
 ·refine Qz (Ko (c3167 hr (i:=i) (by omega))) ?_;rintro _ _ ⟨rfl,g,rfl,B⟩;refine yI (fun o=>?_) (fun o=>?_)
  ·refine gI ?_;refine gZ ?_;exact Qe ⟨rfl,g,rfl,fun e=>by subst e;cases o⟩
  ·refine Qa (w (f.n2-(i+1)) _ _ (by omega) ⟨rfl,i+1,?_,by omega,rfl,fun j z d p=>?_⟩)
   ·rw[Qj (by omega) (by omega)];rfl
   ·by_cases e:j=i
    ·subst e;exact B (by simpa using o) z p
    ·exact b j z (by omega) p
 ·refine gZ ?_;have C:∀ (j:Nat) m,t.kins[j]?=some m->_:=fun j m d=>b j m (by have:=(List.getElem?_eq_some_iff.1 d).1;omega) d;refine Qe ⟨rfl,0,rfl,fun _=>⟨by omega,A,by omega,fun m hm=>?_,fun j k x y v H I=>(s k y I).2 j x v H,by omega,fun m hm=>?_,fun j k x y v H I=>(C k y I).2 j x v H⟩⟩
  ·obtain⟨j,d⟩:=List.mem_iff_getElem?.1 hm;exact(s j m d).1
  ·obtain⟨j,d⟩:=List.mem_iff_getElem?.1 hm;exact(C j m d).1
theorem c3108(hr:TabR h.get f t):FW X0 Tryz.prog 7 #[tabV f] h fun r h'=>h=h'/\∃ b,r=.bool b/\(b=true->TabOk t):=by
 refine w3108 Qn ?_;refine Qz (Ko (c3131 hr)) ?_;rintro _ _ ⟨rfl,b,rfl⟩;refine yI (fun _=>?_) (fun _=>?_)
 ·refine Qz (Ko (c3132 hr)) ?_;rintro _ _ ⟨rfl,g,rfl,a⟩;refine gZ ?_;exact Qe ⟨rfl,_,rfl,fun e=>a (by simpa using e)⟩
 ·exact Qe ⟨rfl,_,rfl,fun e=>by cases e⟩
end
section
attribute [local irreducible] T.wp CV FWK
def cmpI(x y:Int):Int:=if x<y then -1 else if x>y then 1 else 0
def cmpL:List Int->List Int->Int
 | [],[]=>0
 | [],_::_=>-1
 | _::_,[]=>1
 | x::xs,y::ys=>if cmpI x y≠0 then cmpI x y else cmpL xs ys
variable {h:LH}
theorem c109(x:Int):Pu Tryz.prog 174 #[x] h (.bool false):=by
 refine w109 _ Qn ?_;unfold n109;refine Qe ⟨?_,rfl⟩;simp
theorem c105(x y:Int):Pu Tryz.prog 129 #[x,y] h (.int .i64 (cmpI x y)):=by
 refine w105 _ _ Qn ?_;unfold n105;refine t_pu (c109 _) ?_;refine gZ ?_;refine t_pu (c109 _) ?_;refine yF ?_;refine yF ?_;refine t_if (fun e=>?_) (fun e=>?_)
 ·refine Qe ⟨?_,rfl⟩;rw[cmpI,if_pos e]
 ·refine t_if (fun a=>?_) (fun a=>?_)<;>refine Qe ⟨?_,rfl⟩<;>simp[cmpI,e,a]
theorem c97{p q:Option Addr}{n c m d:Nat}{a b:List Int}(g:Sl IntE 1 h.get p n a)(hb:Sl IntE 1 h.get q m b):Pu Tryz.prog 79 #[.slice p n c,.slice q m d] h (.int .i64 (cmpL a b)):=by
 refine w97 _ _ _ _ _ _ Qn ?_;unfold n97;have C:=g.1;have hm:=hb.1;have v:=g.2.1;have u:=hb.2.1;refine Qq (fun k vs h'=>h=h'/\∃ i:Nat,vs=[.int .i64 0,.int .i64 i]/\i<=n/\i<=m/\k=n-i/\cmpL a b=cmpL (a.drop i) (b.drop i)) ⟨rfl,0,rfl,Nat.zero_le _,Nat.zero_le _,rfl,rfl⟩ ?_;rintro Y k vs _ s ⟨rfl,i,rfl,B,w,rfl,hc⟩;refine yJ (fun l=>?_) (fun l=>?_)
 ·obtain⟨x,A,z,t,o⟩:=g.at (i:=i) (by omega);unfold IntE at o;rw[Jd z]at hc;refine yJ (fun e=>?_) (fun e=>?_)
  ·refine gZ ?_;rw[List.drop_eq_nil_of_le (show b.length<=i by omega),cmpL]at hc;exact Qe ⟨by rw[hc],rfl⟩
  ·obtain⟨y,b1,j,hb1,r⟩:=hb.at (i:=i) (by omega);unfold IntE at r;rw[Jd j,cmpL]at hc;refine gZ ?_;refine t_pu (c105 _ _) ?_;refine yI (fun f=>?_) (fun f=>?_)
   ·refine gZ ?_;rw[if_pos (by simpa using f)]at hc;exact Qe ⟨by rw[hc],rfl⟩
   ·rw[if_neg (by simpa using f)]at hc;refine Qa (s (n-(i+1)) _ _ (by omega) ⟨rfl,i+1,?_,by omega,by omega,rfl,hc⟩);rw[Qj (by omega) (by omega)];rfl
 ·refine gZ ?_;rw[List.drop_eq_nil_of_le (show a.length<=i by omega)]at hc;refine t_if (fun e=>?_) (fun e=>?_)
  ·obtain⟨y,j⟩ : ∃ y,b[i]?=some y:=⟨b[i]'(by omega),List.getElem?_eq_getElem (by omega)⟩
   rw[Jd j,cmpL]at hc;exact Qe ⟨by rw[hc],rfl⟩
  ·rw[List.drop_eq_nil_of_le (show b.length<=i by omega),cmpL]at hc;exact Qe ⟨by rw[hc],rfl⟩
end
section
attribute [local irreducible] T.wp CV FWK
theorem bit_test{i j:Nat}(c:i<2^32):(wrap .i64 (((BitVec.ofInt 64 (Int.fdiv (i:Int) (2^min (j:Int).toNat 64)) &&& BitVec.ofInt 64 1).toNat:Nat):Int)==1)=i.testBit j:=by
 have d:∃ q:Nat,Int.fdiv (i:Int) (2^min (j:Int).toNat 64)=(q:Int)/\q<=i/\q%2=(i / 2^j)%2:=by
  by_cases f:j<=64
  ·have hm:min (j:Int).toNat 64=j:=by simp;omega
   refine⟨i / 2^j,?_,Nat.div_le_self _ _,rfl⟩;rw[hm];have:(2^j:Int)=((2^j:Nat):Int):=by simp
   rw[this,<- Int.ofNat_fdiv]
  ·have hm:min (j:Int).toNat 64=64:=by simp;omega
   refine⟨0,?_,Nat.zero_le _,?_⟩
   ·rw[hm];have:(2^64:Int)=((2^64:Nat):Int):=by simp
    rw[this,<- Int.ofNat_fdiv];have:i / 2^64=0:=Nat.div_eq_of_lt (by omega);rw[this]
   ·have:i / 2^j=0:=Nat.div_eq_of_lt (Nat.lt_of_lt_of_le c (Nat.pow_le_pow_right (by omega) (by omega)));rw[this]
 obtain⟨q,h1,h2,h3⟩:=d;rw[h1];have a:(BitVec.ofInt 64 (q:Int)).toNat=q:=by rw[BitVec.toNat_ofInt];omega
 have b:(BitVec.ofInt 64 1).toNat=1:=rfl;rw[BitVec.toNat_and,a,b,Nat.and_one_is_mod,Qj (by omega) (by omega),Nat.testBit_eq_decide_div_mod_eq,<- h3];by_cases e:q%2=1
 ·rw[e];rfl
 ·have:q%2=0:=by omega
  rw[this];rfl
end
end Go.Y
section
namespace Go.TM
variable {P:Program}
theorem t_newSt{X:XP}{Q:Leaf->LH->Prop}{h:LH}{e:TypeId}{v₀ v:Value}{k:Nat->T}(h1:isOne v=true)(d:∀ r,h.get r=none->(k r).wp X P Q { h with get:=h.get.upd r (true,.cells #[v] e (0,0)) }) :
  (T.new e #[v₀] fun r=>T.store (Addr.add ⟨r,0,none⟩ 0) v (k r)).wp X P Q h:=by
 refine J1 fun r hr=>?_;have a:(h.get.upd r (true,.cells #[v₀] e (0,0))) r=some (true,.cells #[v₀] e (0,0)):=Qd _ _ _;refine K6 h1 ⟨_,a⟩ (v₀:=v₀) (by show Cells.cell? _ _=_;exact Qs rfl) (Go.Y.frozen_plain (i:=0) a) ?_;have c:(h.get.upd r (true,.cells #[v₀] e (0,0))).setCell (Addr.add ⟨r,0,none⟩ 0) v=h.get.upd r (true,.cells #[v] e (0,0)):=by
  show Cells.setCell _ ⟨r,0,none⟩ v=_;rw[Go.Y.setCell_upd a];funext b;unfold Cells.upd;by_cases e:b=r<;>simp[e]
 simp only[c];exact d r hr
theorem cell_freeze(F:Nat->Bool)(h:Cells)(a:Addr):(freezeC F h).cell? a=h.cell? a:=by
 unfold Cells.cell? freezeC;cases h a.block with
 | none=>rfl
 | some x=>obtain⟨m,o⟩:=x;cases o<;>rfl
end Go.TM
namespace Go.Y
attribute [local irreducible] T.wp CV FWK
end Go.Y
end
namespace Go.Y
section
attribute [local irreducible] T.wp CV FWK
theorem Yi{X:XP}{Q:Leaf->LH->Prop}{h:LH}{k:Value->T}{t el:TypeId}{n s b:Nat}{parts:Array (Nat×Value)}{z:Value}{cells:Array Value}(hu:Tryz.prog.underlying t=some (.slice el))(d:(Tryz.prog.info? el).map (fun i=>(i.size,i.bytes,i.zero))=some (s,b,some z))(f:n*s<=2^24)(a:n*s≠0)
 (c:Instr.fill (fun i=>some (i*s,s)) ((Array.range (n*s)).map (z.cells[·%z.cells.size]!)) parts.toList=some cells)
 (e:∀ r h',h.le h'->h.get r=none->h'.get r=some (true,.cells cells el (0,0))->(k (.slice (some ⟨r,0,none⟩) n n)).wp X Tryz.prog Q h'):(T.sem false (Instr.buildSlice t n parts) k).wp X Tryz.prog Q h :=
 Hf hu d f a c fun r hr=>e r _ (Qp hr) hr (Qd _ _ _)
end
section
attribute [local irreducible] T.wp CV FWK
variable {h:LH}{m:Nat}{f:TabC}{t:GTab}
theorem U1{h':LH}{x:Bool×Obj}(a:h.le h')(hm:h.get m=none):h.le { h' with get:=h'.get.upd m x }:=⟨fun b y hb=>by
 have:b≠m:=by rintro rfl;rw[hm]at hb;cases hb
 show h'.get.upd m x b=_;rw[Qk _ _ this];exact a.1 b y hb,a.2⟩
theorem mapAt_le{h h':Cells}{es:Array MapEntry}(a:h.le h')(hm:MapAt h m es):MapAt h' m es:=by
 obtain⟨c,hc⟩:=hm;exact⟨c,a _ _ hc⟩
theorem und1248:Tryz.prog.underlying 295=some (.map 297 4):=by kernel_rfl
theorem und1251:Tryz.prog.underlying 298=some (.map 176 4):=by kernel_rfl
theorem und1252:Tryz.prog.underlying 299=some (.map 178 4):=by kernel_rfl
theorem und1215:Tryz.prog.underlying 278=some (.slice 277):=by kernel_rfl
theorem inf157:(Tryz.prog.info? 277).map (fun i=>(i.size,i.bytes,i.zero))=some (1,8,some .nilFunc):=by kernel_rfl
theorem keyPl(e:Int)(s:ByteArray):FKey Tryz.prog 297 (.agg #[.int .i64 e,.string s]):=.inr ⟨[.int .i64 e,.string s],rfl,flat_of (ks:=[.i,.s]) (by kernel_rfl) rfl (fun i k v a hv=>by
 match i,a,hv with
 | 0,a,hv=>cases a;cases hv;exact⟨_,rfl⟩
 | 1,a,hv=>cases a;cases hv;exact⟨_,rfl⟩)⟩
theorem keyMv(a b c:Int):FKey Tryz.prog 176 (.agg #[a,b,c]):=.inr ⟨_,rfl,flatMv a b c⟩
theorem keyKn(a b c d:Int):FKey Tryz.prog 178 (.agg #[a,b,c,d]):=.inr ⟨[.int .i64 a,.int .i64 b,.int .i64 c,.int .i64 d],rfl,flat_ints (vs:=[a,b,c,d]) (by kernel_rfl)⟩
def SeenI(t:GTab)(i j:Nat)(e:MapEntry):Prop:=∃ (a b:Nat) (l:List GItem) (x:GItem),(a<i\/(a=i/\b<j))/\t.eds[a]?=some l/\l[b]?=some x/\e.key=.agg #[.int .i64 a,.string x.name]
theorem c3180(hr:TabR h.get f t)(ok:TabOk t):Gr Tryz.prog 184 #[tabV f] h fun r _=>r=.int .i64 0:=by
 refine w3180 Qn ?_;have o0:=hr.eds.1;have k0:=hr.eds.2.1;have R:=ok.many;refine t_pu (c3183 _ _ _) ?_;rw[K1.2 (show (1:Int)<=(f.n0:Int)/\(f.n0:Int)<=3 by omega)];refine yF ?_;refine Wy fun m hm=>?_;refine gZ ?_;refine Qq (fun L vs h'=>h.le h'/\∃ (i:Nat) (es:Array MapEntry),vs=[.int .i64 0,.int .i64 i]/\i<=f.n0/\L=f.n0-i/\MapAt h'.get m es/\∀ e∈es.toList,SeenI t i 0 e)
  ⟨Qp hm,0,#[],rfl,Nat.zero_le _,rfl,⟨0,Qd _ _ _⟩,fun e he=>by simp at he⟩ ?_
 rintro Y L vs h1 hY ⟨z,i,es,rfl,hi,rfl,S,y⟩;refine yJ (fun W=>?_) (fun W=>?_)
 ·obtain⟨l,a,Q,ha,q,n,c,X,V⟩:=hr.eds.at (i:=i) (by omega);have l0:0<=(i:Int)/\(i:Int)<(f.n0:Int):=by omega
  have Z:=Qc z.1 X;have hn:=V.1;have ol:=ok.eds l (List.mem_of_getElem? Q);have h8:=ol.many;refine gZ ?_;refine t_if (fun e=>by omega) (fun _=>?_);refine Qq (fun L vs h'=>h.le h'/\∃ (j:Nat) (es:Array MapEntry),vs=[.int .i64 0,.int .i64 j]/\j<=n/\L=n-j/\MapAt h'.get m es/\∀ e∈es.toList,SeenI t i j e)
   ⟨z,0,es,rfl,Nat.zero_le _,rfl,S,y⟩ ?_
  rintro Y2 L vs h2 N ⟨s,j,D,rfl,hj,rfl,u,d⟩;refine yJ (fun e4=>?_) (fun e4=>?_)
  ·obtain⟨x,b,U,j0,g1,g2⟩:=V.at (i:=j) (by omega);have m0:0<=(j:Int)/\(j:Int)<(n:Int):=by omega
   have a0:=Qc s.1 g1;have e0:=Qc s.1 g2;have H:=List.mem_of_getElem? U;have E:=ol.cls x H;refine gZ ?_
   repeat ((first|refine Kt (by assumption) ?_|refine Z3 (by assumption) ?_|refine gL0 (by assumption) ?_);refine gZ ?_)
   refine t_gr (c3208 (ol.name x H)) ?_;rintro _ h3 K rfl;have J:=LH.le_trans s K;have v:=mapAt_le K.1 u;have o:∀ e∈D.toList,FKey Tryz.prog 297 e.key:=fun e he=>by
    obtain⟨w,B,I,A,_,_,_,C⟩:=d e he;rw[C];exact keyPl _ _
   refine yF ?_;refine Uv und1248 inf4 v (keyPl _ _) o (fun e he C=>?_) fun _=>?_
   ·exfalso;obtain⟨w,B,I,A,G,g,p,k⟩:=d e he;rw[k]at C;have heq:[Value.int .i64 (w:Int),.string A.name]=[.int .i64 (i:Int),.string x.name]:=Uq.1 C;simp only[List.cons.injEq,Value.int.injEq,Value.string.injEq,true_and,and_true]at heq;have O:w=i:=by omega
    subst O;rw[Q]at g;cases g;exact ol.once B j A x (by omega) p U heq.2
   simp only[Bool.false_eq_true,if_false];refine yF ?_;refine t_pu (c3183 _ _ _) ?_;rw[K1.2 E];refine yF ?_;refine He und1248 v (keyPl _ _) o fun M c3 F=>?_;refine Qa (N (n-(j+1)) _ _ (by omega) ⟨U1 J hm,j+1,M,?_,by omega,rfl,⟨c3,Qd _ _ _⟩,fun e he=>?_⟩)
   ·rw[Qj (by omega) (by omega)];rfl
   ·rcases F e he with⟨C,_⟩|P
    ·exact⟨i,j,l,x,.inr ⟨rfl,by omega⟩,Q,U,C⟩
    ·obtain⟨w,B,I,A,G,g,p,k⟩:=d e P;exact⟨w,B,I,A,by omega,g,p,k⟩
  ·refine gZ ?_;refine Qa (hY (f.n0-(i+1)) _ _ (by omega) ⟨s,i+1,D,?_,by omega,rfl,u,fun e he=>?_⟩)
   ·rw[Qj (by omega) (by omega)];rfl
   ·obtain⟨w,B,I,A,G,g,p,k⟩:=d e he;exact⟨w,B,I,A,.inl (by omega),g,p,k⟩
 ·refine gZ ?_;exact Qe ⟨z,rfl⟩
theorem D0{e n:Int}(h:itemB t e n):isIn e 0 ((t.eds.length:Int)-1)=true:=K1.2 ⟨h.1,by have:=h.2.1;omega⟩
def SeenM(t:GTab)(i:Nat)(e:MapEntry):Prop:=∃ (a:Nat) (x:GMv),a<i/\t.moves[a]?=some x/\e.key=.agg #[.int .i64 x.ed,.int .i64 x.src,.int .i64 x.dst]
theorem c3181(hr:TabR h.get f t)(ok:TabOk t):Gr Tryz.prog 185 #[tabV f] h fun r _=>r=.int .i64 0:=by
 refine w3181 Qn ?_;have M:=hr.moves.1;have hb1:=hr.moves.2.1;have L:=ok.moves;have y:=ok.many;refine t_if (fun e=>by omega) (fun _=>?_);refine Wy fun m hm=>?_;refine gZ ?_;refine Qq (fun D vs h'=>h.le h'/\∃ (i:Nat) (es:Array MapEntry),vs=[.int .i64 0,.int .i64 i]/\i<=f.n1/\D=f.n1-i/\MapAt h'.get m es/\∀ e∈es.toList,SeenM t i e)
  ⟨Qp hm,0,#[],rfl,Nat.zero_le _,rfl,⟨0,Qd _ _ _⟩,fun e he=>by simp at he⟩ ?_
 rintro Y D vs h1 J ⟨c,i,es,rfl,O,rfl,q,b⟩;refine yJ (fun F=>?_) (fun F=>?_)
 ·obtain⟨x,a,z,N,A,B,C⟩:=hr.moves.at (i:=i) (by omega);have K:0<=(i:Int)/\(i:Int)<(f.n1:Int):=by omega
  have A:=Qc c.1 A;have B:=Qc c.1 B;have C:=Qc c.1 C;obtain⟨u,E⟩:=ok.move x (List.mem_of_getElem? z);have g:=hr.le c.1;have H:=u.1;have I:=u.2.1;have G:wrap .i64 (x.ed+1)=x.ed+1:=Qj (by omega) (by omega);have d:∀ e∈es.toList,FKey Tryz.prog 176 e.key:=fun e he=>by
   obtain⟨s,l,_,_,n⟩:=b e he;rw[n];exact keyMv _ _ _
  refine gZ ?_;rw[G];refine t_pu (c3161 g _) ?_;rw[D0 u];refine yF ?_;refine t_pu (c3161 g _) ?_;rw[D0 E];refine yF ?_;refine t_pu (c3168 g _ _) ?_;rw[Un.2 u];refine yF ?_;refine t_pu (c3168 g _ _) ?_;rw[Un.2 E];refine yF ?_;refine Uv und1251 inf4 q (keyMv _ _ _) d (fun e he n=>?_) fun _=>?_
  ·exfalso;obtain⟨s,l,p,k,j⟩:=b e he;rw[j]at n;have heq:[Value.int .i64 l.ed,.int .i64 l.src,.int .i64 l.dst]=[.int .i64 x.ed,.int .i64 x.src,.int .i64 x.dst]:=Uq.1 n;simp only[List.cons.injEq,Value.int.injEq,true_and,and_true]at heq;exact ok.moveOnce s i l x p k z heq
  simp only[Bool.false_eq_true,if_false];refine yF ?_;refine He und1251 q (keyMv _ _ _) d fun v c3 o=>?_;refine Qa (J (f.n1-(i+1)) _ _ (by omega) ⟨U1 c hm,i+1,v,?_,by omega,rfl,⟨c3,Qd _ _ _⟩,fun e he=>?_⟩)
  ·rw[Qj (by omega) (by omega)];rfl
  ·rcases o e he with⟨n,_⟩|w
   ·exact⟨i,x,by omega,z,n⟩
   ·obtain⟨s,l,p,k,j⟩:=b e w;exact⟨s,l,by omega,k,j⟩
 ·refine gZ ?_;exact Qe ⟨c,rfl⟩
def SeenK(t:GTab)(i:Nat)(e:MapEntry):Prop:=∃ (a:Nat) (x:GKn),a<i/\t.kins[a]?=some x/\e.key=.agg #[.int .i64 x.ed,.int .i64 x.one,.int .i64 x.two,.int .i64 0]
theorem c3182(hr:TabR h.get f t)(ok:TabOk t):Gr Tryz.prog 186 #[tabV f] h fun r _=>r=.int .i64 0:=by
 refine w3182 Qn ?_;have I:=hr.kins.1;have hb1:=hr.kins.2.1;have H:=ok.kins;refine t_if (fun e=>by omega) (fun _=>?_);refine Wy fun m hm=>?_;refine gZ ?_;refine Qq (fun C vs h'=>h.le h'/\∃ (i:Nat) (es:Array MapEntry),vs=[.int .i64 0,.int .i64 i]/\i<=f.n2/\C=f.n2-i/\MapAt h'.get m es/\∀ e∈es.toList,SeenK t i e)
  ⟨Qp hm,0,#[],rfl,Nat.zero_le _,rfl,⟨0,Qd _ _ _⟩,fun e he=>by simp at he⟩ ?_
 rintro Y C vs h1 F ⟨c,i,es,rfl,N,rfl,q,b⟩;refine yJ (fun E=>?_) (fun E=>?_)
 ·obtain⟨x,a,w,M,y,z,A,B⟩:=hr.kins.at (i:=i) (by omega);have G:0<=(i:Int)/\(i:Int)<(f.n2:Int):=by omega
  have y:=Qc c.1 y;have z:=Qc c.1 z;have A:=Qc c.1 A;have B:=Qc c.1 B;obtain⟨D,J,O,K,L⟩:=ok.kin x (List.mem_of_getElem? w);have j:=hr.le c.1;have d:∀ e∈es.toList,FKey Tryz.prog 178 e.key:=fun e he=>by
   obtain⟨s,l,_,_,n⟩:=b e he;rw[n];exact keyKn _ _ _ _
  refine gZ ?_;refine Jw (fun vs h'=>vs=[.bool false]/\h1=h') ?_ ?_
  ·refine t_pu (c3161 j _) ?_;rw[D0 D];refine yF ?_;refine t_pu (c3168 j _ _) ?_;rw[Un.2 D];refine yF ?_;refine t_pu (c3168 j _ _) ?_;rw[Un.2 J];refine gZ ?_;exact Qa ⟨rfl,rfl⟩
  rintro vs _ ⟨rfl,rfl⟩;refine yF ?_;refine t_if (fun e=>by omega) (fun _=>?_);refine t_pu (c3183 _ _ _) ?_;rw[K1.2 ⟨K,L⟩];refine yF ?_;refine Uv und1252 inf4 q (keyKn _ _ _ _) d (fun e he n=>?_) fun _=>?_
  ·exfalso;obtain⟨s,l,p,k,g⟩:=b e he;rw[g]at n;have heq:[Value.int .i64 l.ed,.int .i64 l.one,.int .i64 l.two,.int .i64 0]=[.int .i64 x.ed,.int .i64 x.one,.int .i64 x.two,.int .i64 0]:=Uq.1 n;simp only[List.cons.injEq,Value.int.injEq,true_and,and_true]at heq;exact ok.kinOnce s i l x p k w heq
  simp only[Bool.false_eq_true,if_false];refine yF ?_;refine He und1252 q (keyKn _ _ _ _) d fun u c3 o=>?_;refine Qa (F (f.n2-(i+1)) _ _ (by omega) ⟨U1 c hm,i+1,u,?_,by omega,rfl,⟨c3,Qd _ _ _⟩,fun e he=>?_⟩)
  ·rw[Qj (by omega) (by omega)];rfl
  ·rcases o e he with⟨n,_⟩|v
   ·exact⟨i,x,by omega,w,n⟩
   ·obtain⟨s,l,p,k,g⟩:=b e v;exact⟨s,l,by omega,k,g⟩
 ·refine gZ ?_;exact Qe ⟨c,rfl⟩
theorem c3160(hr:TabR h.get f t)(ok:TabOk t):Gr Tryz.prog 146 #[tabV f] h fun r _=>r=.int .i64 0:=by
 refine w3160 Qn ?_;refine Yi und1215 inf157 (by decide) (by decide) (cells:=#[.func (.func 184) #[tabV f] #[],.func (.func 185) #[tabV f] #[],.func (.func 186) #[tabV f] #[]]) (by kernel_rfl) fun r h1 k q m=>?_;refine gZ ?_;refine Qq (fun l vs h'=>h1.le h'/\∃ i:Nat,vs=[.int .i64 0,.int .i64 i]/\i<=3/\l=3-i) ⟨LH.le_refl _,0,rfl,by omega,rfl⟩ ?_;rintro Y l vs h2 n ⟨g,i,rfl,s,rfl⟩;have c:=LH.le_trans k g;have e:=hr.le c.1;refine yJ (fun j=>?_) (fun j=>?_)
 ·have p:0<=(i:Int)/\(i:Int)<((3:Nat):Int):=by omega
  have next:∀ h3:LH,h2.le h3->Y [.int .i64 0,.int .i64 (wrap .i64 ((i:Int)+1))] h3:=fun h3 b=>by
   refine n (3-(i+1)) _ _ (by omega) ⟨LH.le_trans g b,i+1,?_,by omega,rfl⟩;rw[Qj (by omega) (by omega)];rfl
  have a:∀ v,(#[Value.func (.func 184) #[tabV f] #[],.func (.func 185) #[tabV f] #[],.func (.func 186) #[tabV f] #[]])[i]?=some v->h2.get.cell? (Addr.add ⟨r,0,none⟩ (i*1))=some v:=fun v hv=>by
   refine Qc g.1 ?_;rw[Qh,Nat.zero_add,Nat.mul_one];unfold Cells.cell?;rw[m];exact hv
  have run:∀ (d:FuncId),Gr Tryz.prog d #[tabV f] h2 (fun r _=>r=.int .i64 0)->CV X0 Tryz.prog (.func (.func d) #[tabV f] #[]) #[] h2 fun r h'=>h2.le h'/\r=.int .i64 0:=fun d o=>Kq Qn (by rfl) o
  match i,j,a,run,next with
  | 0,_,a,run,next =>
   have hc:=a _ rfl;refine gZ ?_
   repeat ((first|refine Kt (by assumption) ?_|refine Z3 (by assumption) ?_|refine gL0 (by assumption) ?_);refine gZ ?_)
   refine J2 (run _ (c3180 e ok)) ?_;rintro _ h3 ⟨b,rfl⟩;refine yF ?_;exact Qa (next h3 b)
  | 1,_,a,run,next =>
   have hc:=a _ rfl;refine gZ ?_
   repeat ((first|refine Kt (by assumption) ?_|refine Z3 (by assumption) ?_|refine gL0 (by assumption) ?_);refine gZ ?_)
   refine J2 (run _ (c3181 e ok)) ?_;rintro _ h3 ⟨b,rfl⟩;refine yF ?_;exact Qa (next h3 b)
  | 2,_,a,run,next =>
   have hc:=a _ rfl;refine gZ ?_
   repeat ((first|refine Kt (by assumption) ?_|refine Z3 (by assumption) ?_|refine gL0 (by assumption) ?_);refine gZ ?_)
   refine J2 (run _ (c3182 e ok)) ?_;rintro _ h3 ⟨b,rfl⟩;refine yF ?_;exact Qa (next h3 b)
  | i+3,j,_,_,_=>omega
 ·refine gZ ?_;exact Qe ⟨c,rfl⟩
end
section
attribute [local irreducible] T.wp CV FWK
theorem Ub{X:XP}{Q:Leaf->LH->Prop}{h h₀:LH}{k:Value->T}{p:Option Addr}{n c:Nat}{l:List Int}{x:Int}(g:Growing IntEnc 3 1 h₀.get h.get p n c l)(hle:h₀.le h)(t:n+1<=2^30)
 (s:∀ i f h',h₀.le h'->Growing IntEnc 3 1 h₀.get h'.get i (n+1) f (l++[x])->(k (.slice i (n+1) f)).wp X Tryz.prog Q h') :
  (T.sem false (Instr.buildSlice 30 1 #[(0,.int .i64 x)]) fun v=>T.unS v fun a m c2=>T.sem false (Builtin.append_ #[30,30] 30 #[.slice p n c,.slice a m c2]) k).wp X Tryz.prog Q h:=by
 refine Hf und50 inf3 (by decide) (by decide) (cells:=#[.int .i64 x]) (by kernel_rfl) fun r hr=>?_;have e:h.le _:=Qp (x:=(true,.cells #[.int .i64 x] 3 (0,0))) hr;refine gG ?_;refine t_grow (h₀:=h₀) (x:=x) (ws:=[.int .i64 x]) rfl rfl und50 und50 inf3 rfl (by omega) t (g.le e.1) (LH.le_trans hle e) rfl rfl ?_ ?_ ?_
 ·intro j w q;rw[Qh,Nat.zero_add];exact Qs (by simpa using q)
 ·intro w hw;simp at hw;subst hw;rfl
 ·intro i f d b _ o;exact s i f d b o
end
section
set_option linter.unusedVariables false
variable {X:XP} {h:LH} {A:Value->LH->Prop}
variable {a b c d e f g i j k l m:Int}{n o p q r s t u v w x y z:Nat}{B C D E F G H I J K L M:Option Addr}
theorem w3133:FX X 111 #[.agg #[.slice B n o,.slice C p q,.slice D r s],a,.slice E t u] h A (.cI 146 #[.agg #[.slice B n o,.slice C p q,.slice D r s]] fun c=>bif c != 0 then .rt (.tuple #[.agg #[.slice B n o,.slice C p q,.slice D r s],c]) else .cB 147 #[.agg #[.slice B n o,.slice C p q,.slice D r s],a] fun y=>bif !y then .rt (.tuple #[.agg #[.slice B n o,.slice C p q,.slice D r s],.int .i64 6]) else .loop [.int .i64 0,.int .i64 0,.slice none 0 0,.slice none 0 0,.slice none 0 0] (fun b=>.pi b fun c b=>.pi b fun d b=>.popS b fun e l f b=>.popS b fun g m j b=>.popS b fun i v k b=>.unNil b (bif decide (d<(↑t:Int)) then .need (0<=d/\d<(↑t:Int)) (.someA E fun x=>.loadS (x.add (d.toNat*1)) fun G F z=>.cI 148 #[.agg #[.slice B n o,.slice C p q,.slice D r s],a,.slice G F z] fun w=>bif w != 0 then .rn [w,d,.slice B n o,.slice C p q,.slice D r s] else .ag [c,.int .i64 (wrap .i64 (d+1)),.slice e l f,.slice g m j,.slice i v k]) else .bk [c,d,.slice e l f,.slice g m j,.slice i v k])) (fun b=>.pi b fun c b=>.pi b fun c b=>.popS b fun e c f b=>.popS b fun e c f b=>.popS b fun e c f b=>.unNil b (.rt (.tuple #[.agg #[.slice B n o,.slice C p q,.slice D r s],.int .i64 0]))) (fun b=>.pi b fun c b=>.pi b fun d b=>.popS b fun e l f b=>.popS b fun g m j b=>.popS b fun i v k b=>.unNil b (.rt (.tuple #[.agg #[.slice e l f,.slice g m j,.slice i v k],c]))) fun H I=>.fail):=fk [3,6,8] [⟨0,[(7,.int .i64),(28,.int .i64),(28672,.slice),(28673,.slice),(28674,.slice)],[3,8],[],[],[]⟩] [] Tryz.f111
theorem w3162:FX X 71 #[.agg #[.slice B n o,.slice C p q,.slice D r s],a,b,.slice E t u] h A (.cl 112 #[.slice E t u] fun e=>.unAgg e fun I=>.popB I fun d c=>.popB c fun L c=>.popB c fun U c=>.popB c fun V c=>.popB c fun Z c=>.popB c fun g0 c=>.popB c fun i0 c=>.popB c fun j0 c=>.unNil c (.cl 112 #[.slice E t u] fun e=>.unAgg e fun I=>.popB I fun k0 c=>.popB c fun l0 c=>.popB c fun M c=>.popB c fun N c=>.popB c fun O c=>.popB c fun Q c=>.popB c fun R c=>.popB c fun S c=>.unNil c (.blk (bif decide (b<a) then .ag [.func (Fn.func 114) #[.agg #[.slice B n o,.slice C p q,.slice D r s]] #[],.int .i64 (-1)] else .ag [.func (Fn.func 113) #[.agg #[.slice B n o,.slice C p q,.slice D r s]] #[],.int .i64 1]) (fun c=>.popV c fun e c=>.pi c fun J c=>.unNil c (.loop [a,d,L,U,V,Z,g0,i0,j0,k0,l0,M,N,O,Q,R,S] (fun c=>.pi c fun K c=>.popB c fun d c=>.popB c fun w c=>.popB c fun x c=>.popB c fun y c=>.popB c fun z c=>.popB c fun F c=>.popB c fun G c=>.popB c fun H c=>.popB c fun f c=>.popB c fun g c=>.popB c fun i c=>.popB c fun j c=>.popB c fun k c=>.popB c fun l c=>.popB c fun m c=>.popB c fun v c=>.unNil c (bif K != b then .callv false e #[K] fun e=>.nds [.val (.agg #[f,g,i,j,k,l,m,v]),.val (.agg #[d,w,x,y,z,F,G,H])] (.cT 115 #[e,.agg #[d,w,x,y,z,F,G,H],.agg #[f,g,i,j,k,l,m,v]] fun e c=>.unAgg e fun I=>.popB I fun d u0=>.popB u0 fun m0 d1=>.popB d1 fun o0 e1=>.popB e1 fun p0 f1=>.popB f1 fun q0 g1=>.popB g1 fun r0 i1=>.popB i1 fun s0 j1=>.popB j1 fun t0 k1=>.unNil k1 (.unCons c fun e c=>.unAgg e fun I=>.popB I fun W l1=>.popB l1 fun Y v0=>.popB v0 fun a0 x0=>.popB x0 fun b0 y0=>.popB y0 fun c0 z0=>.popB z0 fun d0 a1=>.popB a1 fun e0 b1=>.popB b1 fun f0 c1=>.unNil c1 (.unNil c (.nd (.agg #[W,Y,a0,b0,c0,d0,e0,f0]) (.ag [.int .i64 (wrap .i64 (K+J)),d,m0,o0,p0,q0,r0,s0,t0,W,Y,a0,b0,c0,d0,e0,f0]))))) else .bk [K,d,w,x,y,z,F,G,H,f,g,i,j,k,l,m,v])) (fun c=>.pi c fun J c=>.popB c fun d c=>.popB c fun w c=>.popB c fun x c=>.popB c fun y c=>.popB c fun z c=>.popB c fun F c=>.popB c fun G c=>.popB c fun H c=>.popB c fun f c=>.popB c fun g c=>.popB c fun i c=>.popB c fun j c=>.popB c fun k c=>.popB c fun l c=>.popB c fun m c=>.popB c fun v c=>.unNil c (.nd (.agg #[f,g,i,j,k,l,m,v]) (.rt (.tuple #[.agg #[d,w,x,y,z,F,G,H],.agg #[f,g,i,j,k,l,m,v]])))) (fun c=>.pi c fun J c=>.popB c fun d c=>.popB c fun w c=>.popB c fun x c=>.popB c fun y c=>.popB c fun z c=>.popB c fun F c=>.popB c fun G c=>.popB c fun H c=>.popB c fun f c=>.popB c fun g c=>.popB c fun i c=>.popB c fun j c=>.popB c fun k c=>.popB c fun l c=>.popB c fun m c=>.popB c fun v c=>.unNil c (.rt (.tuple #[.agg #[d,w,x,y,z,F,G,H],.agg #[f,g,i,j,k,l,m,v]]))) fun m1 o1=>.fail)) (fun c=>.popV c fun e c=>.pi c fun J c=>.unNil c (.rt (.tuple #[.agg #[d,L,U,V,Z,g0,i0,j0],.agg #[k0,l0,M,N,O,Q,R,S]]))) fun m1 o1=>.fail))):=fk [4,8,9] [⟨0,[(12,.int .i64),(36864,.bool),(36865,.bool),(36866,.bool),(36867,.bool),(36868,.bool),(36869,.bool),(36870,.bool),(36871,.bool),(40960,.bool),(40961,.bool),(40962,.bool),(40963,.bool),(40964,.bool),(40965,.bool),(40966,.bool),(40967,.bool)],[4],[],[],[]⟩] [⟨5,[(10,.any),(11,.int .i64)],[4,8,9],[],[],[]⟩] Tryz.f71
theorem w3163{g:Bool}{i:Bool}{j:Bool}{k:Bool}{l:Bool}{m:Bool}{n:Bool}{o:Bool}:FX X 73 #[.agg #[g,i,j,k,l,m,n,o]] h A (.loop [.slice none 0 0,.int .i64 0] (fun a=>.popS a fun c b d a=>.pi a fun e a=>.unNil a (bif decide (e<8) then .sem false (Instr.index 139 (.agg #[g,i,j,k,l,m,n,o]) (.int .i64 e)) fun f=>.unB f fun s=>bif s then .sem false (Instr.buildSlice 30 1 #[(0,.int .i64 e)]) fun f=>.unS f fun p r q=>.sem false (Builtin.append_ #[30,30] 30 #[.slice c b d,.slice p r q]) fun f=>.unS f fun c b d=>.ag [.slice c b d,.int .i64 (wrap .i64 (e+1))] else .ag [.slice c b d,.int .i64 (wrap .i64 (e+1))] else .bk [.slice c b d,e])) (fun a=>.popS a fun c b d a=>.pi a fun e a=>.unNil a (.rt (.slice c b d))) (fun a=>.popS a fun c b d a=>.pi a fun b a=>.unNil a (.rt (.slice none 0 0))) fun t u=>.fail):=fk [1] [⟨0,[(3,.slice),(7,.int .i64)],[1],[],[],[]⟩] [] Tryz.f73
theorem w3184:FX X 112 #[.slice B n o] h A (.new 139 #[false,false,false,false,false,false,false,false] fun b=>.loop [.int .i64 0] (fun a=>.pi a fun c a=>.unNil a (bif decide (c<(↑n:Int)) then .need (0<=c/\c<(↑n:Int)) (.someA B fun e=>.li (e.add (c.toNat*1)) fun d=>.need (0<=d/\d<(↑8:Int)) (.store ((Addr.add ⟨b,0,none⟩ (d.toNat*1)).add 0) (.bool true) (.ag [.int .i64 (wrap .i64 (c+1))]))) else .bk [c])) (fun a=>.pi a fun c a=>.unNil a (.loadB (Addr.add ⟨b,0,none⟩ 0) fun f=>.loadB (Addr.add ⟨b,0,none⟩ 1) fun g=>.loadB (Addr.add ⟨b,0,none⟩ 2) fun i=>.loadB (Addr.add ⟨b,0,none⟩ 3) fun j=>.loadB (Addr.add ⟨b,0,none⟩ 4) fun k=>.loadB (Addr.add ⟨b,0,none⟩ 5) fun l=>.loadB (Addr.add ⟨b,0,none⟩ 6) fun m=>.loadB (Addr.add ⟨b,0,none⟩ 7) fun p=>.rt (.agg #[f,g,i,j,k,l,m,p]))) (fun a=>.pi a fun c a=>.unNil a (.rt (.agg #[false,false,false,false,false,false,false,false]))) fun q r=>.fail):=fk [2] [⟨0,[(8,.int .i64)],[2],[],[],[]⟩] [] Tryz.f112
theorem w3185:FX X 113 #[.agg #[.slice B n o,.slice C p q,.slice D r s],a] h A (.new 137 #[.slice B n o,.slice C p q,.slice D r s] fun b=>.new 3 #[a] fun c=>.rt (.func (Fn.func 149) #[] #[.pointer (some ⟨b,0,none⟩),.pointer (some ⟨c,0,none⟩)])):=fk [] [] [] Tryz.f113
theorem w3186:FX X 114 #[.agg #[.slice B n o,.slice C p q,.slice D r s],a] h A (.new 137 #[.slice B n o,.slice C p q,.slice D r s] fun b=>.new 3 #[a] fun c=>.rt (.func (Fn.func 150) #[] #[.pointer (some ⟨b,0,none⟩),.pointer (some ⟨c,0,none⟩)])):=fk [] [] [] Tryz.f114
theorem w3187{Q:Value}{S:Bool}{U:Bool}{V:Bool}{W:Bool}{Y:Bool}{Z:Bool}{a0:Bool}{b0:Bool}{H:Bool}{I:Bool}{J:Bool}{K:Bool}{L:Bool}{M:Bool}{N:Bool}{O:Bool}:FX X 115 #[Q,.agg #[S,U,V,W,Y,Z,a0,b0],.agg #[H,I,J,K,L,M,N,O]] h A (.new 139 #[S,U,V,W,Y,Z,a0,b0] fun e0=>.new 139 #[H,I,J,K,L,M,N,O] fun R=>.new 139 #[false,false,false,false,false,false,false,false] fun f=>.new 139 #[false,false,false,false,false,false,false,false] fun p=>.new 139 #[false,false,false,false,false,false,false,false] fun b=>.each Q [] (fun i0 c=>.unCons i0 fun G f0=>.ui G fun a=>.unCons f0 fun G g0=>.ui G fun d=>.unNil g0 (.unNil c (.need (0<=d/\d<(↑8:Int)) (.store ((Addr.add ⟨f,0,none⟩ (d.toNat*1)).add 0) (.bool true) (.need (0<=d/\d<(↑8:Int)) (.loadB (Addr.add ⟨p,0,none⟩ (d.toNat*1)) fun e=>bif e then .need (0<=d/\d<(↑8:Int)) (.store ((Addr.add ⟨p,0,none⟩ (d.toNat*1)).add 0) (.bool true) (.need (0<=d/\d<(↑8:Int)) (.loadB (Addr.add ⟨b,0,none⟩ (d.toNat*1)) fun e=>bif e then .need (0<=d/\d<(↑8:Int)) (.store ((Addr.add ⟨b,0,none⟩ (d.toNat*1)).add 0) (.bool true) (.ag [])) else .need (0<=a/\a<(↑8:Int)) (.loadB (Addr.add ⟨R,0,none⟩ (a.toNat*1)) fun e=>.need (0<=d/\d<(↑8:Int)) (.store ((Addr.add ⟨b,0,none⟩ (d.toNat*1)).add 0) (.bool e) (.ag [])))))) else .need (0<=a/\a<(↑8:Int)) (.loadB (Addr.add ⟨e0,0,none⟩ (a.toNat*1)) fun e=>.need (0<=d/\d<(↑8:Int)) (.store ((Addr.add ⟨p,0,none⟩ (d.toNat*1)).add 0) (.bool !e) (.need (0<=d/\d<(↑8:Int)) (.loadB (Addr.add ⟨b,0,none⟩ (d.toNat*1)) fun e=>bif e then .need (0<=d/\d<(↑8:Int)) (.store ((Addr.add ⟨b,0,none⟩ (d.toNat*1)).add 0) (.bool true) (.ag [])) else .need (0<=a/\a<(↑8:Int)) (.loadB (Addr.add ⟨R,0,none⟩ (a.toNat*1)) fun e=>.need (0<=d/\d<(↑8:Int)) (.store ((Addr.add ⟨b,0,none⟩ (d.toNat*1)).add 0) (.bool e) (.ag []))))))))))))) (fun c=>.unNil c (.loop [.int .i64 0] (fun c=>.pi c fun a c=>.unNil c (bif decide (a<8) then .need (0<=a/\a<(↑8:Int)) (.loadB (Addr.add ⟨f,0,none⟩ (a.toNat*1)) fun e=>bif e then .need (0<=a/\a<(↑8:Int)) (.loadB (Addr.add ⟨p,0,none⟩ (a.toNat*1)) fun e=>.need (0<=a/\a<(↑8:Int)) (.store ((Addr.add ⟨f,0,none⟩ (a.toNat*1)).add 0) (.bool !e) (.ag [.int .i64 (wrap .i64 (a+1))]))) else .need (0<=a/\a<(↑8:Int)) (.store ((Addr.add ⟨f,0,none⟩ (a.toNat*1)).add 0) (.bool false) (.ag [.int .i64 (wrap .i64 (a+1))]))) else .bk [a])) (fun c=>.pi c fun a c=>.unNil c (.loadB (Addr.add ⟨f,0,none⟩ 0) fun e=>.loadB (Addr.add ⟨f,0,none⟩ 1) fun q=>.loadB (Addr.add ⟨f,0,none⟩ 2) fun v=>.loadB (Addr.add ⟨f,0,none⟩ 3) fun B=>.loadB (Addr.add ⟨f,0,none⟩ 4) fun C=>.loadB (Addr.add ⟨f,0,none⟩ 5) fun D=>.loadB (Addr.add ⟨f,0,none⟩ 6) fun E=>.loadB (Addr.add ⟨f,0,none⟩ 7) fun F=>.loadB (Addr.add ⟨b,0,none⟩ 0) fun n=>.loadB (Addr.add ⟨b,0,none⟩ 1) fun o=>.loadB (Addr.add ⟨b,0,none⟩ 2) fun g=>.loadB (Addr.add ⟨b,0,none⟩ 3) fun i=>.loadB (Addr.add ⟨b,0,none⟩ 4) fun j=>.loadB (Addr.add ⟨b,0,none⟩ 5) fun k=>.loadB (Addr.add ⟨b,0,none⟩ 6) fun l=>.loadB (Addr.add ⟨b,0,none⟩ 7) fun m=>.loadB (Addr.add ⟨b,0,none⟩ 0) fun r=>.loadB (Addr.add ⟨b,0,none⟩ 1) fun s=>.loadB (Addr.add ⟨b,0,none⟩ 2) fun t=>.loadB (Addr.add ⟨b,0,none⟩ 3) fun u=>.loadB (Addr.add ⟨b,0,none⟩ 4) fun w=>.loadB (Addr.add ⟨b,0,none⟩ 5) fun x=>.loadB (Addr.add ⟨b,0,none⟩ 6) fun y=>.loadB (Addr.add ⟨b,0,none⟩ 7) fun z=>.ne (.agg #[r,s,t,u,w,x,y,z]) (.agg #[n,o,g,i,j,k,l,m]) (.rt (.tuple #[.agg #[e,q,v,B,C,D,E,F],.agg #[n,o,g,i,j,k,l,m]])))) (fun c=>.pi c fun a c=>.unNil c (.rt (.tuple #[.agg #[false,false,false,false,false,false,false,false],.agg #[false,false,false,false,false,false,false,false]]))) fun c0 d0=>.fail)) (fun c=>.unNil c (.loop [.int .i64 0] (fun c=>.pi c fun a c=>.unNil c (bif decide (a<8) then .need (0<=a/\a<(↑8:Int)) (.loadB (Addr.add ⟨f,0,none⟩ (a.toNat*1)) fun e=>bif e then .need (0<=a/\a<(↑8:Int)) (.loadB (Addr.add ⟨p,0,none⟩ (a.toNat*1)) fun e=>.need (0<=a/\a<(↑8:Int)) (.store ((Addr.add ⟨f,0,none⟩ (a.toNat*1)).add 0) (.bool !e) (.ag [.int .i64 (wrap .i64 (a+1))]))) else .need (0<=a/\a<(↑8:Int)) (.store ((Addr.add ⟨f,0,none⟩ (a.toNat*1)).add 0) (.bool false) (.ag [.int .i64 (wrap .i64 (a+1))]))) else .bk [a])) (fun c=>.pi c fun a c=>.unNil c (.loadB (Addr.add ⟨f,0,none⟩ 0) fun e=>.loadB (Addr.add ⟨f,0,none⟩ 1) fun q=>.loadB (Addr.add ⟨f,0,none⟩ 2) fun v=>.loadB (Addr.add ⟨f,0,none⟩ 3) fun B=>.loadB (Addr.add ⟨f,0,none⟩ 4) fun C=>.loadB (Addr.add ⟨f,0,none⟩ 5) fun D=>.loadB (Addr.add ⟨f,0,none⟩ 6) fun E=>.loadB (Addr.add ⟨f,0,none⟩ 7) fun F=>.loadB (Addr.add ⟨b,0,none⟩ 0) fun n=>.loadB (Addr.add ⟨b,0,none⟩ 1) fun o=>.loadB (Addr.add ⟨b,0,none⟩ 2) fun g=>.loadB (Addr.add ⟨b,0,none⟩ 3) fun i=>.loadB (Addr.add ⟨b,0,none⟩ 4) fun j=>.loadB (Addr.add ⟨b,0,none⟩ 5) fun k=>.loadB (Addr.add ⟨b,0,none⟩ 6) fun l=>.loadB (Addr.add ⟨b,0,none⟩ 7) fun m=>.loadB (Addr.add ⟨b,0,none⟩ 0) fun r=>.loadB (Addr.add ⟨b,0,none⟩ 1) fun s=>.loadB (Addr.add ⟨b,0,none⟩ 2) fun t=>.loadB (Addr.add ⟨b,0,none⟩ 3) fun u=>.loadB (Addr.add ⟨b,0,none⟩ 4) fun w=>.loadB (Addr.add ⟨b,0,none⟩ 5) fun x=>.loadB (Addr.add ⟨b,0,none⟩ 6) fun y=>.loadB (Addr.add ⟨b,0,none⟩ 7) fun z=>.ne (.agg #[r,s,t,u,w,x,y,z]) (.agg #[n,o,g,i,j,k,l,m]) (.rt (.tuple #[.agg #[e,q,v,B,C,D,E,F],.agg #[n,o,g,i,j,k,l,m]])))) (fun c=>.pi c fun a c=>.unNil c (.rt (.tuple #[.agg #[false,false,false,false,false,false,false,false],.agg #[false,false,false,false,false,false,false,false]]))) fun c0 d0=>.fail)) (fun c=>.unNil c (.rt (.tuple #[.agg #[false,false,false,false,false,false,false,false],.agg #[false,false,false,false,false,false,false,false]]))) fun c0 d0=>.fail):=fk [6,7] [{ id:=0,slots:=[],ro:=[6,7],outs:=[],ps:=[.cell (.int .i64),.cell (.int .i64)] },⟨2,[(40,.int .i64)],[6,7],[],[],[]⟩] [] Tryz.f115
theorem w3209{e:Value}{f:Addr}{g:Addr}:FX X 149 #[e,.pointer (some f),.pointer (some g)] h A (.loadS ((f.add 0).add 1) fun m c o=>.loop [.int .i64 0] (fun a=>.pi a fun b a=>.unNil a (bif decide (b<(↑c:Int)) then .need (0<=b/\b<(↑c:Int)) (.someA m fun d=>.li ((d.add (b.toNat*3)).add 0) fun c=>.li ((d.add (b.toNat*3)).add 1) fun j=>.li ((d.add (b.toNat*3)).add 2) fun k=>.li g fun l=>bif c==l then .callv false e #[j,k] fun n=>.unB n fun i=>bif !i then .rn [b] else .ag [.int .i64 (wrap .i64 (b+1))] else .ag [.int .i64 (wrap .i64 (b+1))]) else .bk [b])) (fun a=>.pi a fun c a=>.unNil a (.rt (.tuple #[]))) (fun a=>.pi a fun c a=>.unNil a (.rt (.tuple #[]))) fun p q=>.fail):=fk [5] [⟨0,[(10,.int .i64)],[],[],[],[]⟩] [] Tryz.f149
theorem w3210{e:Value}{f:Addr}{g:Addr}:FX X 150 #[e,.pointer (some f),.pointer (some g)] h A (.loadS ((f.add 0).add 1) fun m c o=>.loop [.int .i64 0] (fun a=>.pi a fun b a=>.unNil a (bif decide (b<(↑c:Int)) then .need (0<=b/\b<(↑c:Int)) (.someA m fun d=>.li ((d.add (b.toNat*3)).add 0) fun c=>.li ((d.add (b.toNat*3)).add 1) fun j=>.li ((d.add (b.toNat*3)).add 2) fun k=>.li g fun l=>bif c==wrap .i64 (l-1) then .callv false e #[k,j] fun n=>.unB n fun i=>bif !i then .rn [b] else .ag [.int .i64 (wrap .i64 (b+1))] else .ag [.int .i64 (wrap .i64 (b+1))]) else .bk [b])) (fun a=>.pi a fun c a=>.unNil a (.rt (.tuple #[]))) (fun a=>.pi a fun c a=>.unNil a (.rt (.tuple #[]))) fun p q=>.fail):=fk [5] [⟨0,[(10,.int .i64)],[],[],[],[]⟩] [] Tryz.f150
end
end Go.Y
section
namespace Go.TM
variable {P:Program} {X:XP} {Q:Leaf->LH->Prop}
def Arr8(h:Cells)(r:Nat)(el:TypeId)(s:Te.Items):Prop:=∃ cs,h r=some (true,.cells cs el (0,0))/\cs.size=8/\∀ j,j<8->cs[j]?=some (.bool (s j))
variable {h:LH}{r:Nat}{el:TypeId}
theorem Arr8.le{h h':Cells}{r:Nat}{el:TypeId}{s:Te.Items}(b:h.le h')(a:Arr8 h r el s):Arr8 h' r el s:=by
 obtain⟨cs,h1,h2⟩:=a;exact⟨cs,b _ _ h1,h2⟩
theorem Arr8.cell{h:Cells}{r:Nat}{el:TypeId}{s:Te.Items}(a:Arr8 h r el s){j:Nat}(b:j<8):h.cell? (Addr.add ⟨r,0,none⟩ j)=some (.bool (s j)):=by
 obtain⟨cs,h1,h2,h3⟩:=a;rw[Qh,Nat.zero_add];unfold Cells.cell?;rw[h1];exact h3 j b
theorem Arr8.new{h:Cells}(s:Te.Items):Arr8 (h.upd r (true,.cells #[.bool (s 0),.bool (s 1),.bool (s 2),.bool (s 3),.bool (s 4),.bool (s 5),.bool (s 6),.bool (s 7)] el (0,0))) r el s:=by
 refine⟨_,Qd _ _ _,rfl,fun j a=>?_⟩
 match j,a with
 | 0,_=>rfl
 | 1,_=>rfl
 | 2,_=>rfl
 | 3,_=>rfl
 | 4,_=>rfl
 | 5,_=>rfl
 | 6,_=>rfl
 | 7,_=>rfl
structure Turn1(r:Nat)(h h':LH):Prop where
 keep:∀ b,b≠r->h'.get b=h.get b
 rest:h'.chans=h.chans/\h'.pend=h.pend/\h'.todo=h.todo
theorem Turn1.le{r:Nat}{h₀ h h':LH}(t:Turn1 r h h')(a:h₀.le h)(hr:h₀.get r=none):h₀.le h' :=
 ⟨fun b y hb=>by
  have:b≠r:=by rintro rfl;rw[hr]at hb;cases hb
  rw[t.keep b this];exact a.1 b y hb,by rw[t.rest.1];exact a.2.1,by rw[t.rest.2.1];exact a.2.2.1,by rw[t.rest.2.2];exact a.2.2.2⟩
theorem Turn1.arr{b:Nat}{h':LH}{s:Te.Items}(t:Turn1 r h h')(hb:b≠r)(a:Arr8 h.get b el s):Arr8 h'.get b el s:=by
 obtain⟨cs,h1,h2⟩:=a;exact⟨cs,by rw[t.keep b hb];exact h1,h2⟩
def setA(s:Te.Items)(j:Nat)(b:Bool):Te.Items:=fun i=>if i=j then b else s i
theorem Z1{j:Nat}{s:Te.Items}{a:Addr}{b:Bool}{k:T}(d:a=⟨r,j,none⟩)(m:Arr8 h.get r el s)(g:j<8)(l:∀ h',Turn1 r h h'->Arr8 h'.get r el (setA s j b)->k.wp X P Q h'):(T.store a (.bool b) k).wp X P Q h:=by
 subst d;obtain⟨cs,h1,h2,h3⟩:=m;refine K6 (v₀:=.bool (s j)) rfl ⟨_,h1⟩ ?_ (by simp[Cells.frozen?,h1]) (l _ ⟨fun c hb=>?_,rfl,rfl,rfl⟩ ⟨cs.setIfInBounds j (.bool b),?_,by simp[h2],fun i f=>?_⟩)
 ·unfold Cells.cell?;simp only[h1];exact h3 j g
 ·show h.get.setCell _ _ c=_;unfold Cells.setCell;rw[if_neg hb]
 ·show h.get.setCell _ _ r=_;unfold Cells.setCell;rw[if_pos rfl,h1];rfl
 ·rw[Array.getElem?_setIfInBounds];unfold setA;by_cases e:j=i
  ·subst e;rw[if_pos rfl,if_pos (by omega),if_pos rfl]
  ·rw[if_neg e,if_neg (Ne.symm e)];exact h3 i f
abbrev boolsV(s:Te.Items):Value:=.agg #[.bool (s 0),.bool (s 1),.bool (s 2),.bool (s 3),.bool (s 4),.bool (s 5),.bool (s 6),.bool (s 7)]
def setL(l:List Int):Te.Items:=fun i=>l.contains (i:Int)
def listT(s:Te.Items):List Int:=((List.range 8).filter s).map fun i:Nat=>(i:Int)
end Go.TM
namespace Go.Y
attribute [local irreducible] T.wp CV FWK
variable {h h₀:LH}{f:TabC}{t:GTab}{z0 z1:Addr}{e:Int}
theorem und1189:Tryz.prog.underlying 139=some (.array 8 4):=by kernel_rfl
theorem und4:Tryz.prog.underlying 4=some .bool:=by kernel_rfl
theorem agg4:isAggT Tryz.prog 4=false:=by kernel_rfl
theorem c3184{p:Option Addr}{n c:Nat}{l:List Int}(k:Sl IntE 1 h.get p n l)(g:∀ v∈l,0<=v/\v<8):Gr Tryz.prog 112 #[.slice p n c] h fun r _=>r=boolsV (setL l):=by
 refine w3184 Qn ?_;have C:=k.1;have hb:=k.2.1;refine J1 fun r hr=>?_;refine Qq (fun q vs h'=>h.le h'/\∃ i:Nat,vs=[.int .i64 i]/\i<=n/\q=n-i/\Arr8 h'.get r 139 (setL (l.take i))) ⟨Qp hr,0,rfl,Nat.zero_le _,rfl,Arr8.new (setL [])⟩ ?_;rintro Y q vs h1 w ⟨f,i,rfl,B,rfl,b⟩;refine yJ (fun t=>?_) (fun t=>?_)
 ·obtain⟨x,a,o,y,u⟩:=(k.le IntE.grow f.1).at (i:=i) (by omega);unfold IntE at u;have A:=g x (List.mem_of_getElem? o);have m:0<=(i:Int)/\(i:Int)<(n:Int):=by omega
  have z:0<=x/\x<((8:Nat):Int):=by omega
  refine gZ ?_;refine Z1 (j:=x.toNat) (by rw[Qh,Qh];simp) b (by omega) fun h2 t2 s=>?_;refine Qa (w (n-(i+1)) _ _ (by omega) ⟨t2.le f hr,i+1,?_,by omega,rfl,?_⟩)
  ·rw[Qj (by omega) (by omega)];rfl
  ·have:setA (setL (l.take i)) x.toNat true=setL (l.take (i+1)):=by
    funext j;unfold setA setL;rw[List.take_add_one,o];by_cases e:j=x.toNat
    ·subst e;rw[if_pos rfl];have:((x.toNat:Nat):Int)=x:=by omega
     simp[this]
    ·rw[if_neg e];have:¬ (j:Int)=x:=by omega
     simp[this]
   rw[<- this];exact s
 ·have d:l.take i=l:=List.take_of_length_le (by omega);rw[d]at b;have D:=b.cell (j:=0) (by decide);have k1:=b.cell (j:=1) (by decide);have E:=b.cell (j:=2) (by decide);have F:=b.cell (j:=3) (by decide);have G:=b.cell (j:=4) (by decide);have H:=b.cell (j:=5) (by decide);have I:=b.cell (j:=6) (by decide);have J:=b.cell (j:=7) (by decide);refine gZ ?_;exact Qe ⟨f,rfl⟩
theorem list_take{s:Te.Items}{i:Nat}(a:i<8):((List.range 8).take (i+1)).filter s=((List.range 8).take i).filter s++(if s i then [i] else []):=by
 rw[List.take_add_one,List.getElem?_range a,List.filter_append];congr 1;simp only[Option.toList_some,List.filter_cons,List.filter_nil]
theorem c3163(s:Te.Items):Gr Tryz.prog 73 #[boolsV s] h fun r h'=>∃ p n c,r=.slice p n c/\n<=c/\Sl IntE 1 h'.get p n (listT s):=by
 refine w3163 Qn ?_;refine Qq (fun q vs h'=>h.le h'/\∃ (i:Nat) (p:Option Addr) (n c:Nat),vs=[.slice p n c,.int .i64 i]/\i<=8/\q=8-i/\Growing IntEnc 3 1 h.get h'.get p n c ((((List.range 8).take i).filter s).map fun j:Nat=>(j:Int)))
  ⟨LH.le_refl _,0,none,0,0,rfl,Nat.zero_le _,rfl,Growing.nil⟩ ?_
 rintro Y q vs h₁ m ⟨hle,i,p,n,c,rfl,C,rfl,g⟩;refine yJ (fun w=>?_) (fun w=>?_)
 ·have b:i<8:=by omega
  have a:=list_take (s:=s) b;have hlen:(((List.range 8).take i).filter s).length<=8:=Nat.le_trans (List.length_filter_le _ _) (by rw[List.length_take,List.length_range];omega);have l:=g.count IntEnc.len (by omega);rw[List.length_map]at l;refine t_index (v:=.bool (s i)) und1189 inf4 und4 agg4 b ?_ ?_
  ·match i,b with
   | 0,_=>rfl
   | 1,_=>rfl
   | 2,_=>rfl
   | 3,_=>rfl
   | 4,_=>rfl
   | 5,_=>rfl
   | 6,_=>rfl
   | 7,_=>rfl
  refine yI (fun b1=>?_) (fun b1=>?_)
  ·rw[if_pos b1]at a;refine Ub g hle (by omega) fun z u o k x=>?_;refine gZ ?_;refine Qa (m (8-(i+1)) _ _ (by omega) ⟨k,i+1,z,n+1,u,?_,by omega,rfl,by rw[a,List.map_append];exact x⟩);rw[Qj (by omega) (by omega)];rfl
  ·rw[if_neg (by rw[b1];simp),List.append_nil]at a;refine Qa (m (8-(i+1)) _ _ (by omega) ⟨hle,i+1,p,n,c,?_,by omega,rfl,by rw[a];exact g⟩);rw[Qj (by omega) (by omega)];rfl
 ·refine gZ ?_;have d:((List.range 8).take i)=List.range 8:=List.take_of_length_le (by simp;omega);rw[d]at g;have hlen:(listT s).length<=8:=by unfold listT;rw[List.length_map];exact Nat.le_trans (List.length_filter_le _ _) (by simp)
  have l:=g.count IntEnc.len (by omega);obtain⟨_,y,_⟩:=g.row;have f:n<=c:=by rcases y.2 with⟨_,e,B⟩|⟨_,_,_,_,_,hc,_⟩<;>omega
  exact Qe ⟨hle,p,n,c,rfl,f,g.sl IntEnc.len (by omega) IntEnc.e (by show (listT s).length<_;omega)⟩
/-! ### t moves out of A edition -/
def mvPair(back:Bool)(m:GMv):List Value:=if back then [.int .i64 m.dst,.int .i64 m.src] else [.int .i64 m.src,.int .i64 m.dst]
def mvSel(back:Bool)(e:Int)(m:GMv):Bool:=if back then m.ed==e-1 else m.ed==e
def mvL(back:Bool)(e:Int)(l:List GMv):List (List Value):=(l.filter (mvSel back e)).map (mvPair back)
theorem mvL_cons(back:Bool)(e:Int)(m:GMv)(l:List GMv):mvL back e (m::l)=(if mvSel back e m then [mvPair back m] else [])++mvL back e l:=by
 unfold mvL;rw[List.filter_cons];split<;>rfl
theorem hands3209(he:IsI (e-1))(u:h₀.get.cell? (Addr.add (Addr.add z0 0) 1)=some (.slice f.p1 f.n1 f.c1))(v:h₀.get.cell? z1=some (.int .i64 e))(hr:TabR h₀.get f t) :
  Hands X0 Tryz.prog (.func (.func 149) #[] #[.pointer (some z0),.pointer (some z1)]) h₀ (mvL false e t.moves):=by
 intro y J E _ _ g h hle C;refine Kq Qn (by rfl) (?_:FW X0 Tryz.prog 149 #[y,.pointer (some z0),.pointer (some z1)] h _);refine w3209 Qn ?_;have N:=hr.moves.1;have hb:=hr.moves.2.1;have O:=Qc hle.1 u;refine gZ ?_;refine Qq (fun z vs h'=>h₀.le h'/\∃ (j cnt:Nat),vs=[.int .i64 j]/\j<=f.n1/\z=f.n1-j/\J cnt h'/\cnt<=(mvL false e t.moves).length/\(mvL false e t.moves).drop cnt=mvL false e (t.moves.drop j)) (n:=f.n1) ⟨hle,0,0,rfl,Nat.zero_le _,by omega,C,Nat.zero_le _,rfl⟩ ?_;rintro Y z vs h₁ w ⟨d,j,cnt,rfl,M,rfl,l,q,c⟩;refine yJ (fun A=>?_) (fun A=>?_)
 ·obtain⟨m,a,hm,L,H,I,K⟩:=(hr.moves.le MvE.grow d.1).at (i:=j) (by omega);have F:0<=(j:Int)/\(j:Int)<(f.n1:Int):=by omega
  have w1:=Qc d.1 v;rw[Jd hm,mvL_cons]at c;refine yI (fun b1=>?_) (fun b1=>?_)
  ·have s:mvSel false e m=true:=b1;rw[if_pos s]at c;have k:(mvL false e t.moves)[cnt]?=some (mvPair false m):=by
    have:((mvL false e t.moves).drop cnt)[0]?=some (mvPair false m):=by rw[c];rfl
    simpa using this
   have G:cnt<(mvL false e t.moves).length:=(List.getElem?_eq_some_iff.1 k).1;have r:=g cnt h₁ _ d k l;refine J2 r ?_;rintro b x ⟨o,⟨rfl,p⟩|⟨rfl,B⟩⟩
   ·refine yF ?_;refine Qa (w (f.n1-(j+1)) _ _ (by omega) ⟨o,j+1,cnt+1,?_,by omega,rfl,p,by omega,?_⟩)
    ·rw[Qj (by omega) (by omega)];rfl
    ·rw[<- List.drop_drop,c];rfl
   ·refine yT ?_;refine gI ?_;refine gZ ?_;exact Qe ⟨o,.inr B⟩
  ·have s:mvSel false e m=false:=b1;rw[if_neg (by rw[s];simp),List.nil_append]at c;refine Qa (w (f.n1-(j+1)) _ _ (by omega) ⟨d,j+1,cnt,?_,by omega,rfl,l,q,c⟩);rw[Qj (by omega) (by omega)];rfl
 ·refine gZ ?_;refine Qe ⟨d,.inl ?_⟩;rw[List.drop_eq_nil_of_le (by omega:t.moves.length<=j)]at c;have D:=congrArg List.length c;rw[List.length_drop]at D;have h0:(mvL false e ([]:List GMv)).length=0:=rfl;have:cnt=(mvL false e t.moves).length:=by omega
  rw[<- this];exact l
theorem hands3210(he:IsI (e-1))(u:h₀.get.cell? (Addr.add (Addr.add z0 0) 1)=some (.slice f.p1 f.n1 f.c1))(v:h₀.get.cell? z1=some (.int .i64 e))(hr:TabR h₀.get f t) :
  Hands X0 Tryz.prog (.func (.func 150) #[] #[.pointer (some z0),.pointer (some z1)]) h₀ (mvL true e t.moves):=by
 intro y J E _ _ g h hle C;refine Kq Qn (by rfl) (?_:FW X0 Tryz.prog 150 #[y,.pointer (some z0),.pointer (some z1)] h _);refine w3210 Qn ?_;have N:=hr.moves.1;have hb:=hr.moves.2.1;have O:=Qc hle.1 u;refine gZ ?_;refine Qq (fun z vs h'=>h₀.le h'/\∃ (j cnt:Nat),vs=[.int .i64 j]/\j<=f.n1/\z=f.n1-j/\J cnt h'/\cnt<=(mvL true e t.moves).length/\(mvL true e t.moves).drop cnt=mvL true e (t.moves.drop j)) (n:=f.n1) ⟨hle,0,0,rfl,Nat.zero_le _,by omega,C,Nat.zero_le _,rfl⟩ ?_;rintro Y z vs h₁ w ⟨d,j,cnt,rfl,M,rfl,l,q,c⟩;refine yJ (fun A=>?_) (fun A=>?_)
 ·obtain⟨m,a,hm,L,H,I,K⟩:=(hr.moves.le MvE.grow d.1).at (i:=j) (by omega);have F:0<=(j:Int)/\(j:Int)<(f.n1:Int):=by omega
  have w1:=Qc d.1 v;rw[Jd hm,mvL_cons]at c;refine gZ ?_;rw[Qj he.1 he.2];refine Qt (fun b1=>?_) (fun b1=>?_)
  ·have s:mvSel true e m=true:=b1;rw[if_pos s]at c;have k:(mvL true e t.moves)[cnt]?=some (mvPair true m):=by
    have:((mvL true e t.moves).drop cnt)[0]?=some (mvPair true m):=by rw[c];rfl
    simpa using this
   have G:cnt<(mvL true e t.moves).length:=(List.getElem?_eq_some_iff.1 k).1;have r:=g cnt h₁ _ d k l;refine J2 r ?_;rintro b x ⟨o,⟨rfl,p⟩|⟨rfl,B⟩⟩
   ·refine yF ?_;refine Qa (w (f.n1-(j+1)) _ _ (by omega) ⟨o,j+1,cnt+1,?_,by omega,rfl,p,by omega,?_⟩)
    ·rw[Qj (by omega) (by omega)];rfl
    ·rw[<- List.drop_drop,c];rfl
   ·refine yT ?_;refine gI ?_;refine gZ ?_;exact Qe ⟨o,.inr B⟩
  ·have s:mvSel true e m=false:=b1;rw[if_neg (by rw[s];simp),List.nil_append]at c;refine Qa (w (f.n1-(j+1)) _ _ (by omega) ⟨d,j+1,cnt,?_,by omega,rfl,l,q,c⟩);rw[Qj (by omega) (by omega)];rfl
 ·refine gZ ?_;refine Qe ⟨d,.inl ?_⟩;rw[List.drop_eq_nil_of_le (by omega:t.moves.length<=j)]at c;have D:=congrArg List.length c;rw[List.length_drop]at D;have h0:(mvL true e ([]:List GMv)).length=0:=rfl;have:cnt=(mvL true e t.moves).length:=by omega
  rw[<- this];exact l
theorem c3185(hr:TabR h.get f t)(he:IsI (e-1)):Gr Tryz.prog 113 #[tabV f,e] h fun r h'=>Hands X0 Tryz.prog r h' (mvL false e t.moves):=by
 refine w3185 Qn ?_;refine J1 fun r c=>?_;refine J1 fun g a=>?_;have d:=Qp (x:=(true,.cells #[.slice f.p0 f.n0 f.c0,.slice f.p1 f.n1 f.c1,.slice f.p2 f.n2 f.c2] 137 (0,0))) c;have b:=LH.le_trans d (Qp (x:=(true,.cells #[.int .i64 e] 3 (0,0))) a);refine Qe ⟨b,hands3209 he ?_ ?_ (hr.le b.1)⟩
 ·rw[Qh,Qh];refine Qc (Qp a).1 (Qs rfl)
 ·exact Qs rfl
theorem c3186(hr:TabR h.get f t)(he:IsI (e-1)):Gr Tryz.prog 114 #[tabV f,e] h fun r h'=>Hands X0 Tryz.prog r h' (mvL true e t.moves):=by
 refine w3186 Qn ?_;refine J1 fun r c=>?_;refine J1 fun g a=>?_;have d:=Qp (x:=(true,.cells #[.slice f.p0 f.n0 f.c0,.slice f.p1 f.n1 f.c1,.slice f.p2 f.n2 f.c2] 137 (0,0))) c;have b:=LH.le_trans d (Qp (x:=(true,.cells #[.int .i64 e] 3 (0,0))) a);refine Qe ⟨b,hands3210 he ?_ ?_ (hr.le b.1)⟩
 ·rw[Qh,Qh];refine Qc (Qp a).1 (Qs rfl)
 ·exact Qs rfl
end Go.Y
end
section
namespace Go.TM
variable {P:Program} {X:XP} {Q:Leaf->LH->Prop}
variable {h:LH}{b r:Nat}{el:TypeId}
theorem Dr{h':LH}(c:h.le h')(hb:h'.get b=none):h.get b=none:=by
 cases a:h.get b with
 | none=>rfl
 | some y=>rw[c.1 b y a]at hb;cases hb
theorem Arr8.ne{h:Cells}{s:Te.Items}(a:Arr8 h r el s)(hb:h b=none):r≠b:=by
 rintro rfl;obtain⟨cs,h1,_⟩:=a;rw[h1]at hb;cases hb
theorem Arr8.congr{h:Cells}{s t:Te.Items}(a:Arr8 h r el s)(b:∀ j,j<8->s j=t j):Arr8 h r el t:=by
 obtain⟨cs,h1,h2,h3⟩:=a;exact⟨cs,h1,h2,fun j c=>by rw[h3 j c,b j c]⟩
theorem Yh(s:Te.Items){k:Nat->T}(a:∀ r h',h.get r=none->h.le h'->Arr8 h'.get r el s->(k r).wp X P Q h'):(T.new el #[.bool (s 0),.bool (s 1),.bool (s 2),.bool (s 3),.bool (s 4),.bool (s 5),.bool (s 6),.bool (s 7)] k).wp X P Q h :=
 J1 fun r hr=>a r _ hr (Qp hr) (Arr8.new s)
namespace Te
def anyT(mv:List (Nat×Nat))(f:Nat×Nat->Bool):Items:=fun y=>mv.any fun m=>m.2==y&&f m
theorem anyT_step{mv:List (Nat×Nat)}{f:Nat×Nat->Bool}{i:Nat}{m:Nat×Nat}(hm:mv[i]?=some m):anyT (mv.take (i+1)) f=setA (anyT (mv.take i) f) m.2 (anyT (mv.take i) f m.2||f m):=by
 funext y;unfold anyT setA;rw[List.take_add_one,hm,List.any_append];simp only[Option.toList_some,List.any_cons,List.any_nil,Bool.or_false];by_cases e:y=m.2
 ·subst e;simp
 ·rw[if_neg e];have:(m.2==y)=false:=by simpa using fun h=>e h.symm
  simp[this]
theorem sure_is(mv:List (Nat×Nat))(s:Items)(y:Nat):coverSure mv s y=(anyT mv (fun _=>true) y&&!anyT mv (fun m=>!s m.1) y):=by
 unfold coverSure anyT;rw[List.not_any_eq_all_not];congr 1
 ·simp
 ·congr 1;funext m;cases h:m.2==y<;>cases h2:s m.1<;>simp[bne,h,h2]
theorem cov_step(a b:Items)(i:Nat):setA (fun y=>a y&&(decide (i<=y)||!b y)) i (a i&&!b i)=fun y=>a y&&(decide (i+1<=y)||!b y):=by
 funext y;unfold setA;by_cases e:y=i
 ·subst e;rw[if_pos rfl,show decide (y+1<=y)=false by rw[decide_eq_false_iff_not];omega,Bool.false_or]
 ·rw[if_neg e];have:decide (i<=y)=decide (i+1<=y):=by
   rw[decide_eq_decide];omega
  simp only[this]
end Te
end Go.TM
namespace Go.Y
attribute [local irreducible] T.wp CV FWK
theorem c3187{h:LH}{v:Value}{mv:List (Nat×Nat)}(hH:Hands X0 Tryz.prog v h (mv.map fun m=>[.int .i64 (m.1:Int),.int .i64 (m.2:Int)]))(h8:∀ m∈mv,m.1<8/\m.2<8)(s c:Te.Items) :
  Gr Tryz.prog 115 #[v,boolsV s,boolsV c] h fun r _=>r=.tuple #[boolsV (Te.coverSure mv s),boolsV (Te.coverCan mv c)]:=by
 refine w3187 Qn ?_;refine Yh s fun r g0 x0 l0 a0=>?_;refine Yh c fun r1 g1 y0 l1 a1=>?_;refine Yh (fun _=>false) fun L g2 f V p=>?_;refine Yh (fun _=>false) fun N g3 d W a3=>?_;refine Yh (fun _=>false) fun r4 g4 a l4 a4=>?_;have U:=LH.le_trans l1 V;have q0:=LH.le_trans V W;have X:=LH.le_trans W l4;have F:=LH.le_trans V X;have K:=LH.le_trans l1 F;have S:=LH.le_trans l0 l1;have z:=LH.le_trans S V;have n:=LH.le_trans z W;have u:=LH.le_trans n l4;have s0:=(a0.le l1.1).ne f;have j0:=(a0.le U.1).ne d;have w:=(a0.le (LH.le_trans U W).1).ne a;have u0:=a1.ne f;have o0:=(a1.le V.1).ne d;have x:=(a1.le q0.1).ne a;have n23:=p.ne d;have g:=(p.le W.1).ne a;have k:=a3.ne a;replace f:=Dr S f;replace d:=Dr z d;replace a:=Dr n a;refine Gs (h₀:=h) u hH (fun i vs h'=>vs=[]/\Arr8 h'.get r 139 s/\Arr8 h'.get r1 139 c/\Arr8 h'.get L 139 (Te.anyT (mv.take i) fun _=>true)/\Arr8 h'.get N 139 (Te.anyT (mv.take i) fun m=>!s m.1)/\Arr8 h'.get r4 139 (Te.anyT (mv.take i) fun m=>c m.1))
  ⟨rfl,a0.le K.1,a1.le F.1,p.le X.1,a3.le l4.1,a4⟩ ?_ ?_
 ·rintro vs h' hle ⟨rfl,A,B,C,D,E⟩;rw[List.length_map,List.take_length]at C D E;refine gZ ?_;refine Qq (fun mm vs h'=>h.le h'/\∃ i:Nat,vs=[.int .i64 i]/\i<=8/\mm=8-i/\Arr8 h'.get L 139 (fun y=>Te.anyT mv (fun _=>true) y&&(decide (i<=y)||!Te.anyT mv (fun m=>!s m.1) y))/\Arr8 h'.get N 139 (Te.anyT mv fun m=>!s m.1)/\Arr8 h'.get r4 139 (Te.anyT mv fun m=>c m.1))
   ⟨hle,0,rfl,by omega,rfl,C.congr fun j _=>by simp,D,E⟩ ?_
  rintro Y mm vs h1 M ⟨Z,i,rfl,hi,rfl,C1,D1,E1⟩;refine yJ (fun Q=>?_) (fun Q=>?_)
  ·have t:i<8:=by omega
   have w0:0<=(i:Int)/\(i:Int)<((8:Nat):Int):=by omega
   have k1:h1.get.cell? (Addr.add ⟨L,0,none⟩ (Int.toNat (i:Int)*1))=some (.bool (Te.anyT mv (fun _=>true) i)):=by
    rw[Int.toNat_natCast,Nat.mul_one];have:=C1.cell t;simpa using this
   have k2:h1.get.cell? (Addr.add ⟨N,0,none⟩ (Int.toNat (i:Int)*1))=some (.bool (Te.anyT mv (fun m=>!s m.1) i)):=by rw[Int.toNat_natCast,Nat.mul_one];exact D1.cell t
   have next:∀ h2,Turn1 L h1 h2->Arr8 h2.get L 139 (setA (fun y=>Te.anyT mv (fun _=>true) y&&(decide (i<=y)||!Te.anyT mv (fun m=>!s m.1) y)) i (Te.anyT mv (fun _=>true) i&&!Te.anyT mv (fun m=>!s m.1) i))->Y [.int .i64 (wrap .i64 ((i:Int)+1))] h2:=fun h2 t2 p=>by
    rw[Te.cov_step]at p;refine M (8-(i+1)) _ _ (by omega) ⟨t2.le Z f,i+1,?_,by omega,rfl,p,t2.arr n23.symm D1,t2.arr g.symm E1⟩;rw[Qj (by omega) (by omega)];rfl
   refine yI (fun b1=>?_) (fun b1=>?_)
   ·refine gZ ?_;refine Z1 (j:=i) (by rw[Qh,Qh];simp) C1 t fun h2 t2 p=>?_;refine Qa (next h2 t2 ?_);rw[b1,Bool.true_and];exact p
   ·refine gZ ?_;refine Z1 (j:=i) (by rw[Qh,Qh];simp) C1 t fun h2 t2 p=>?_;refine Qa (next h2 t2 ?_);rw[b1,Bool.false_and];exact p
  ·have e:Arr8 h1.get L 139 (Te.coverSure mv s):=C1.congr fun j hj=>by
    rw[Te.sure_is];have:decide (i<=j)=false:=by rw[decide_eq_false_iff_not];omega
    rw[this,Bool.false_or]
   have l:Arr8 h1.get r4 139 (Te.coverCan mv c):=E1;have k0:=e.cell (j:=0) (by decide);have k1:=e.cell (j:=1) (by decide);have k2:=e.cell (j:=2) (by decide);have k3:=e.cell (j:=3) (by decide);have k4:=e.cell (j:=4) (by decide);have k5:=e.cell (j:=5) (by decide);have k6:=e.cell (j:=6) (by decide);have k7:=e.cell (j:=7) (by decide);have m0:=l.cell (j:=0) (by decide);have m1:=l.cell (j:=1) (by decide);have o:=l.cell (j:=2) (by decide);have m3:=l.cell (j:=3) (by decide);have m4:=l.cell (j:=4) (by decide);have m5:=l.cell (j:=5) (by decide);have m6:=l.cell (j:=6) (by decide);have m7:=l.cell (j:=7) (by decide);refine gZ ?_;exact Qe ⟨Z,rfl⟩
 ·rintro i xs vs h' R hle ⟨rfl,A,B,C,D,E⟩ Y M;rw[List.getElem?_map]at R;obtain⟨m,hm,rfl⟩:=Option.map_eq_some_iff.1 R;obtain⟨m1,o⟩:=h8 m (List.mem_of_getElem? hm);have i1:0<=(m.1:Int)/\(m.1:Int)<((8:Nat):Int):=by omega
  have i2:0<=(m.2:Int)/\(m.2:Int)<((8:Nat):Int):=by omega
  refine gZ ?_;refine Z1 (j:=m.2) (by rw[Qh,Qh];simp) C o fun h2 t2 e=>?_;have e0:=t2.le hle f;have A2:=t2.arr s0 A;have B2:=t2.arr u0 B;have D2:=t2.arr n23.symm D;have l:=t2.arr g.symm E;replace e:Arr8 h2.get L 139 (Te.anyT (mv.take (i+1)) fun _=>true):=by
   rw[Te.anyT_step hm,Bool.or_true];exact e
  have d':h2.get.cell? (Addr.add ⟨N,0,none⟩ (Int.toNat (m.2:Int)*1))=some (.bool (Te.anyT (mv.take i) (fun m=>!s m.1) m.2)):=by rw[Int.toNat_natCast,Nat.mul_one];exact D2.cell o
  refine yI (fun Q=>?_) (fun Q=>?_)
  ·refine gZ ?_;refine Z1 (j:=m.2) (by rw[Qh,Qh];simp) D2 o fun h3 t3 q=>?_;have b:=t3.le e0 d;have O:=t3.arr j0 A2;have G:=t3.arr o0 B2;have P:=t3.arr n23 e;have H:=t3.arr k.symm l;replace q:Arr8 h3.get N 139 (Te.anyT (mv.take (i+1)) fun m=>!s m.1):=by
    rw[Te.anyT_step hm,Q,Bool.true_or];exact q
   have e':h3.get.cell? (Addr.add ⟨r4,0,none⟩ (Int.toNat (m.2:Int)*1))=some (.bool (Te.anyT (mv.take i) (fun m=>c m.1) m.2)):=by rw[Int.toNat_natCast,Nat.mul_one];exact H.cell o
   refine yI (fun J=>?_) (fun J=>?_)
   ·refine gZ ?_;refine Z1 (j:=m.2) (by rw[Qh,Qh];simp) H o fun h4 t4 I=>?_;refine Jk (t4.le b a) (M _ _ (t4.le b a) ⟨rfl,t4.arr w O,t4.arr x G,t4.arr g P,t4.arr k q,?_⟩);rw[Te.anyT_step hm,J,Bool.true_or];exact I
   ·have b':h3.get.cell? (Addr.add ⟨r1,0,none⟩ (Int.toNat (m.1:Int)*1))=some (.bool (c m.1)):=by rw[Int.toNat_natCast,Nat.mul_one];exact G.cell m1
    refine gZ ?_;refine Z1 (j:=m.2) (by rw[Qh,Qh];simp) H o fun h4 t4 I=>?_;refine Jk (t4.le b a) (M _ _ (t4.le b a) ⟨rfl,t4.arr w O,t4.arr x G,t4.arr g P,t4.arr k q,?_⟩);rw[Te.anyT_step hm,J,Bool.false_or];exact I
  ·have a':h2.get.cell? (Addr.add ⟨r,0,none⟩ (Int.toNat (m.1:Int)*1))=some (.bool (s m.1)):=by rw[Int.toNat_natCast,Nat.mul_one];exact A2.cell m1
   refine gZ ?_;refine Z1 (j:=m.2) (by rw[Qh,Qh];simp) D2 o fun h3 t3 q=>?_;have b:=t3.le e0 d;have O:=t3.arr j0 A2;have G:=t3.arr o0 B2;have P:=t3.arr n23 e;have H:=t3.arr k.symm l;replace q:Arr8 h3.get N 139 (Te.anyT (mv.take (i+1)) fun m=>!s m.1):=by
    rw[Te.anyT_step hm,Q,Bool.false_or];exact q
   have e':h3.get.cell? (Addr.add ⟨r4,0,none⟩ (Int.toNat (m.2:Int)*1))=some (.bool (Te.anyT (mv.take i) (fun m=>c m.1) m.2)):=by rw[Int.toNat_natCast,Nat.mul_one];exact H.cell o
   refine yI (fun J=>?_) (fun J=>?_)
   ·refine gZ ?_;refine Z1 (j:=m.2) (by rw[Qh,Qh];simp) H o fun h4 t4 I=>?_;refine Jk (t4.le b a) (M _ _ (t4.le b a) ⟨rfl,t4.arr w O,t4.arr x G,t4.arr g P,t4.arr k q,?_⟩);rw[Te.anyT_step hm,J,Bool.true_or];exact I
   ·have b':h3.get.cell? (Addr.add ⟨r1,0,none⟩ (Int.toNat (m.1:Int)*1))=some (.bool (c m.1)):=by rw[Int.toNat_natCast,Nat.mul_one];exact G.cell m1
    refine gZ ?_;refine Z1 (j:=m.2) (by rw[Qh,Qh];simp) H o fun h4 t4 I=>?_;refine Jk (t4.le b a) (M _ _ (t4.le b a) ⟨rfl,t4.arr w O,t4.arr x G,t4.arr g P,t4.arr k q,?_⟩);rw[Te.anyT_step hm,J,Bool.false_or];exact I
end Go.Y
end
section
namespace Go.TM
open Go.Y
def gm(m:GMv):Te.GMove:=⟨m.ed,m.src.toNat,m.dst.toNat⟩
variable {t:GTab}{l:List Int}
theorem mvL_steps{l:List GMv}(h0:∀ m∈l,0<=m.src/\0<=m.dst)(back:Bool)(e:Int):mvL back e l=(Te.stepsT (l.map gm) back e).map fun m=>[.int .i64 (m.1:Int),.int .i64 (m.2:Int)]:=by
 cases back
 ·unfold Te.stepsT;simp only[Bool.false_eq_true,if_false];rw[List.filter_map,List.map_map,List.map_map];unfold mvL;refine List.map_congr_left fun m hm=>?_;have:=h0 m (List.mem_filter.1 hm).1;show [Value.int .i64 m.src,.int .i64 m.dst]=[.int .i64 (m.src.toNat:Int),.int .i64 (m.dst.toNat:Int)];rw[Int.toNat_of_nonneg this.1,Int.toNat_of_nonneg this.2]
 ·unfold Te.stepsT;simp only[if_true];rw[List.filter_map,List.map_map,List.map_map];unfold mvL;refine List.map_congr_left fun m hm=>?_;have:=h0 m (List.mem_filter.1 hm).1;show [Value.int .i64 m.dst,.int .i64 m.src]=[.int .i64 (m.dst.toNat:Int),.int .i64 (m.src.toNat:Int)];rw[Int.toNat_of_nonneg this.1,Int.toNat_of_nonneg this.2]
theorem steps8{l:List GMv}(h:∀ m∈l,(0<=m.src/\m.src<8)/\0<=m.dst/\m.dst<8)(back:Bool)(e:Int):∀ m∈Te.stepsT (l.map gm) back e,m.1<8/\m.2<8:=by
 intro m hm;cases back
 ·unfold Te.stepsT at hm;simp only[Bool.false_eq_true,if_false,List.mem_map,List.mem_filter]at hm;obtain⟨_,⟨⟨x,a,rfl⟩,_⟩,rfl⟩:=hm;have:=h x a;show x.src.toNat<8/\x.dst.toNat<8;omega
 ·unfold Te.stepsT at hm;simp only[if_true,List.mem_map,List.mem_filter]at hm;obtain⟨_,⟨⟨x,a,rfl⟩,_⟩,rfl⟩:=hm;have:=h x a;show x.dst.toNat<8/\x.src.toNat<8;omega
theorem TabOk.mv8(ok:TabOk t):∀ m∈t.moves,(0<=m.src/\m.src<8)/\0<=m.dst/\m.dst<8:=fun m hm=>by
 obtain⟨⟨_,_,h3,a⟩,_,_,h5,b⟩:=ok.move m hm;have:=ok.items8 m.ed;have:=ok.items8 (m.ed+1);omega
def coverAt(t:GTab)(a b:Int)(l:List Int):Te.Items×Te.Items:=Te.moveT (t.moves.map gm) (decide (b<a)) (b-a).natAbs a (setL l,setL l)
structure ListOk(t:GTab)(e:Int)(l:List Int):Prop where
 item:∀ v∈l,itemB t e v
 up:l.Pairwise (·<·)
theorem ListOk.in8{e:Int}(ok:TabOk t)(o:ListOk t e l):∀ v∈l,0<=v/\v<8:=fun v hv=>by
 obtain⟨_,_,h3,a⟩:=o.item v hv;have:=ok.items8 e;omega
theorem pair_at(h:l.Pairwise (·<·)){i j:Nat}{x y:Int}(a:i<j)(d:l[i]?=some x)(e:l[j]?=some y):x<y:=by
 obtain⟨b,rfl⟩:=List.getElem?_eq_some_iff.1 d;obtain⟨c,rfl⟩:=List.getElem?_eq_some_iff.1 e;exact List.pairwise_iff_getElem.1 h i j b c a
end Go.TM
namespace Go.Y
attribute [local irreducible] T.wp CV FWK
variable {h:LH}{f:TabC}{t:GTab}{p:Option Addr}{n c:Nat}{l:List Int}
theorem c3162(hr:TabR h.get f t)(ok:TabOk t){a b:Int}(K:0<=a/\a<(t.eds.length:Int))(hb:0<=b/\b<(t.eds.length:Int))(D:Sl IntE 1 h.get p n l)(j:∀ v∈l,0<=v/\v<8) :
  Gr Tryz.prog 71 #[tabV f,a,b,.slice p n c] h fun r _=>r=.tuple #[boolsV (coverAt t a b l).1,boolsV (coverAt t a b l).2]:=by
 refine w3162 Qn ?_;have y:=ok.many;refine t_gr (c3184 D j) ?_;rintro _ h1 q rfl;refine gZ ?_;refine t_gr (c3184 (D.le IntE.grow q.1) j) ?_;rintro _ h2 z rfl;have o:=LH.le_trans q z;refine gZ ?_;refine Jw (fun vs h'=>vs=[.func (.func (bif decide (b<a) then 114 else 113)) #[tabV f] #[],.int .i64 (bif decide (b<a) then -1 else 1)]/\h2=h') ?_ ?_
 ·refine t_if (fun hb=>?_) (fun hb=>?_)
  ·refine Qa ⟨?_,rfl⟩;rw[decide_eq_true hb];rfl
  ·refine Qa ⟨?_,rfl⟩;rw[decide_eq_false hb];rfl
 rintro vs _ ⟨rfl,rfl⟩;have w:∀ back:Bool,back=decide (b<a)->(back=true->b<a)/\(back=false->a<=b):=fun back e=>by
  subst e;exact⟨fun h=>of_decide_eq_true h,fun h=>by have:=of_decide_eq_false h;omega⟩
 have i:coverAt t a b l=Te.moveT (t.moves.map gm) (decide (b<a)) (b-a).natAbs a (setL l,setL l):=rfl;generalize J:decide (b<a)=back at *;have d:=w back rfl;refine gZ ?_;refine Qq (fun E vs h'=>h.le h'/\∃ (k:Nat) (s c:Te.Items),vs=[.int .i64 (bif back then a-k else a+k),.bool (s 0),.bool (s 1),.bool (s 2),.bool (s 3),.bool (s 4),.bool (s 5),.bool (s 6),.bool (s 7),.bool (c 0),.bool (c 1),.bool (c 2),.bool (c 3),.bool (c 4),.bool (c 5),.bool (c 6),.bool (c 7)]/\k<=(b-a).natAbs/\E=(b-a).natAbs-k /\
   coverAt t a b l=Te.moveT (t.moves.map gm) back ((b-a).natAbs-k) (bif back then a-k else a+k) (s,c)) ⟨o,0,setL l,setL l,?_,Nat.zero_le _,rfl,?_⟩ ?_
 ·cases back<;>simp
 ·rw[i];cases back<;>simp
 rintro Y E vs h3 F ⟨g,k,s,c,rfl,L,rfl,hc⟩;refine yI (fun u=>?_) (fun u=>?_)
 ·have G:k<(b-a).natAbs:=by
   have:(bif back then a-k else a+k)≠b:=by simpa using u
   cases back
   ·have:=d.2 rfl;simp only[cond_false] at *;omega
   ·have:=d.1 rfl;simp only[cond_true] at *;omega
  have run:CV X0 Tryz.prog (.func (.func (bif back then 114 else 113)) #[tabV f] #[]) #[.int .i64 (bif back then a-k else a+k)] h3 fun r h'=>h3.le h'/\Hands X0 Tryz.prog r h' (mvL back (bif back then a-k else a+k) t.moves):=by
   cases back
   ·exact Kq Qn (by rfl) (c3185 (hr.le g.1) ⟨by have:=d.2 rfl;simp only[cond_false];omega,by have:=d.2 rfl;simp only[cond_false];omega⟩)
   ·exact Kq Qn (by rfl) (c3186 (hr.le g.1) ⟨by have:=d.1 rfl;simp only[cond_true];omega,by have:=d.1 rfl;simp only[cond_true];omega⟩)
  refine J2 run ?_;rintro r I ⟨A,C⟩;rw[mvL_steps (fun m hm=>⟨(ok.mv8 m hm).1.1,(ok.mv8 m hm).2.1⟩)]at C;refine gZ ?_;refine t_gr (c3187 C (steps8 ok.mv8 _ _) s c) ?_;rintro _ h5 B rfl;refine gZ ?_;refine Qa (F ((b-a).natAbs-(k+1)) _ _ (by omega) ⟨LH.le_trans g (LH.le_trans A B),k+1,Te.coverSure (Te.stepsT (t.moves.map gm) back (bif back then a-(k:Int) else a+(k:Int))) s,Te.coverCan (Te.stepsT (t.moves.map gm) back (bif back then a-(k:Int) else a+(k:Int))) c,?_,by omega,rfl,?_⟩)
  ·have:wrap .i64 ((bif back then a-k else a+k)+(bif back then -1 else 1))=(bif back then a-((k+1:Nat):Int) else a+((k+1:Nat):Int)):=by
    cases back
    ·have:=d.2 rfl;simp only[cond_false];rw[Qj (by omega) (by omega)];omega
    ·have:=d.1 rfl;simp only[cond_true];rw[Qj (by omega) (by omega)];omega
   rw[this]
  ·rw[hc,show (b-a).natAbs-k=((b-a).natAbs-(k+1))+1 by omega];have:(if back then (bif back then a-(k:Int) else a+k)-1 else (bif back then a-(k:Int) else a+k)+1)=(bif back then a-((k+1:Nat):Int) else a+((k+1:Nat):Int)):=by
    cases back
    ·simp only[cond_false,Bool.false_eq_true,if_false];omega
    ·simp only[cond_true,if_true];omega
   show Te.moveT _ _ _ (if back then _ else _) _=_;rw[this]
 ·have x:k=(b-a).natAbs:=by
   have:(bif back then a-k else a+k)=b:=by simpa using u
   cases back
   ·have:=d.2 rfl;simp only[cond_false] at *;omega
   ·have:=d.1 rfl;simp only[cond_true] at *;omega
  rw[x,Nat.sub_self]at hc;have H:coverAt t a b l=(s,c):=hc;refine gZ ?_;refine Qe ⟨g,?_⟩;rw[H]
theorem c3136(hr:TabR h.get f t){e:Int}(d:Sl IntE 1 h.get p n l)(o:ListOk t e l):Pu Tryz.prog 148 #[tabV f,.int .i64 e,.slice p n c] h (.int .i64 0):=by
 refine w3136 Qn ?_;have F:=d.1;have hb:=d.2.1;refine Qq (fun m vs h'=>h=h'/\∃ i:Nat,vs=[.int .i64 0,.int .i64 i]/\i<=n/\m=n-i) ⟨rfl,0,rfl,Nat.zero_le _,rfl⟩ ?_;rintro Y m vs _ z ⟨rfl,i,rfl,E,rfl⟩;have next:Y [.int .i64 0,.int .i64 (wrap .i64 ((i:Int)+1))] h\/n<=i:=by
  by_cases e:i<n
  ·refine .inl (z (n-(i+1)) _ _ (by omega) ⟨rfl,i+1,?_,by omega,rfl⟩);rw[Qj (by omega) (by omega)];rfl
  ·exact .inr (by omega)
 refine yJ (fun r=>?_) (fun r=>?_)
 ·obtain⟨x,a,k,A,s⟩:=d.at (i:=i) (by omega);unfold IntE at s;have B:0<=(i:Int)/\(i:Int)<(n:Int):=by omega
  have b:=next.resolve_right (by omega)
  refine gZ ?_;refine t_pu (c3168 hr _ _) ?_;rw[Un.2 (o.item x (List.mem_of_getElem? k))];refine yF ?_;refine t_if (fun u=>?_) (fun u=>?_)
  ·obtain⟨y,q,D,g,v⟩:=d.at (i:=i-1) (by omega);obtain rfl:a=q:=Option.some.inj (A.symm.trans g);unfold IntE at v;have C:=pair_at o.up (by omega:i-1<i) D k;have w:wrap .i64 ((i:Int)-1)=((i-1:Nat):Int):=by rw[Qj (by omega) (by omega)];omega
   have j:0<=((i-1:Nat):Int)/\((i-1:Nat):Int)<(n:Int):=by omega
   rw[w];refine gZ ?_;refine t_if (fun e=>by omega) (fun _=>?_);exact Qa b
  ·exact Qa b
 ·refine gZ ?_;exact Qe ⟨rfl,rfl⟩
end Go.Y
end
section
namespace Go.TM
section
variable {P:Program} {X:XP} {Q:Leaf->LH->Prop}
theorem Hd{h:LH}{K:Value->T}{t el:TypeId}{s b:Nat}{z:Option Value}{p:Option Addr}{n c i:Nat}(hu:P.underlying t=some (.slice el))(e:(P.info? el).map (fun i=>(i.size,i.bytes,i.zero))=some (s,b,z))(f:i<=n)
 (g:(K (.slice (if c=i then p else p.map (·.add (i*s))) (n-i) (c-i))).wp X P Q h):(T.sem false (Instr.sliceAt t (.slice p n c) (some (.int .i64 (i:Int))) none none) K).wp X P Q h:=by
 obtain⟨inf,a,d,_,_⟩:=Zk e;refine J3 (A:=fun v h'=>v=.slice (if c=i then p else p.map (·.add (i*s))) (n-i) (c-i)/\h'=h.get) ?_ (by rintro v h' ⟨rfl,rfl⟩;exact g);unfold Instr.sliceAt;simp only[lwp_bind,Qg hu];unfold Instr.slice;simp only[lwp_bind,Qg hu];unfold Instr.sliceBounds Instr.sliceBound;simp only[lwp_bind,Ql,asIntOf,asInt];rw[if_pos (show 0<=(i:Int)/\(i:Int)<=(n:Int) by omega)];simp only[Ql,Q4 a,Int.toNat_natCast,d];exact⟨trivial,trivial⟩
end
theorem Sl.drop{α:Type}{E:Cells->Addr->α->Prop}{k:Nat}{h:Cells}{p:Option Addr}{n:Nat}{l:List α}(s:Sl E k h p n l){c i:Nat}(hc:n<=c):Sl E k h (if c=i then p else p.map (·.add (i*k))) (n-i) (l.drop i):=by
 refine⟨by rw[List.length_drop,s.1],by rw[List.length_drop];have:=s.2.1;omega,fun j x b=>?_⟩;rw[List.getElem?_drop]at b;have f:=(List.getElem?_eq_some_iff.1 b).1;have g:=s.1;obtain⟨a,e,d⟩:=s.2.2 _ x b;rw[if_neg (by omega),e];refine⟨a.add (i*k),rfl,?_⟩;rw[Addr.add_add',<- Nat.add_mul];exact d
section
variable {P:Program} {X:XP} {Q:Leaf->LH->Prop}
end
end Go.TM
end
section
namespace Go.Y
attribute [local irreducible] T.wp CV FWK
theorem Hx{P:Program}{X:XP}{Q:Leaf->LH->Prop}{h:LH}{K:Value->T}{t el:TypeId}{s b:Nat}{z:Option Value}{p:Option Addr}{n c i:Nat}(hu:P.underlying t=some (.slice el))(f:(P.info? el).map (fun i=>(i.size,i.bytes,i.zero))=some (s,b,z))(g:i<=c)
 (j:(K (.slice p i c)).wp X P Q h):(T.sem false (Instr.sliceAt t (.slice p n c) none (some (.int .i64 (i:Int))) none) K).wp X P Q h:=by
 obtain⟨inf,a,d,_,_⟩:=Zk f;refine J3 (A:=fun v h'=>v=.slice p i c/\h'=h.get) ?_ (by rintro v h' ⟨rfl,rfl⟩;exact j);unfold Instr.sliceAt;simp only[lwp_bind,Qg hu];unfold Instr.slice;simp only[lwp_bind,Qg hu];unfold Instr.sliceBounds Instr.sliceBound;simp only[lwp_bind,Ql,asIntOf];rw[if_pos (show 0<=(i:Int)/\(i:Int)<=(c:Int) by omega)];simp only[Ql,Q4 a,Int.toNat_natCast,d,Nat.zero_mul,Nat.sub_zero];have e:(p.map fun x:Addr=>x.add 0)=p:=by cases p<;>simp[Addr.add]
 rw[e];simp
end Go.Y
end
section
namespace Go.TM
section
variable {P:Program} {X:XP} {Q:Leaf->LH->Prop}
theorem zeroCells_int(n:Nat):(Builtin.zeroCells #[Value.int .i64 0] n).toList=List.replicate n (.int .i64 0):=by
 unfold Builtin.zeroCells;refine List.ext_getElem? fun i=>?_;simp only[Array.toList_map,Array.toList_range,List.getElem?_map,List.getElem?_replicate];by_cases h:i<n
 ·rw[List.getElem?_range (by simpa using h),if_pos h];simp[Nat.mod_one]
 ·rw[List.getElem?_eq_none (by simp;omega),if_neg h];rfl
theorem t_clear{h:LH}{K:Value->T}{t el a ty:TypeId}{b r o n c:Nat}{cs:Array Value}(hu:P.underlying t=some (.slice el))(k:(P.info? el).map (fun i=>(i.size,i.bytes,i.zero))=some (1,b,some (.int .i64 0)))(hr:h.get r=some (true,.cells cs a (0,0)))(f:o+n<=cs.size)
 (l:∀ h',Turn1 r h h'->h'.get r=some (true,.cells (setMany cs o (List.replicate n (.int .i64 0))) a (0,0))->(K (.tuple #[])).wp X P Q h'):(T.sem false (Builtin.clear_ #[t] ty #[.slice (some ⟨r,o,none⟩) n c]) K).wp X P Q h:=by
 obtain⟨inf,g,m,p,j⟩:=Zk k;refine J3 (A:=fun v h'=>v=.tuple #[]/\h'=h.get.upd r (true,.cells (setMany cs o (List.replicate n (.int .i64 0))) a (0,0))) ?_ (by
  rintro v h' ⟨rfl,rfl⟩;refine l _ ⟨fun d hb=>?_,rfl,rfl,rfl⟩ (Qd _ _ _);show h.get.upd r _ d=_;rw[Qk _ _ hb])
 unfold Builtin.clear_
 match n,f with
 | 0,_ =>
  have e:h.get.upd r (true,.cells cs a (0,0))=h.get:=by
   funext d;by_cases hb:d=r
   ·subst hb;rw[Qd,hr]
   ·rw[Qk _ _ hb]
  show Qi P (underlying t >>= _) _ _ _;rw[lwp_bind,Qg hu];show Qi P (pure (Value.tuple #[])) _ _ _;rw[Ql];exact⟨rfl,e.symm⟩
 | n+1,f =>
  show Qi P (underlying t >>= _) _ _ _;rw[lwp_bind,Qg hu];show Qi P (zeroValue el >>= _) _ _ _;rw[lwp_bind,Jp g j];rw[show Value.cells (.int .i64 0)=#[.int .i64 0] from rfl,zeroCells_int,lwp_bind];refine Zr _ 0 _ r o cs a hr (by rw[List.length_replicate];omega) (fun v hv=>?_) ⟨rfl,rfl⟩;rw[List.eq_of_mem_replicate hv];rfl
end
variable {h:LH}{r j:Nat}
theorem Zo{P:Program}{X:XP}{Q:Leaf->LH->Prop}{el:TypeId}{cs:Array Value}{a:Addr}{v:Value}{k:T}(d:a=⟨r,j,none⟩)(hr:h.get r=some (true,.cells cs el (0,0)))(f:j<cs.size)(one:isOne v=true)
 (g:∀ h',Turn1 r h h'->h'.get r=some (true,.cells (cs.setIfInBounds j v) el (0,0))->k.wp X P Q h'):(T.store a v k).wp X P Q h:=by
 subst d;refine K6 (v₀:=cs[j]) one ⟨_,hr⟩ ?_ (by simp[Cells.frozen?,hr]) ?_
 ·unfold Cells.cell?;simp[hr,f]
 ·have c:h.get.setCell ⟨r,j,none⟩ v=h.get.upd r (true,.cells (cs.setIfInBounds j v) el (0,0)):=by
   funext b;unfold Cells.setCell Cells.upd;by_cases e:b=r
   ·subst e;simp[hr]
   ·simp[e]
  rw[c];exact g _ ⟨fun b hb=>Qk _ _ hb,rfl,rfl,rfl⟩ (Qd _ _ _)
def Keeps(p:Option Addr)(h h':LH):Prop:=(∀ b,(∀ a,p=some a->a.block≠b)->h'.get b=h.get b)/\h'.chans=h.chans/\h'.pend=h.pend/\h'.todo=h.todo
theorem Keeps.refl(p:Option Addr)(h:LH):Keeps p h h:=⟨fun _ _=>rfl,rfl,rfl,rfl⟩
theorem Turn1.refl(r:Nat)(h:LH):Turn1 r h h:=⟨fun _ _=>rfl,rfl,rfl,rfl⟩
theorem Turn1.trans{r:Nat}{h h' c:LH}(a:Turn1 r h h')(b:Turn1 r h' c):Turn1 r h c :=
 ⟨fun x d=>(b.keep x d).trans (a.keep x d),b.rest.1.trans a.rest.1,b.rest.2.1.trans a.rest.2.1,b.rest.2.2.trans a.rest.2.2⟩
theorem Turn1.keeps{h':LH}(t:Turn1 r h h'):Keeps (some ⟨r,0,none⟩) h h':=⟨fun b hb=>t.keep b fun e=>hb _ rfl e.symm,t.rest⟩
theorem Keeps.le{p:Option Addr}{h₀ h h':LH}(k:Keeps p h h')(c:h₀.le h)(f:NewIn h₀.get p):h₀.le h' :=
 ⟨fun b y hb=>by
  rw[k.1 b fun a d e=>by have:=f a d;rw[e,hb]at this;cases this];exact c.1 b y hb,by rw[k.2.1];exact c.2.1,by rw[k.2.2.1];exact c.2.2.1,by rw[k.2.2.2];exact c.2.2.2⟩
theorem filter_take{α:Type}{f:α->Bool}{l:List α}{x:α}(h:l[j]?=some x):(l.take (j+1)).filter f=(l.take j).filter f++(if f x then [x] else []):=by
 rw[List.take_add_one,h,List.filter_append];congr 1;simp only[Option.toList_some,List.filter_cons,List.filter_nil]
end Go.TM
namespace Go.Y
attribute [local irreducible] T.wp CV FWK
end Go.Y
end
