/- Contracts and laws for the proof, joined by a program. No condition. -/
import Derived.Test.YtjckkafejlcknaaGreatDoorM3
set_option linter.all false
noncomputable section
open Go Go.Conc Go.TM Go.Proofs
set_option maxRecDepth 100000
open Go.IntKind (wrap)
section
namespace Go.Y
open Go.ChangeShapes Go.WideShapes Go.RowKit
end Go.Y
namespace Go.Y.Tre
open Go.Proofs.YtjckkafejlcknaaGreatDoor
open Go.ChangeShapes Go.WideShapes Go.RowKit
theorem own:ownKnob Tryz.prog.godebug=none:=by kernel_rfl
theorem lo:laidOutB Tryz.prog=true:=by kernel_rfl
theorem TT:TreatyTy Tryz.prog 3 31 47 49 22 24 where
 int:=by kernel_rfl
 int1:=by kernel_rfl
 kind:=by kernel_rfl
 kind1:=by kernel_rfl
 bytes:=⟨of_decide_eq_true (by kernel_rfl),of_decide_eq_true (by kernel_rfl)⟩
 ints:=by kernel_rfl
 ints1:=by kernel_rfl
 ev:=⟨_,Tryz.underlying49,rfl⟩
 ev5:=by kernel_rfl
 evs:=by kernel_rfl
 evs1:=by kernel_rfl
 file:=⟨_,Tryz.underlying24,rfl⟩
 file7:=by kernel_rfl
theorem und57:Tryz.prog.underlying 36=some (.int .u16):=by kernel_rfl
theorem und5:Tryz.prog.underlying 5=some (.int .u8):=by kernel_rfl
theorem wf_u16{n:Int}(h:(Lit.int .u16 n).wf=true):0<=n/\n<=65535:=by simpa[Lit.wf,IntKind.min,IntKind.max,IntKind.signed,IntKind.bits] using h
theorem wf_u8{n:Int}(h:(Lit.int .u8 n).wf=true):0<=n/\n<=255:=by simpa[Lit.wf,IntKind.min,IntKind.max,IntKind.signed,IntKind.bits] using h
def kindsN : String := "touchmark/treaty.kinds"
def boundN : String := "touchmark/treaty.bound"
theorem gKinds:Tryz.prog.globalNamed kindsN=some 0:=by kernel_rfl
theorem gBound:Tryz.prog.globalNamed boundN=some 2:=by kernel_rfl
theorem tKinds:(Tryz.prog.globals[0]?).map (·.type)=some 130:=by kernel_rfl
theorem tBound:(Tryz.prog.globals[2]?).map (·.type)=some 127:=by kernel_rfl
theorem uses_of{H:Type}{enc:TypeId×Value->H}{W:World}{sp:Nat->Bool}{held:Bool}{fuel:Nat}{cs:List Value}{x:DataW H×List MemPlace}{a b:Bool}(h:DataW.trod enc Tryz.prog W 0 sp held fuel 127 cs=some x)(hx:x.1=.agg [.lit (.bool a),.lit (.bool b)]):cs=[.bool a,.bool b]:=by
 obtain⟨ys,n,_,rfl,hl,hlen,hf⟩:=DataW.trod_struct Tryz.underlying127 h;rw[show Tryz.prog.cellsOf 127=2 by kernel_rfl]at hl
 match cs,hl,ys,hlen with
 | [v0,v1],_,[y0,y1],_ =>
  have h0:DataW.trod enc Tryz.prog W 0 sp held n 4 (([v0,v1].drop 0).take (Tryz.prog.cellsOf 4))=some y0:=hf 0 _ rfl;have h1:DataW.trod enc Tryz.prog W 0 sp held n 4 (([v0,v1].drop 1).take (Tryz.prog.cellsOf 4))=some y1:=hf 1 _ rfl;rw[show Tryz.prog.cellsOf 4=1 by kernel_rfl]at h0 h1;obtain⟨b0,e0,g0⟩:=DataW.trod_bool Tryz.underlying4 h0;obtain⟨b1,e1,g1⟩:=DataW.trod_bool Tryz.underlying4 h1;simp at e0 e1;simp[g0,g1]at hx;rw[e0,e1,hx.1,hx.2]
theorem kind_of{W:World}{sp:Nat->Bool}{fuel:Nat}{cs:List Value}{x:DataW (List UInt8)×List MemPlace}{s:List UInt8}{a b:Bool}{c:UInt8}{r:List UInt8}{f0:FuncId}(hone:((List.range Tryz.prog.funcs.size).filter fun f=>(Tryz.prog.funcs[f]?).any (·.name.toUTF8.data.toList==c::r))=[f0])
 (h:DataW.trod (funcToken Tryz.prog) Tryz.prog W 0 sp true fuel 129 cs=some x)(hx:x.1=.agg [.lit (.string s),.agg [.lit (.bool a),.lit (.bool b)],.held (c::r)]):∃ v0,cs=[v0,.bool a,.bool b,.func (.func f0) #[] #[]]:=by
 obtain⟨ys,n,_,rfl,hl,hlen,hf⟩:=DataW.trod_struct Tryz.underlying129 h;rw[show Tryz.prog.cellsOf 129=4 by kernel_rfl]at hl
 match cs,hl,ys,hlen with
 | [v0,v1,v2,v3],_,[y0,y1,y2],_ =>
  have h1:DataW.trod (funcToken Tryz.prog) Tryz.prog W 0 sp true n 127 (([v0,v1,v2,v3].drop 1).take (Tryz.prog.cellsOf 127))=some y1:=hf 1 _ rfl;have h2:DataW.trod (funcToken Tryz.prog) Tryz.prog W 0 sp true n 42 (([v0,v1,v2,v3].drop 3).take (Tryz.prog.cellsOf 42))=some y2:=hf 2 _ rfl;rw[show Tryz.prog.cellsOf 127=2 by kernel_rfl]at h1;rw[show Tryz.prog.cellsOf 42=1 by kernel_rfl]at h2;simp only[List.map_cons,List.map_nil,DataW.agg.injEq,List.cons.injEq,and_true]at hx;obtain⟨_,hx1,hx2⟩:=hx;obtain⟨d1,q1⟩:=y1;obtain⟨d2,q2⟩:=y2;simp only at hx1 hx2;subst hx1;subst hx2;have e1:=uses_of h1 rfl;simp at e1;rw[e1.1,e1.2];refine⟨v0,?_⟩;have e2:v3=.func (.func f0) #[] #[]:=Go.func_of_trod (P:=Tryz.prog) Tryz.underlying42 hone h2;rw[e2]
theorem yes_one:((List.range Tryz.prog.funcs.size).filter fun f=>(Tryz.prog.funcs[f]?).any (·.name.toUTF8.data.toList==[116,111,117,99,104,109,97,114,107,47,116,114,101,97,116,121,46,121,101,115]))=[173]:=by kernel_rfl
theorem no_one:((List.range Tryz.prog.funcs.size).filter fun f=>(Tryz.prog.funcs[f]?).any (·.name.toUTF8.data.toList==[116,111,117,99,104,109,97,114,107,47,116,114,101,97,116,121,46,110,111]))=[174]:=by kernel_rfl
theorem array7{α:Type}:∀ {l:List α},l.length=7->∃ a b c d e f g,l=[a,b,c,d,e,f,g]
 | [a,b,c,d,e,f,g],_=>⟨a,b,c,d,e,f,g,rfl⟩
theorem four_cells{cs:List Value}{i:Nat}{v0 v1 v2 v3:Value}(h:(cs.drop (i*4)).take 4=[v0,v1,v2,v3]):cs[i*4+1]?=some v1/\cs[i*4+2]?=some v2/\cs[i*4+3]?=some v3:=by
 have key:∀ j,j<4->cs[i*4+j]?=[v0,v1,v2,v3][j]?:=by
  intro j hj;rw[<- h,List.getElem?_take,if_pos hj,List.getElem?_drop]
 exact⟨key 1 (by omega),key 2 (by omega),key 3 (by omega)⟩
theorem laid_at{P:Program}{w:World}{n:String}{d:DataW Unit}:∀ {l:List (String×DataW Unit)} {ps:List MemPlace},DataW.LaidVars P w l ps->(n,d)∈l->∃ g t cs fuel p,P.globalNamed n=some g/\(P.globals[g]?).map (·.type)=some t/\w.var? P n=some cs/\DataW.trod (fun _=>()) P w 0 (fun _=>true) false fuel t cs.toList=some (d,p)
 | [],_,_,h=>by simp at h
 | (m,e)::r,ps,h,hm=>by
  obtain⟨g,t,cs,fuel,p,q,h1,h2,h3,h4,h5,_⟩:=h;rcases List.mem_cons.1 hm with h6|h6
  ·cases h6;exact⟨g,t,cs,fuel,p,h1,h2,h3,h4⟩
  ·exact laid_at h5 h6
theorem kinds_of_laid{l:List (String×DataW Unit)}{W:World}(h:laidMetH Tryz.prog l W)(hk:(kindsN,Rows.laid_touchmark_treaty_kinds)∈l)(hbm:(boundN,Rows.laid_touchmark_treaty_bound)∈l):Kinds (getW W):=by
 obtain⟨g,t,cs,fuel,p,hg,ht,hv,hd⟩:=laidMetH.funcs h (n:=kindsN) hk;obtain rfl:=Option.some.inj (gKinds.symm.trans hg);obtain rfl:=Option.some.inj (tKinds.symm.trans ht);obtain⟨xs,m,_,hx,hl,hn,hel⟩:=DataW.trod_array Tryz.underlying130 hd;have hcell:∀ j:Nat,W.cell? ⟨0,j,none⟩=cs[j]?:=World.var?_cell gKinds hv;obtain⟨x0,x1,x2,x3,x4,x5,x6,rfl⟩:=array7 hn;have e4:Tryz.prog.cellsOf 129=4:=by kernel_rfl
 simp only[Prod.mk.injEq]at hx;obtain⟨hx,_⟩:=hx;simp only[DataW.funcsOut,DataW.funcsOutAll,List.map_cons,List.map_nil,DataW.agg.injEq,List.cons.injEq,beq_self_eq_true,if_true,and_true]at hx;obtain⟨g0,g1,g2,g3,g4,g5,g6⟩:=hx;rw[e4]at hel;have key:∀ i,i<7->∃ v0,(cs.toList.drop (i*4)).take 4=[v0,.bool (landK i),.bool (sinceK i),.func (.func (if givesK i then 173 else 174)) #[] #[]]:=by
  intro i hi;have hi':=hel i hi
  match i,hi with
  | 0,_=>exact kind_of yes_one hi' g0.symm
  | 1,_=>exact kind_of no_one hi' g1.symm
  | 2,_=>exact kind_of yes_one hi' g2.symm
  | 3,_=>exact kind_of no_one hi' g3.symm
  | 4,_=>exact kind_of no_one hi' g4.symm
  | 5,_=>exact kind_of yes_one hi' g5.symm
  | 6,_=>exact kind_of no_one hi' g6.symm
 have cell:∀ i,i<7->cs[i*4+1]?=some (.bool (landK i))/\cs[i*4+2]?=some (.bool (sinceK i))/\cs[i*4+3]?=some (.func (.func (if givesK i then 173 else 174)) #[] #[]):=by
  intro i hi;obtain⟨v0,h0⟩:=key i hi;have:=four_cells h0;simpa using this
 obtain⟨ps,hL,_⟩:=(laidMetH_iff.1 h).1;obtain⟨g',t',cs',fuel',p',hg',ht',hv',hd'⟩:=laid_at hL (List.mem_filter.2 ⟨hbm,rfl⟩);obtain rfl:=Option.some.inj (gBound.symm.trans hg');obtain rfl:=Option.some.inj (tBound.symm.trans ht');have hb:=uses_of hd' rfl;have hcell':∀ j:Nat,W.cell? ⟨2,j,none⟩=cs'[j]?:=World.var?_cell gBound hv';have hb':∀ j:Nat,cs'[j]?=[Value.bool true,.bool false][j]?:=fun j=>by rw[<- hb];simp
 exact⟨fun i hi=>getW_cell (by rw[hcell];exact(cell i hi).1),fun i hi=>getW_cell (by rw[hcell];exact(cell i hi).2.1),fun i hi=>getW_cell (by rw[hcell];exact(cell i hi).2.2),getW_cell (by rw[hcell',hb'];rfl),getW_cell (by rw[hcell',hb'];rfl)⟩
def noTreaty:Value:=.agg #[.int .i64 0,.int .i64 0,.int .i64 0,.int .i64 0,.int .i64 0,.int .i64 0,.slice none 0 0]
end Go.Y.Tre
end
section
namespace Go.TM.Ow
structure Deed where
 name:ByteArray
 kind:Int
 right:Int
 from_:Int
 to:Int
 lands:List Int
 first:Int
 last:Int
structure Right where
 name:ByteArray
 owner:Int
 day:Int
 lands:List Int
structure Book where
 owners:List ByteArray
 lands:List ByteArray
 rights:List Right
 deeds:List Deed
/-! ### The order of deeds -/
theorem less_irrefl:∀ l:List UInt8,Op.bytesLess l l=false
 | []=>rfl
 | a::l=>by
  have h:¬ a<a:=UInt8.lt_irrefl a;simp[Op.bytesLess,h,less_irrefl l]
theorem less_trans:∀ {a b c:List UInt8},Op.bytesLess a b=true->Op.bytesLess b c=true->Op.bytesLess a c=true
 | _,[],_,h,_=>by cases ‹List UInt8›<;>simp[Op.bytesLess]at h
 | _,_::_,[],_,h=>by simp[Op.bytesLess]at h
 | [],_::_,_::_,_,_=>rfl
 | a::x,b::y,c::z,h1,h2=>by
  simp only[Op.bytesLess,Bool.or_eq_true,decide_eq_true_eq,Bool.and_eq_true,beq_iff_eq]at h1 h2 ⊢;rcases h1 with h1|⟨rfl,h1⟩
  ·rcases h2 with h2|⟨rfl,h2⟩
   ·exact .inl (UInt8.lt_trans h1 h2)
   ·exact .inl h1
  ·rcases h2 with h2|⟨rfl,h2⟩
   ·exact .inl h2
   ·exact .inr ⟨rfl,less_trans h1 h2⟩
theorem less_tri:∀ {a b:List UInt8},a≠b->Op.bytesLess a b=true\/Op.bytesLess b a=true
 | [],[],h=>absurd rfl h
 | [],_::_,_=>.inl rfl
 | _::_,[],_=>.inr rfl
 | a::x,b::y,h=>by
  simp only[Op.bytesLess,Bool.or_eq_true,decide_eq_true_eq,Bool.and_eq_true,beq_iff_eq];by_cases e:a=b
  ·subst e;rcases less_tri (a:=x) (b:=y) (fun e=>h (by rw[e])) with h1|h1
   ·exact .inl (.inr ⟨rfl,h1⟩)
   ·exact .inr (.inr ⟨rfl,h1⟩)
  ·rcases Nat.lt_or_gt_of_ne (fun e'=>e (UInt8.toNat_inj.1 e')) with h1|h1
   ·exact .inl (.inl (UInt8.lt_iff_toNat_lt.2 h1))
   ·exact .inr (.inl (UInt8.lt_iff_toNat_lt.2 h1))
def Before(x y:Deed):Prop:=x.first<y.first\/(x.first=y.first/\Op.bytesLess x.name.toList y.name.toList=true)
theorem Before.trans{x y z:Deed}(h1:Before x y)(h2:Before y z):Before x z:=by
 rcases h1 with h1|⟨e1,h1⟩
 ·rcases h2 with h2|⟨e2,h2⟩
  ·exact .inl (by omega)
  ·exact .inl (by omega)
 ·rcases h2 with h2|⟨e2,h2⟩
  ·exact .inl (by omega)
  ·exact .inr ⟨by omega,less_trans h1 h2⟩
theorem Before.irrefl(x:Deed):¬ Before x x:=by
 rintro(h|⟨_,h⟩)
 ·omega
 ·rw[less_irrefl]at h;cases h
theorem order_unique:∀ {a b:List Deed},a.Perm b->a.Pairwise Before->b.Pairwise Before->a=b
 | [],b,p,_,_=>(List.eq_nil_of_length_eq_zero (by simpa using p.length_eq.symm)).symm
 | x::a,[],p,_,_=>by simp at p
 | x::a,z::b,p,ha,hb=>by
  have h1:x∈z::b:=p.mem_iff.1 (by simp);have h2:z∈x::a:=p.mem_iff.2 (by simp);rw[List.pairwise_cons]at ha hb;have e:x=z:=by
   rcases List.mem_cons.1 h1 with e|h1
   ·exact e
   ·rcases List.mem_cons.1 h2 with e|h2
    ·exact e.symm
    ·exact absurd ((ha.1 z h2).trans (hb.1 x h1)) (Before.irrefl x)
  subst e;rw[order_unique (List.Perm.cons_inv p) ha.2 hb.2]
def inOrder(l:List Deed):List Deed:=by
 classical exact if h:∃ s:List Deed,s.Perm l/\s.Pairwise Before then h.choose else []
theorem inOrder_is{l s:List Deed}(h1:s.Perm l)(h2:s.Pairwise Before):s=inOrder l:=by
 have hex:∃ s:List Deed,s.Perm l/\s.Pairwise Before:=⟨s,h1,h2⟩
 unfold inOrder;rw[dif_pos hex];exact order_unique (h1.trans hex.choose_spec.1.symm) h2 hex.choose_spec.2
theorem inOrder_perm{a b:List Deed}(h:a.Perm b):inOrder a=inOrder b:=by
 by_cases hex:∃ s:List Deed,s.Perm a/\s.Pairwise Before
 ·obtain⟨s,h1,h2⟩:=hex;rw[<- inOrder_is h1 h2,<- inOrder_is (h1.trans h) h2]
 ·have hex':¬ ∃ s:List Deed,s.Perm b/\s.Pairwise Before:=fun ⟨s,h1,h2⟩=>hex ⟨s,h1.trans h.symm,h2⟩;unfold inOrder;rw[dif_neg hex,dif_neg hex']
def upTo(deeds:List Deed)(day:Int):List Deed:=inOrder (deeds.filter fun d=>decide (d.first<=day))
theorem upTo_is{deeds s:List Deed}{day:Int}(h1:s.Perm (deeds.filter fun d=>decide (d.first<=day)))(h2:s.Pairwise Before):s=upTo deeds day:=inOrder_is h1 h2
theorem upTo_take{deeds s:List Deed}{day:Int}(h1:s.Perm deeds)(h2:s.Pairwise Before):s.takeWhile (fun d=>decide (d.first<=day))=upTo deeds day:=by
 have key:∀ s:List Deed,s.Pairwise Before->s.takeWhile (fun d=>decide (d.first<=day))=s.filter fun d=>decide (d.first<=day):=by
  intro s hs
  induction s with
  | nil=>rfl
  | cons x s ih =>
   rw[List.pairwise_cons]at hs;by_cases e:x.first<=day
   ·rw[List.takeWhile_cons_of_pos (by simpa using e),List.filter_cons_of_pos (by simpa using e),ih hs.2]
   ·rw[List.takeWhile_cons_of_neg (by simpa using e),List.filter_cons_of_neg (by simpa using e)];symm;rw[List.filter_eq_nil_iff];intro y hy;rcases hs.1 y hy with h|⟨h,_⟩<;>simp<;>omega
 rw[key s h2];exact upTo_is (h1.filter _) (h2.sublist List.filter_sublist)
theorem upTo_perm{a b:List Deed}{day:Int}(h:a.Perm b):upTo a day=upTo b day:=inOrder_perm (h.filter _)
theorem upTo_more{a:List Deed}{d:Deed}{day:Int}(h:day<d.first):upTo (a++[d]) day=upTo a day:=by
 unfold upTo;have e:(a++[d]).filter (fun d=>decide (d.first<=day))=a.filter fun d=>decide (d.first<=day):=by
  rw[List.filter_append];have:¬ d.first<=day:=by omega
  simp[this]
 rw[e]
abbrev Piece:=Int×Int
structure St where
 owns:Piece->Option Int
 pledge:Piece->Option Deed
 root:Nat->Nat
 begun:Nat->Bool
def St.start:St:=⟨fun _=>none,fun _=>none,id,fun _=>false⟩
def St.rootI(s:St)(n:Int):Int:=(s.root n.toNat:Int)
def St.pass(s:St)(p:Piece)(to:Int):St:={ s with owns:=fun q=>if q=p then some to else s.owns q }
def St.land(s:St)(i:Nat)(owner:Int)(l:Int):St:=s.pass ((i:Int),l) (s.rootI owner)
def St.beginOne(day:Int)(s:St)(i:Nat)(r:Right):St :=
 if s.begun i||decide (r.day>day) then s else r.lands.foldl (fun s l=>s.land i r.owner l) { s with begun:=fun k=>if k=i then true else s.begun k }
def St.beginFrom(day:Int):Nat->List Right->St->St
 | _,[],s=>s
 | i,r::l,s=>St.beginFrom day (i+1) l (s.beginOne day i r)
def St.whole(s:St)(d:Deed)(p:Piece):Bool:=by
 classical exact decide (∃ o,s.owns p=some o/\0<=o/\s.rootI d.from_≠s.rootI d.to/\o=s.rootI d.from_/\∀ e,s.pledge p=some e->d.first<=e.last->d.kind≠2/\s.rootI e.to=s.rootI d.to)
def St.each(d:Deed)(f:St->Piece->St)(s:St):List Int->St
 | []=>s
 | l::r=>St.each d f (if s.whole d (d.right,l) then f s (d.right,l) else s) r
def St.give(s:St)(d:Deed):St:=St.each d (fun s p=>s.pass p (s.rootI d.to)) s d.lands
def St.hold(s:St)(d:Deed):St:=St.each d (fun s p=>{ s with pledge:=fun q=>if q=p then some d else s.pledge q }) s d.lands
def St.merge(nr nl:Nat)(s:St)(d:Deed):St :=
  if s.rootI d.from_ = s.rootI d.to then s else
    { s with owns := fun p => if s.owns p = some (s.rootI d.from_) /\ (0 <= p.1 /\ p.1 < nr) /\ (0 <= p.2 /\ p.2 < nl) then some (s.rootI d.to) else s.owns p,
             root := fun i => if s.root i = s.root d.from_.toNat then s.root d.to.toNat else s.root i }
def St.act(nr nl:Nat)(s:St)(d:Deed):St:=if d.kind=0 then s.give d else if d.kind=1 then s.merge nr nl d else if d.kind=2 then s.hold d else s
def St.deed(rights:List Right)(nl:Nat)(s:St)(d:Deed):St:=St.act rights.length nl (St.beginFrom d.first 0 rights s) d
def after(b:Book)(day:Int):St:=St.beginFrom day 0 b.rights ((upTo b.deeds day).foldl (St.deed b.rights b.lands.length) St.start)
def ownerF(b:Book)(right land day:Int):Int:=((after b day).owns (right,land)).getD (-1)
theorem owner_perm{b o:Book}(hr:o.rights=b.rights)(hl:o.lands=b.lands){day:Int}(h:upTo o.deeds day=upTo b.deeds day)(r l:Int):ownerF o r l day=ownerF b r l day:=by
 unfold ownerF after;rw[h,hr,hl]
end Go.TM.Ow
end
namespace Go.TM
section
def letterB(c:UInt8):Bool:=decide (97<=c.toNat)&&decide (c.toNat<=122)
def digitB(c:UInt8):Bool:=decide (48<=c.toNat)&&decide (c.toNat<=57)
structure NameOk(s:ByteArray):Prop where
 size:1<=s.size/\s.size<=10
 all:∀ (i:Nat) c,s.data[i]?=some c->letterB c=true\/(digitB c=true/\i≠0)
section
variable {H:Type} {enc:TypeId×Value->H} {P:Program} {W:World} {base:Nat} {sp:Nat->Bool} {held:Bool} {fuel:Nat} {t:TypeId} {cs:List Value} {x:DataW H×List MemPlace}
variable {tI tS tItem tItems tEd tEds tMv tMvs tKn tKns tTab:TypeId}
end
end
section
open Go.TM.Ow (Deed Right Book)
def StrE(h:Cells)(a:Addr)(s:ByteArray):Prop:=h.cell? (a.add 0)=some (.string s)
theorem StrE.grow:Grow StrE:=fun _ _ _ _ hl h=>hl _ _ h
def RightE(h:Cells)(a:Addr)(x:Right):Prop:=h.cell? (a.add 0)=some (.string x.name)/\h.cell? (a.add 1)=some (.int .i64 x.owner)/\h.cell? (a.add 2)=some (.int .i64 x.day)/\∃ q n c,h.cell? (a.add 3)=some (.slice q n c)/\Sl IntE 1 h q n x.lands
theorem RightE.grow:Grow RightE:=fun _ _ _ _ hl h=>by
 obtain⟨h1,h2,h3,q,n,c,h4,h5⟩:=h;exact⟨hl _ _ h1,hl _ _ h2,hl _ _ h3,q,n,c,hl _ _ h4,h5.rd IntE.grow hl⟩
def DeedE(h:Cells)(a:Addr)(x:Deed):Prop:=h.cell? (a.add 0)=some (.string x.name)/\h.cell? (a.add 1)=some (.int .i64 x.kind)/\h.cell? (a.add 2)=some (.int .i64 x.right)/\h.cell? (a.add 3)=some (.int .i64 x.from_)/\h.cell? (a.add 4)=some (.int .i64 x.to) /\
 (∃ q n c,h.cell? (a.add 5)=some (.slice q n c)/\Sl IntE 1 h q n x.lands)/\h.cell? (a.add 6)=some (.int .i64 x.first)/\h.cell? (a.add 7)=some (.int .i64 x.last)
theorem DeedE.grow:Grow DeedE:=fun _ _ _ _ hl h=>by
 obtain⟨h1,h2,h3,h4,h5,⟨q,n,c,h6,h7⟩,h8,h9⟩:=h;exact⟨hl _ _ h1,hl _ _ h2,hl _ _ h3,hl _ _ h4,hl _ _ h5,⟨q,n,c,hl _ _ h6,h7.rd IntE.grow hl⟩,hl _ _ h8,hl _ _ h9⟩
structure BookC where
 p0:Option Addr
 n0:Nat
 c0:Nat
 p1:Option Addr
 n1:Nat
 c1:Nat
 p2:Option Addr
 n2:Nat
 c2:Nat
 p3:Option Addr
 n3:Nat
 c3:Nat
def bookV(f:BookC):Value:=.agg #[.slice f.p0 f.n0 f.c0,.slice f.p1 f.n1 f.c1,.slice f.p2 f.n2 f.c2,.slice f.p3 f.n3 f.c3]
structure BookR(h:Cells)(f:BookC)(x:Book):Prop where
 owners:Sl StrE 1 h f.p0 f.n0 x.owners
 lands:Sl StrE 1 h f.p1 f.n1 x.lands
 rights:Sl RightE 4 h f.p2 f.n2 x.rights
 deeds:Sl DeedE 8 h f.p3 f.n3 x.deeds
 cap:f.n0<=f.c0/\f.n1<=f.c1
theorem BookR.rd{h h':Cells}{f:BookC}{x:Book}(hl:Rd h h')(r:BookR h f x):BookR h' f x:=⟨r.owners.rd StrE.grow hl,r.lands.rd StrE.grow hl,r.rights.rd RightE.grow hl,r.deeds.rd DeedE.grow hl,r.cap⟩
theorem BookR.le{h h':Cells}{f:BookC}{x:Book}(hl:h.le h')(r:BookR h f x):BookR h' f x:=r.rd (Rd.of_le hl)
def deedV(d:Deed)(q:Option Addr)(n c:Nat):Value:=.agg #[.string d.name,.int .i64 d.kind,.int .i64 d.right,.int .i64 d.from_,.int .i64 d.to,.slice q n c,.int .i64 d.first,.int .i64 d.last]
/-! ### Books without a flaw -/
def LandsOk(nl:Nat)(l:List Int):Prop:=∀ (i:Nat) v,l[i]?=some v->(0<=v/\v<=(nl:Int)-1)/\∀ u,0<i->l[i-1]?=some u->u<v
def TitleDay(n:Int):Prop:=0<=n/\n<=99999
structure NamesOk(l:List ByteArray)(most:Nat):Prop where
 many:l.length<=most
 name:∀ s∈l,NameOk s
 once:l.Nodup
structure RightOk(no nl:Nat)(x:Right):Prop where
 name:NameOk x.name
 owner:0<=x.owner/\x.owner<=(no:Int)-1
 day:TitleDay x.day
 lands:LandsOk nl x.lands
structure DeedOk(no nl nr:Nat)(x:Deed):Prop where
 name:NameOk x.name
 kind:0<=x.kind/\x.kind<=3
 from_:0<=x.from_/\x.from_<=(no:Int)-1
 to:0<=x.to/\x.to<=(no:Int)-1
 two:x.from_≠x.to
 merge:x.kind=1->x.right=0/\x.lands=[]
 about:x.kind≠1->(0<=x.right/\x.right<=(nr:Int)-1)/\x.lands≠[]/\LandsOk nl x.lands
 days:0<=x.first/\x.first<=x.last/\x.last<=99999
 once:x.kind=0\/x.kind=1->x.first=x.last
structure BookOk(x:Book):Prop where
 owners:NamesOk x.owners 6
 lands:NamesOk x.lands 4
 rights3:x.rights.length<=3
 right:∀ r∈x.rights,RightOk x.owners.length x.lands.length r
 rightOnce:(x.rights.map (·.name)).Nodup
 deeds8:x.deeds.length<=8
 deed:∀ d∈x.deeds,DeedOk x.owners.length x.lands.length x.rights.length d
 deedOnce:(x.deeds.map (·.name)).Nodup
theorem BookOk.perm{x y:Book}(o:BookOk x)(h1:y.owners=x.owners)(h2:y.lands=x.lands)(h3:y.rights=x.rights)(h4:y.deeds.Perm x.deeds):BookOk y :=
 ⟨by rw[h1];exact o.owners,by rw[h2];exact o.lands,by rw[h3];exact o.rights3,by rw[h1,h2,h3];exact o.right,by rw[h3];exact o.rightOnce,by rw[h4.length_eq];exact o.deeds8,
  fun d hd=>by rw[h1,h2,h3];exact o.deed d (h4.mem_iff.1 hd),(h4.map _).nodup_iff.2 o.deedOnce⟩
/-! ### From a row's condition -/
structure OwnTy(P:Program)(tI tK tS tSs tIs tSpan tRight tRights tDeed tDeeds tBook:TypeId):Prop where
 kind:P.underlying tK=some (.int .i64)
 kind1:P.cellsOf tK=1
 int:P.underlying tI=some (.int .i64)
 int1:P.cellsOf tI=1
 str:P.underlying tS=some .string
 str1:P.cellsOf tS=1
 bytes:0<P.bytesOf tS/\0<P.bytesOf tI/\0<P.bytesOf tRight/\0<P.bytesOf tDeed
 strs:P.underlying tSs=some (.slice tS)
 strs1:P.cellsOf tSs=1
 ints:P.underlying tIs=some (.slice tI)
 ints1:P.cellsOf tIs=1
 span:FieldsAre P tSpan [(tI,0),(tI,1)]
 span2:P.cellsOf tSpan=2
 right:FieldsAre P tRight [(tS,0),(tI,1),(tI,2),(tIs,3)]
 right4:P.cellsOf tRight=4
 rights:P.underlying tRights=some (.slice tRight)
 rights1:P.cellsOf tRights=1
 deed:FieldsAre P tDeed [(tS,0),(tK,1),(tI,2),(tI,3),(tI,4),(tIs,5),(tSpan,6)]
 deed8:P.cellsOf tDeed=8
 deeds:P.underlying tDeeds=some (.slice tDeed)
 deeds1:P.cellsOf tDeeds=1
 book:FieldsAre P tBook [(tSs,0),(tSs,1),(tRights,2),(tDeeds,3)]
 book4:P.cellsOf tBook=4
theorem list8{α:Type}:∀ {l:List α},l.length=8->∃ c0 c1 c2 c3 c4 c5 c6 c7,l=[c0,c1,c2,c3,c4,c5,c6,c7]
 | [c0,c1,c2,c3,c4,c5,c6,c7],_=>⟨_,_,_,_,_,_,_,_,rfl⟩
section
variable {H:Type} {enc:TypeId×Value->H} {P:Program} {W:World} {base:Nat} {sp:Nat->Bool} {held:Bool} {fuel:Nat} {t:TypeId} {cs:List Value} {x:DataW H×List MemPlace}
variable {tI tK tS tSs tIs tSpan tRight tRights tDeed tDeeds tBook:TypeId}
theorem ow_ints(D:OwnTy P tI tK tS tSs tIs tSpan tRight tRights tDeed tDeeds tBook)(hz:Light P tIs x.1)(h:DataW.trod enc P W base sp held fuel tIs cs=some x):∃ p n c l,cs=[.slice p n c]/\Sl IntE 1 (getW W) p n l:=by
 refine sl_of_trod D.ints D.int1 D.bytes.2.1 hz ?_ h;intro n a cs y _ hc hy _;obtain⟨z,rfl,_,_⟩:=DataW.trod_int D.int hy;exact⟨z,hc 0 _ rfl⟩
theorem ow_strs(D:OwnTy P tI tK tS tSs tIs tSpan tRight tRights tDeed tDeeds tBook)(hz:Light P tSs x.1)(h:DataW.trod enc P W base sp held fuel tSs cs=some x):∃ p n c l,cs=[.slice p n c]/\n<=c/\Sl StrE 1 (getW W) p n l:=by
 refine sl_of_trodR D.strs D.str1 D.bytes.1 hz ?_ h;intro n a cs y _ hc hy _;obtain⟨z,rfl,_⟩:=DataW.trod_string D.str hy;exact⟨z,hc 0 _ rfl⟩
theorem ow_span(D:OwnTy P tI tK tS tSs tIs tSpan tRight tRights tDeed tDeeds tBook)(hz:Light P tSpan x.1)(h:DataW.trod enc P W base sp held fuel tSpan cs=some x):∃ a b,cs=[.int .i64 a,.int .i64 b]:=by
 obtain⟨hl,n,hf⟩:=field_of D.span hz h;rw[D.span2]at hl
 match cs,hl with
 | [c0,c1],_ =>
  obtain⟨y,h0,_⟩:=hf 0 tI 0 rfl;obtain⟨y1,h1,_⟩:=hf 1 tI 1 rfl;rw[D.int1]at h0 h1;obtain⟨a,e0,_,_⟩:=DataW.trod_int D.int h0;obtain⟨b,e1,_,_⟩:=DataW.trod_int D.int h1;simp at e0 e1;exact⟨a,b,by rw[e0,e1]⟩
theorem ow_rights(D:OwnTy P tI tK tS tSs tIs tSpan tRight tRights tDeed tDeeds tBook)(hz:Light P tRights x.1)(h:DataW.trod enc P W base sp held fuel tRights cs=some x):∃ p n c l,cs=[.slice p n c]/\Sl RightE 4 (getW W) p n l:=by
 refine sl_of_trod D.rights D.right4 D.bytes.2.2.1 hz ?_ h;intro n a cs y hl hc hy hz;obtain⟨_,m,hf⟩:=field_of D.right hz hy
 match cs,hl with
 | [c0,c1,c2,c3],_ =>
  obtain⟨y0,h0,_⟩:=hf 0 tS 0 rfl;obtain⟨y1,h1,_⟩:=hf 1 tI 1 rfl;obtain⟨y2,h2,_⟩:=hf 2 tI 2 rfl;obtain⟨y3,h3,zh3⟩:=hf 3 tIs 3 rfl;rw[D.str1]at h0;rw[D.int1]at h1 h2;rw[D.ints1]at h3;obtain⟨s,e0,_⟩:=DataW.trod_string D.str h0;obtain⟨u,e1,_,_⟩:=DataW.trod_int D.int h1;obtain⟨v,e2,_,_⟩:=DataW.trod_int D.int h2;obtain⟨p,k,c,l,e3,sl⟩:=ow_ints D zh3 h3;simp at e0 e1 e2 e3;subst e0;subst e1;subst e2;subst e3;exact⟨⟨s,u,v,l⟩,hc 0 _ rfl,hc 1 _ rfl,hc 2 _ rfl,p,k,c,hc 3 _ rfl,sl⟩
theorem ow_deed(D:OwnTy P tI tK tS tSs tIs tSpan tRight tRights tDeed tDeeds tBook)(hz:Light P tDeed x.1)(h:DataW.trod enc P W base sp held fuel tDeed cs=some x) :
  ∃ (q:Option Addr) (n c:Nat) (y:Deed),cs=[.string y.name,.int .i64 y.kind,.int .i64 y.right,.int .i64 y.from_,.int .i64 y.to,.slice q n c,.int .i64 y.first,.int .i64 y.last]/\Sl IntE 1 (getW W) q n y.lands:=by
 obtain⟨hl,m,hf⟩:=field_of D.deed hz h;rw[D.deed8]at hl;obtain⟨c0,c1,c2,c3,c4,c5,c6,c7,rfl⟩:=list8 hl;obtain⟨y0,h0,_⟩:=hf 0 tS 0 rfl;obtain⟨y1,h1,_⟩:=hf 1 tK 1 rfl;obtain⟨y2,h2,_⟩:=hf 2 tI 2 rfl;obtain⟨y3,h3,_⟩:=hf 3 tI 3 rfl;obtain⟨y4,h4,_⟩:=hf 4 tI 4 rfl;obtain⟨y5,h5,zh5⟩:=hf 5 tIs 5 rfl;obtain⟨y6,h6,zh6⟩:=hf 6 tSpan 6 rfl;rw[D.str1]at h0;rw[D.kind1]at h1;rw[D.int1]at h2 h3 h4;rw[D.ints1]at h5;rw[D.span2]at h6;obtain⟨s,e0,_⟩:=DataW.trod_string D.str h0;obtain⟨a1,e1,_,_⟩:=DataW.trod_int D.kind h1;obtain⟨a2,e2,_,_⟩:=DataW.trod_int D.int h2;obtain⟨a3,e3,_,_⟩:=DataW.trod_int D.int h3;obtain⟨a4,e4,_,_⟩:=DataW.trod_int D.int h4;obtain⟨p,k,c,l,e5,sl⟩:=ow_ints D zh5 h5;obtain⟨a6,a7,e6⟩:=ow_span D zh6 h6;simp at e0 e1 e2 e3 e4 e5 e6;obtain⟨rfl,rfl⟩:=e6;subst e0;subst e1;subst e2;subst e3;subst e4;subst e5;exact⟨p,k,c,⟨s,a1,a2,a3,a4,l,a6,a7⟩,rfl,sl⟩
theorem ow_deeds(D:OwnTy P tI tK tS tSs tIs tSpan tRight tRights tDeed tDeeds tBook)(hz:Light P tDeeds x.1)(h:DataW.trod enc P W base sp held fuel tDeeds cs=some x):∃ p n c l,cs=[.slice p n c]/\Sl DeedE 8 (getW W) p n l:=by
 refine sl_of_trod D.deeds D.deed8 D.bytes.2.2.2 hz ?_ h;intro n a cs y hl hc hy hz;obtain⟨q,k,c,d,rfl,sl⟩:=ow_deed D hz hy;exact⟨d,hc 0 _ rfl,hc 1 _ rfl,hc 2 _ rfl,hc 3 _ rfl,hc 4 _ rfl,⟨q,k,c,hc 5 _ rfl,sl⟩,hc 6 _ rfl,hc 7 _ rfl⟩
theorem deed_arg(D:OwnTy P tI tK tS tSs tIs tSpan tRight tRights tDeed tDeeds tBook){r:Reach}{b0:Nat}{v:Value}{d:DataW H}{ps:List MemPlace}
 (hv:Value.okWide P W r b0 tDeed v)(hz:Light P tDeed d)(h:DataW.Trod enc P W base sp held tDeed v d ps):∃ q n c y,v=deedV y q n c/\Sl IntE 1 (getW W) q n y.lands:=by
 obtain⟨fs,hu,_⟩:=D.deed;obtain⟨cs,rfl,_⟩:=WideShapes.okWide_struct hu hv;obtain⟨fuel,hf⟩:=h;obtain⟨q,n,c,y,e,hs⟩:=ow_deed D hz hf;exact⟨q,n,c,y,agg_of e,hs⟩
theorem book_arg(D:OwnTy P tI tK tS tSs tIs tSpan tRight tRights tDeed tDeeds tBook){r:Reach}{b0:Nat}{v:Value}{d:DataW H}{ps:List MemPlace}
 (hv:Value.okWide P W r b0 tBook v)(hz:Light P tBook d)(h:DataW.Trod enc P W base sp held tBook v d ps):∃ f y,v=bookV f/\BookR (getW W) f y:=by
 obtain⟨fs,hu,_⟩:=D.book;obtain⟨cs,rfl,_⟩:=WideShapes.okWide_struct hu hv;obtain⟨fuel,hf⟩:=h;obtain⟨hl,m,hg⟩:=field_of D.book hz hf;rw[D.book4]at hl;have hcs:∃ c0 c1 c2 c3,(Value.agg cs).cells.toList=[c0,c1,c2,c3]:=by
  match (Value.agg cs).cells.toList,hl with
  | [a,b,c,d],_=>exact⟨a,b,c,d,rfl⟩
 obtain⟨c0,c1,c2,c3,hc⟩:=hcs;rw[hc]at hg;obtain⟨y0,h0,zh0⟩:=hg 0 tSs 0 rfl;obtain⟨y1,h1,zh1⟩:=hg 1 tSs 1 rfl;obtain⟨y2,h2,zh2⟩:=hg 2 tRights 2 rfl;obtain⟨y3,h3,zh3⟩:=hg 3 tDeeds 3 rfl;rw[D.strs1]at h0 h1;rw[D.rights1]at h2;rw[D.deeds1]at h3;obtain⟨p0,n0,k0,l0,e0,cap0,s0⟩:=ow_strs D zh0 h0;obtain⟨p1,n1,k1,l1,e1,cap1,s1⟩:=ow_strs D zh1 h1;obtain⟨p2,n2,k2,l2,e2,s2⟩:=ow_rights D zh2 h2;obtain⟨p3,n3,k3,l3,e3,s3⟩:=ow_deeds D zh3 h3;simp at e0 e1 e2 e3;subst e0;subst e1;subst e2;subst e3;exact⟨⟨p0,n0,k0,p1,n1,k1,p2,n2,k2,p3,n3,k3⟩,⟨l0,l1,l2,l3⟩,agg_of hc,s0,s1,s2,s3,cap0,cap1⟩
end
end
section
variable {P:Program} {E:Halt->Cells->Prop}
theorem lwp_pure'{α:Type}{a:α}{Q:α->Cells->Prop}{h:Cells}:Sem.lwp P (Sem.pure a) Q E h=Q a h:=rfl
structure Keys(es:Array MapEntry)(c:Nat)(l:List Int):Prop where
 keys:es.toList.map (·.key)=l.map (Value.int .i64)
 nodup:l.Nodup
 born:(es.toList.map (·.born)).Nodup
 lt:∀ e∈es.toList,e.born<c
def MapOf(h:Cells)(m:Nat)(l:List Int):Prop:=∃ es c,h m=some (true,.map es c)/\Keys es c l
theorem Keys.nil:Keys #[] 0 []:=⟨rfl,List.nodup_nil,List.nodup_nil,fun e he=>by simp at he⟩
theorem Keys.isKey{es:Array MapEntry}{c:Nat}{l:List Int}(k:Keys es c l){kt:TypeId}(ht:isI64 P kt=true):∀ e∈es.toList,IsKey P kt e.key:=by
 intro e he;have:e.key∈es.toList.map (·.key):=List.mem_map.2 ⟨e,he,rfl⟩;rw[k.keys]at this;obtain⟨n,_,hn⟩:=List.mem_map.1 this;exact .inl ⟨ht,n,hn.symm⟩
variable {X:XP} {Q:Leaf->LH->Prop}
theorem t_putKey{h:LH}{K:Value->T}{t kt et:TypeId}{m:Nat}{l:List Int}{k:Int}{v:Value}(hu:P.underlying t=some (.map kt et))(ht:isI64 P kt=true)(hm:MapOf h.get m l)
 (hq:∀ es c l',(h.get.upd m (true,.map es c)) m=some (true,.map es c)->Keys es c l'->(∀ x,x∈l'↔x=k\/x∈l)->(K undef).wp X P Q { h with get:=h.get.upd m (true,.map es c) }):(T.sem false (Sem.bind (Instr.mapUpdate t (.map (some m)) (.int .i64 k) v) fun _=>pure (.tuple #[])) K).wp X P Q h:=by
 obtain⟨es,c,hmc,hK⟩:=hm;refine t_sem (A:=fun v h'=>v=undef/\(K undef).wp X P Q { h with get:=h' }) (Sem.lwp_bind _ _ ?_) (by rintro v h' ⟨rfl,hw⟩;exact hw);unfold Instr.mapUpdate;rw[lwp_bind,lwp_underlying hu];simp only[lwp_bind];refine⟨_,_,hmc,trivial,?_⟩;show Sem.lwp P (_ >>= _) _ _ _;rw[lwp_bind];have hkey:IsKey P kt (.int .i64 k):=.inl ⟨ht,k,rfl⟩;refine lwp_checkKey hkey ?_;rw[lwp_bind];refine lwp_findKey hkey (hK.isKey ht) (fun j e he hek=>?_) fun hno=>?_
 ·have he':es[j]?=some e:=by rw[<- Array.getElem?_toList];exact he
  simp only[lwp_bind,Instr.keyThatStays,he',Option.map_some,Option.getD_some,hek,sameBits_key hkey,if_true,lwp_pure];refine⟨⟨_,hmc,trivial⟩,?_⟩;have hlist:(es.modify j fun e=>{ e with key:=.int .i64 k,val:=v }).toList=es.toList.modify j fun e=>{ e with key:=.int .i64 k,val:=v }:=by simp
  have hjl:j<es.toList.length:=(List.getElem?_eq_some_iff.1 he).1;have keys':((es.modify j fun e=>{ e with key:=.int .i64 k,val:=v }).toList).map (·.key)=es.toList.map (·.key):=by
   rw[hlist];refine List.ext_getElem? fun i=>?_;rw[List.getElem?_map,List.getElem?_map,List.getElem?_modify];by_cases hij:j=i
   ·subst hij;simp[he,hek]
   ·simp[hij]
  have born':((es.modify j fun e=>{ e with key:=.int .i64 k,val:=v }).toList).map (·.born)=es.toList.map (·.born):=by
   rw[hlist];refine List.ext_getElem? fun i=>?_;rw[List.getElem?_map,List.getElem?_map,List.getElem?_modify];by_cases hij:j=i
   ·subst hij;simp[he]
   ·simp[hij]
  refine⟨rfl,hq _ _ l (Cells.upd_self _ _ _) ⟨keys'.trans hK.keys,hK.nodup,by rw[born'];exact hK.born,fun e2 he2=>?_⟩ fun x=>?_⟩
  ·have:e2.born∈es.toList.map (·.born):=by rw[<- born'];exact List.mem_map.2 ⟨e2,he2,rfl⟩
   obtain⟨e3,h3,h4⟩:=List.mem_map.1 this;rw[<- h4];exact hK.lt e3 h3
  ·have:Value.int .i64 k∈l.map (Value.int .i64):=by rw[<- hK.keys];exact List.mem_map.2 ⟨e,List.mem_of_getElem? he,hek⟩
   obtain⟨n,h1,h2⟩:=List.mem_map.1 this;cases h2;exact⟨.inr,fun h=>h.elim (fun e=>e▸h1) id⟩
 ·refine⟨⟨_,hmc,trivial⟩,rfl,hq _ _ (l++[k]) (Cells.upd_self _ _ _) ⟨?_,?_,?_,?_⟩ fun x=>?_⟩
  ·simp[hK.keys]
  ·refine List.nodup_append.2 ⟨hK.nodup,by simp,fun a ha b hb e=>?_⟩;simp at hb;subst hb;subst e;have:Value.int .i64 a∈es.toList.map (·.key):=by rw[hK.keys];exact List.mem_map.2 ⟨a,ha,rfl⟩
   obtain⟨e,h1,h2⟩:=List.mem_map.1 this;exact hno e h1 h2
  ·simp only[Array.toList_push,List.map_append,List.map_cons,List.map_nil];refine List.nodup_append.2 ⟨hK.born,by simp,fun a ha b hb e=>?_⟩;simp at hb;subst hb;subst e;obtain⟨e,h1,h2⟩:=List.mem_map.1 ha;have:=hK.lt e h1;omega
  ·intro e he;simp only[Array.toList_push,List.mem_append,List.mem_singleton]at he;rcases he with he|rfl
   ·have:=hK.lt e he;omega
   ·exact Nat.lt_succ_self _
  ·simp[or_comm]
def NextKey(es:Array MapEntry)(seen:Array Nat)(xs:List Value)(seen':Array Nat):Prop:=∃ e∈es.toList,e.born∉seen.toList/\xs=[e.key]/\seen'=seen.push e.born
def AllSeen(es:Array MapEntry)(seen:Array Nat):Prop:=∀ e∈es.toList,e.born∈seen.toList
theorem t_range{h:LH}{K:Value->T}{t kt et:TypeId}{m c:Nat}{es:Array MapEntry}{b:Bool}(hu:P.underlying t=some (.map kt et))(hm:h.get m=some (b,.map es c))
 (hk:∀ r,h.get r=none->(K (.pointer (some ⟨r,0,none⟩))).wp X P Q { h with get:=h.get.upd r (true,.mapIter (some m) c #[] c) }):(T.sem false (Instr.range t (.map (some m))) K).wp X P Q h:=by
 refine t_sem (A:=fun v h'=>∃ r,h.get r=none/\v=.pointer (some ⟨r,0,none⟩)/\h'=h.get.upd r (true,.mapIter (some m) c #[] c)) ?_ (by rintro v h' ⟨r,hr,rfl,rfl⟩;exact hk r hr);unfold Instr.range;simp only[lwp_bind,lwp_underlying hu];refine⟨_,_,hm,trivial,?_⟩;show Sem.lwp P (pure _) _ _ _;rw[lwp_pure];intro r hr;exact⟨r,hr,rfl,rfl⟩
theorem t_next{h:LH}{K:Value->T}{ty:TypeId}{m r c:Nat}{es:Array MapEntry}{seen:Array Nat}{b:Bool}(hr:h.get r=some (true,.mapIter (some m) c seen c))(hm:h.get m=some (b,.map es c))(hlt:∀ e∈es.toList,e.born<c)
 (hend:AllSeen es seen->(K (.tuple #[.bool false])).wp X P Q h)
 (hk:∀ e∈es.toList,e.born∉seen.toList->(K (.tuple #[.bool true,e.key,e.val])).wp X P Q { h with get:=h.get.upd r (true,.mapIter (some m) c (seen.push e.born) c) }):(T.sem false (Instr.next (.pointer (some ⟨r,0,none⟩)) false ty) K).wp X P Q h:=by
 refine t_sem (A:=fun v h'=>(K v).wp X P Q { h with get:=h' }) ?_ (fun v h' hw=>hw);unfold Instr.next;simp only[lwp_bind];refine⟨_,_,hr,trivial,?_⟩;show Sem.lwp P (_ >>= _) _ _ _;rw[lwp_bind];refine⟨_,_,hm,trivial,?_⟩;have hall:(!seen.isEmpty&&!es.isEmpty&&es.all fun x=>decide (x.born>=c))=false:=by
  cases he:es.toList with
  | nil =>
   have:es=#[]:=by rw[<- Array.toList_inj,he]
   simp[this]
  | cons e l =>
   have h1:=hlt e (by rw[he];simp);have h2:(es.all fun x=>decide (x.born>=c))=false:=by
    rw[<- Array.all_toList,he];simp;omega
   simp[h2]
 simp only[lwp_pure',hall,Bool.false_eq_true,if_false,lwp_bind,lwp_pure];have hold:((es.filter fun e=>!seen.contains e.born).filter fun x=>decide (x.born<c))=es.filter fun e=>!seen.contains e.born:=by
  rw[Array.filter_eq_self];intro e he;have:=hlt e (Array.mem_toList_iff.2 (Array.mem_filter.1 he).1);simp[this]
 have hnew:((es.filter fun e=>!seen.contains e.born).filter fun x=>decide (x.born>=c))=#[]:=by
  rw[Array.filter_filter];refine Array.filter_eq_empty_iff.2 fun e he=>?_;have:=hlt e (Array.mem_toList_iff.2 he);simp;omega
 rw[hold,hnew,Array.append_empty];by_cases hL:(es.filter fun e=>!seen.contains e.born).isEmpty=true
 ·have hL':(es.filter fun e=>!seen.contains e.born)=#[]:=Array.isEmpty_iff.1 hL;rw[hL'];simp only[Array.isEmpty_empty,if_true,Array.map_empty,Array.append_empty];show Sem.lwp P (choose (Question.mapNext 1)) _ _ _;show (if _ then _ else _);rw[if_pos (by rfl)];refine hend fun e he=>?_;have:=Array.filter_eq_empty_iff.1 hL' e (Array.mem_toList_iff.1 he);simpa using this
 ·rw[Bool.not_eq_true]at hL;simp only[hL,Bool.false_eq_true,if_false,Array.empty_append,Array.size_map];have hpos:0<(es.filter fun e=>!seen.contains e.born).size:=by
   rcases Nat.eq_zero_or_pos (es.filter fun e=>!seen.contains e.born).size with h0|h0
   ·rw[Array.size_eq_zero_iff]at h0;rw[h0]at hL;cases hL
   ·exact h0
  have fin:∀ i,i<(es.filter fun e=>!seen.contains e.born).size->Sem.lwp P (match (Array.map some (es.filter fun e=>!seen.contains e.born))[i]? with
   | some (some e)=>do
    setObj r (.mapIter (some m) c (seen.push e.born) c)
    pure (.tuple #[.bool true,e.key,e.val])
   | some none=>pure (.tuple #[.bool false])
   | none => stuck "Next: no such candidate" : Sem Value) (fun v h' => (K v).wp X P Q { h with get := h' }) (fun _ _ => False) h.get := by
   intro i hi;have hmem:(es.filter fun e=>!seen.contains e.born)[i]∈es.filter fun e=>!seen.contains e.born:=Array.getElem_mem hi;rw[Array.mem_filter]at hmem;have hget:(Array.map some (es.filter fun e=>!seen.contains e.born))[i]?=some (some (es.filter fun e=>!seen.contains e.born)[i]):=by simp[hi]
   rw[hget];simp only[lwp_bind];refine⟨⟨_,hr,trivial⟩,?_⟩;simp only[lwp_pure',lwp_pure];refine hk _ (Array.mem_toList_iff.2 hmem.1) ?_;have:=hmem.2;simpa using this
  show (if _ then _ else _);split
  ·exact fin 0 hpos
  ·exact fun t=>fin _ (Nat.mod_lt _ hpos)
theorem t_entry{h:LH}{K:Value->T}{m r c:Nat}{es:Array MapEntry}{seen:Array Nat}{e:MapEntry}{b:Bool}(hr:h.get r=some (true,.mapIter (some m) c (seen.push e.born) c))(hm:h.get m=some (b,.map es c))(he:e∈es.toList)(hb:(es.toList.map (·.born)).Nodup)
 (hk:(K (.tuple #[e.key,e.val])).wp X P Q h):(T.sem false (Instr.entry (.pointer (some ⟨r,0,none⟩))) K).wp X P Q h:=by
 refine t_sem (A:=fun v h'=>v=.tuple #[e.key,e.val]/\h'=h.get) ?_ (by rintro v h' ⟨rfl,rfl⟩;exact hk);unfold Instr.entry;simp only[lwp_bind];refine⟨_,_,hr,trivial,?_⟩;simp only[lwp_pure',Array.back?_push,lwp_bind];refine⟨_,_,hm,trivial,?_⟩;have hf:es.find? (fun x=>x.born==e.born)=some e:=by
  rw[<- Array.find?_toList];have:∀ l:List MapEntry,e∈l->(l.map (·.born)).Nodup->l.find? (fun x=>x.born==e.born)=some e:=by
   intro l
   induction l with
   | nil=>intro h;simp at h
   | cons a l ih =>
    intro h1 h2;simp only[List.map_cons,List.nodup_cons]at h2;rw[List.find?_cons];rcases List.mem_cons.1 h1 with rfl|h1
    ·simp
    ·have hne:(a.born==e.born)=false:=by
      cases hb:(a.born==e.born) with
      | false=>rfl
      | true=>exact absurd (List.mem_map.2 ⟨e,h1,(eq_of_beq hb).symm⟩) h2.1
     rw[hne];exact ih h1 h2.2
  exact this _ he hb
 simp only[lwp_pure',bne_self_eq_false,Bool.false_eq_true,if_false,lwp_bind,lwp_pure,hf];exact⟨trivial,trivial⟩
end
section
variable {P:Program} {E:Halt->Cells->Prop} {h:Cells}
theorem str_beq(a b:ByteArray):(a==b)=true↔a=b:=by
 obtain⟨x⟩:=a;obtain⟨y⟩:=b;show (x==y)=true↔_;rw[beq_iff_eq];constructor
 ·rintro rfl;rfl
 ·intro e;cases e;rfl
def isBas(P:Program)(t:TypeId)(v:Value):Prop:=(P.underlying t=some (.int .i64)/\∃ n,v=.int .i64 n)\/(P.underlying t=some .bool/\∃ b,v=.bool b)\/(P.underlying t=some .string/\∃ s,v=.string s)
theorem isBas.agg{t:TypeId}{v:Value}(b:isBas P t v):∃ d,P.underlying t=some d/\isAggT P t=false:=by
 rcases b with⟨hu,_⟩|⟨hu,_⟩|⟨hu,_⟩<;>exact⟨_,hu,by unfold isAggT;rw[hu]⟩
theorem lwp_partF{Q:Value->Cells->Prop}{t:TypeId}{cs:Array Value}{o:Nat}{v:Value}(b:isBas P t v)(hv:cs[o]?=some v)(hq:Q v h):Sem.lwp P (part t cs o) Q E h:=by
 obtain⟨d,hu,ha⟩:=b.agg;unfold part;rw[lwp_bind,lwp_isAgg_false hu ha];simp only[Bool.false_eq_true,if_false,hv];exact hq
theorem lwp_equalF{Q:Bool->Cells->Prop}{t:TypeId}{d:Nat}{a b:Value}(ha:isBas P t a)(hb:isBas P t b)(hq:∀ c:Bool,(c=true↔a=b)->Q c h):Sem.lwp P (Op.equalIn (d+1) t a b) Q E h:=by
 unfold Op.equalIn;rcases ha with⟨hu,n,rfl⟩|⟨hu,n,rfl⟩|⟨hu,n,rfl⟩<;>rcases hb with⟨hu',m,rfl⟩|⟨hu',m,rfl⟩|⟨hu',m,rfl⟩<;>(rw[hu]at hu';first|cases hu'|skip)
 ·rw[lwp_bind,lwp_underlying hu];exact hq _ (by simp)
 ·rw[lwp_bind,lwp_underlying hu];exact hq _ (by simp)
 ·rw[lwp_bind,lwp_underlying hu];exact hq _ (by rw[str_beq];simp)
theorem lwp_all{α σ:Type}{s0 s1:σ}{body:α->σ->Sem (ForInStep σ)}{c:α->Bool}:∀ {l:List α} {Q:σ->Cells->Prop},(∀ f∈l,∀ {Q:ForInStep σ->Cells->Prop},Q (if c f then .yield s0 else .done s1) h->Sem.lwp P (body f s0) Q E h)->Q (if l.all c then s0 else s1) h->Sem.lwp P (forIn l s0 body) Q E h
 | [],Q,_,hq=>by
  rw[List.forIn_nil];exact hq
 | f::l,Q,hb,hq=>by
  rw[List.forIn_cons,lwp_bind];refine hb f (by simp) ?_;cases hc:c f with
  | true =>
   simp only[if_true];refine lwp_all (fun g hg=>hb g (by simp[hg])) ?_;simpa[hc] using hq
  | false =>
   simp only[Bool.false_eq_true,if_false,lwp_pure];simpa[hc] using hq
inductive FlatAgg(P:Program)(t:TypeId)(vs:List Value):Prop where
 | str (fs : Array Field) (hu : P.underlying t = some (.struct fs)) (hs : P.stoodInHeld t = false) (hl : fs.toList.length = vs.length) (hf : ∀ (i : Nat) f v, fs.toList[i]? = some f -> vs[i]? = some v -> f.name ≠ "_" /\ f.offset = i /\ isBas P f.type v)
 | arr (n:Nat) (el:TypeId) (inf:TypeInfo) (hu:P.underlying t=some (.array n el)) (hi:P.info? el=some inf) (h1:inf.size=1) (hl:vs.length=n) (hf:∀ v∈vs,isBas P el v)
inductive NestT(P:Program)(t:TypeId):Prop where
 | mk (f0 f1 : Field) (fs : Array Field) (inf : TypeInfo) (hl : fs.toList = [f0, f1]) (hu : P.underlying t = some (.struct fs)) (hs : P.stoodInHeld t = false) (n0 : f0.name ≠ "_") (n1 : f1.name ≠ "_") (o0 : f0.offset = 0) (o1 : f1.offset = 1)
   (b0:P.underlying f0.type=some (.int .i64)) (b1:∀ n u,FlatAgg P f1.type [.int .i64 n,.int .i64 u]) (ha:isAggT P f1.type=true) (hi:P.info? f1.type=some inf) (h2:inf.size=2)
 | mk2 (f0 f1 : Field) (fs : Array Field) (inf : TypeInfo) (hl : fs.toList = [f0, f1]) (hu : P.underlying t = some (.struct fs)) (hs : P.stoodInHeld t = false) (n0 : f0.name ≠ "_") (n1 : f1.name ≠ "_") (o0 : f0.offset = 0) (o1 : f1.offset = 2)
   (b1:P.underlying f1.type=some (.int .i64)) (b0:∀ n u,FlatAgg P f0.type [.int .i64 n,.int .i64 u]) (ha:isAggT P f0.type=true) (hi:P.info? f0.type=some inf) (h2:inf.size=2)
def nestV(a n u:Int):Value:=.agg #[.int .i64 a,.int .i64 n,.int .i64 u]
def FKey(P:Program)(t:TypeId)(v:Value):Prop:=isBas P t v\/(∃ vs,v=.agg vs.toArray/\FlatAgg P t vs)\/(NestT P t/\∃ a n u,v=nestV a n u)
theorem NestT.notBas{t:TypeId}{v:Value}(N:NestT P t)(b:isBas P t v):False:=by
 have hu:∃ fs,P.underlying t=some (.struct fs):=by cases N<;>exact⟨_,by assumption⟩
 obtain⟨fs,hu⟩:=hu;obtain⟨d,hu',hn⟩:=b.agg;unfold isAggT at hn;rw[hu]at hn;cases hn
theorem NestT.notFlat{t:TypeId}{vs:List Value}(N:NestT P t)(b:FlatAgg P t vs):False:=by
 have key:∃ f0 f1 fs,fs.toList=[f0,f1]/\P.underlying t=some (.struct fs)/\(isAggT P f0.type=true\/isAggT P f1.type=true):=by
  cases N with
  | mk f0 f1 fs inf hl hu hs n0 n1 o0 o1 b0 b1 ha=>exact⟨f0,f1,fs,hl,hu,.inr ha⟩
  | mk2 f0 f1 fs inf hl hu hs n0 n1 o0 o1 b0 b1 ha=>exact⟨f0,f1,fs,hl,hu,.inl ha⟩
 obtain⟨f0,f1,fs,hl,hu,ha⟩:=key;cases b with
 | arr n el inf hu'=>rw[hu]at hu';cases hu'
 | str fs' hu' hs' hl' hf' =>
  rw[hu]at hu';cases hu';rw[hl]at hl' hf';have h1:1<vs.length:=by rw[<- hl'];simp
  rcases ha with ha|ha
  ·obtain⟨_,_,b2⟩:=hf' 0 f0 vs[0] rfl (List.getElem?_eq_getElem (by omega));obtain⟨d,_,hn⟩:=b2.agg;rw[ha]at hn;cases hn
  ·obtain⟨_,_,b2⟩:=hf' 1 f1 vs[1] rfl (List.getElem?_eq_getElem h1);obtain⟨d,_,hn⟩:=b2.agg;rw[ha]at hn;cases hn
theorem lwp_partA{Q:Value->Cells->Prop}{t:TypeId}{cs:Array Value}{o:Nat}{inf:TypeInfo}(ha:isAggT P t=true)(hi:P.info? t=some inf)(hq:Q (.agg (cs.extract o (o+inf.size))) h):Sem.lwp P (part t cs o) Q E h:=by
 unfold part;rw[lwp_bind,lwp_isAgg_true ha];simp only[if_true,lwp_bind,lwp_sizeOf hi];exact hq
theorem list_all_eq{α:Type}{a b:List α}(hl:a.length=b.length)(h:∀ (i:Nat) x y,a[i]?=some x->b[i]?=some y->x=y):a=b:=by
 refine List.ext_getElem? fun i=>?_;by_cases hi:i<a.length
 ·have ha:=List.getElem?_eq_getElem hi;have hb:=List.getElem?_eq_getElem (l:=b) (i:=i) (by omega);rw[ha,hb,h i _ _ ha hb]
 ·rw[List.getElem?_eq_none (by omega),List.getElem?_eq_none (by omega)]
open Classical in
theorem lwp_equalA{Q:Bool->Cells->Prop}{t:TypeId}{d:Nat}{ys bs:List Value}(ha:FlatAgg P t ys)(hb:FlatAgg P t bs)(hq:∀ c:Bool,(c=true↔ys=bs)->Q c h):Sem.lwp P (Op.equalIn (d+1+1) t (.agg ys.toArray) (.agg bs.toArray)) Q E h:=by
 cases ha with
 | str fs hu hs hl hf =>
  cases hb with
  | arr n el inf hu'=>rw[hu]at hu';cases hu'
  | str fs' hu' hs' hl' hf' =>
   rw[hu]at hu';cases hu';have key:(fs.toList.all fun f=>decide (ys[f.offset]?=bs[f.offset]?))=true↔ys=bs:=by
    rw[List.all_eq_true];constructor
    ·intro hall;refine list_all_eq (by omega) fun i x y hx hy=>?_;have hi:i<fs.toList.length:=by rw[hl];exact(List.getElem?_eq_some_iff.1 hx).1
     have hfi:=List.getElem?_eq_getElem hi;have h1:=of_decide_eq_true (hall _ (List.mem_of_getElem? hfi));rw[(hf i _ x hfi hx).2.1,hx,hy]at h1;exact Option.some.inj h1
    ·rintro rfl f _;simp
   unfold Op.equalIn;rw[lwp_bind,lwp_underlying hu];simp only[lwp_bind,lwp_program,hs,Bool.false_eq_true,if_false,<- Array.forIn_toList];refine lwp_all (s1:=⟨some false,()⟩) (c:=fun f=>decide (ys[f.offset]?=bs[f.offset]?)) ?_ ?_
   ·intro f hfm Q hQ;obtain⟨i,hi⟩:=List.mem_iff_getElem?.1 hfm;have hil:i<fs.toList.length:=(List.getElem?_eq_some_iff.1 hi).1;have hx:=List.getElem?_eq_getElem (l:=ys) (i:=i) (by omega);have hy:=List.getElem?_eq_getElem (l:=bs) (i:=i) (by omega);obtain⟨n1,o1,b1⟩:=hf i f _ hi hx;obtain⟨_,_,b2⟩:=hf' i f _ hi hy;rw[if_pos n1];simp only[lwp_bind];refine lwp_partF b1 (by rw[o1];simpa using hx) (lwp_partF b2 (by rw[o1];simpa using hy) (lwp_equalF b1 b2 fun c hc=>?_));rw[o1,hx,hy]at hQ;cases c with
    | true =>
     have:ys[i]=bs[i]:=hc.1 rfl;simp only[this,decide_true,if_true]at hQ;simpa[lwp_pure] using hQ
    | false =>
     have:¬ ys[i]=bs[i]:=fun e=>by cases hc.2 e
     have h2:¬ some ys[i]=some bs[i]:=fun e=>this (Option.some.inj e);simp only[h2,decide_false,Bool.false_eq_true,if_false]at hQ;simpa[lwp_pure] using hQ
   ·cases hall:(fs.toList.all fun f=>decide (ys[f.offset]?=bs[f.offset]?)) with
    | true=>simpa[lwp_pure] using hq true (by simpa[hall] using key)
    | false=>simpa[lwp_pure] using hq false (by simpa[hall] using key)
 | arr n el inf hu hi h1 hl hf =>
  cases hb with
  | str fs' hu'=>rw[hu]at hu';cases hu'
  | arr n' el' inf' hu' hi' h1' hl' hf' =>
   rw[hu]at hu';cases hu';rw[hi]at hi';cases hi';have key:((List.range' 0 n).all fun i=>decide (ys[i]?=bs[i]?))=true↔ys=bs:=by
    rw[List.all_eq_true];constructor
    ·intro hall;refine list_all_eq (by omega) fun i x y hx hy=>?_;have hi:i<n:=by rw[<- hl];exact(List.getElem?_eq_some_iff.1 hx).1
     have h1:=of_decide_eq_true (hall i (by simp[hi]));rw[hx,hy]at h1;exact Option.some.inj h1
    ·rintro rfl f _;simp
   unfold Op.equalIn;rw[lwp_bind,lwp_underlying hu];simp only[lwp_bind,lwp_sizeOf hi,h1,Nat.mul_one,Std.Legacy.Range.forIn_eq_forIn_range'];have hr:List.range' 0 ([:n]:Std.Legacy.Range).size=List.range' 0 n:=by simp[Std.Legacy.Range.size]
   have hr':([:n]:Std.Legacy.Range).start=0/\([:n]:Std.Legacy.Range).step=1:=⟨rfl,rfl⟩
   refine lwp_all (s1:=⟨some false,()⟩) (c:=fun i=>decide (ys[i]?=bs[i]?)) ?_ ?_
   ·intro i him Q hQ;have hin:i<n:=by
     have:=him;simp[Std.Legacy.Range.size]at this;omega
    have hx:=List.getElem?_eq_getElem (l:=ys) (i:=i) (by omega);have hy:=List.getElem?_eq_getElem (l:=bs) (i:=i) (by omega);have b1:=hf _ (List.mem_of_getElem? hx);have b2:=hf' _ (List.mem_of_getElem? hy);simp only[lwp_bind];refine lwp_partF (v:=ys[i]) b1 ?_ ?_
    ·rw[List.getElem?_toArray];exact hx
    refine lwp_partF (v:=bs[i]) b2 ?_ ?_
    ·rw[List.getElem?_toArray];exact hy
    refine lwp_equalF b1 b2 fun c hc=>?_;rw[hx,hy]at hQ;cases c with
    | true =>
     have:ys[i]=bs[i]:=hc.1 rfl;simp only[this,decide_true,if_true]at hQ;simpa[lwp_pure] using hQ
    | false =>
     have:¬ ys[i]=bs[i]:=fun e=>by cases hc.2 e
     have h2:¬ some ys[i]=some bs[i]:=fun e=>this (Option.some.inj e);simp only[h2,decide_false,Bool.false_eq_true,if_false]at hQ;simpa[lwp_pure] using hQ
   ·have hall':(List.range' ([:n]:Std.Legacy.Range).start ([:n]:Std.Legacy.Range).size ([:n]:Std.Legacy.Range).step)=List.range' 0 n:=by simp[Std.Legacy.Range.size]
    rw[hall'];cases hall:((List.range' 0 n).all fun i=>decide (ys[i]?=bs[i]?)) with
    | true=>simpa[lwp_pure] using hq true (by simpa[hall] using key)
    | false=>simpa[lwp_pure] using hq false (by simpa[hall] using key)
theorem agg_inj{ys bs:List Value}:Value.agg ys.toArray=.agg bs.toArray↔ys=bs:=by
 constructor
 ·intro e;injection e with e;simpa using e
 ·rintro rfl;rfl
theorem nestV_inj{a n u a' n' u':Int}:nestV a n u=nestV a' n' u'↔a=a'/\n=n'/\u=u':=by
 unfold nestV;simp
theorem lwp_equalN{Q:Bool->Cells->Prop}{t:TypeId}{d:Nat}{a n u a' n' u':Int}(N:NestT P t)(hq:∀ c:Bool,(c=true↔(a=a'/\n=n'/\u=u'))->Q c h):Sem.lwp P (Op.equalIn (d+1+1+1) t (nestV a n u) (nestV a' n' u')) Q E h:=by
 cases N with
 | mk f0 f1 fs inf hl hu hs n0 n1 o0 o1 b0 b1 ha hi h2 =>
  unfold nestV Op.equalIn;rw[lwp_bind,lwp_underlying hu];simp only[lwp_bind,lwp_program,hs,Bool.false_eq_true,if_false,<- Array.forIn_toList,hl,List.forIn_cons,List.forIn_nil];rw[if_pos n0];simp only[lwp_bind];refine lwp_partF (v:=.int .i64 a) (.inl ⟨b0,a,rfl⟩) (by rw[o0];rfl) (lwp_partF (v:=.int .i64 a') (.inl ⟨b0,a',rfl⟩) (by rw[o0];rfl) (lwp_equalF (.inl ⟨b0,a,rfl⟩) (.inl ⟨b0,a',rfl⟩) fun c hc=>?_));cases c with
  | false =>
   have hne:¬ a=a':=fun e=>by have:=hc.2 (by rw[e]);cases this
   simp only[Bool.not_false,if_true,lwp_pure];exact hq false (by simp[hne])
  | true =>
   have he:a=a':=by have:=hc.1 rfl;simpa using this
   simp only[Bool.not_true,Bool.false_eq_true,if_false,lwp_pure,lwp_bind];rw[if_pos n1];simp only[lwp_bind];refine lwp_partA ha hi (lwp_partA ha hi ?_);rw[o1,h2];have ex:∀ x y z:Value,(#[x,y,z]:Array Value).extract 1 (1+2)=[y,z].toArray:=fun _ _ _=>rfl;rw[ex,ex];refine lwp_equalA (d:=d) (b1 n u) (b1 n' u') fun c hc=>?_;cases c with
   | false =>
    have hne:¬ (n=n'/\u=u'):=fun e=>by have:=hc.2 (by rw[e.1,e.2]);cases this
    simp only[Bool.not_false,if_true,lwp_pure];exact hq false (by simp[he];simpa using hne)
   | true =>
    have:=hc.1 rfl;simp only[Bool.not_true,Bool.false_eq_true,if_false,lwp_pure,lwp_bind];exact hq true (by simp at this;simp[he,this])
 | mk2 f0 f1 fs inf hl hu hs n0 n1 o0 o1 b1 b0 ha hi h2 =>
  unfold nestV Op.equalIn;rw[lwp_bind,lwp_underlying hu];simp only[lwp_bind,lwp_program,hs,Bool.false_eq_true,if_false,<- Array.forIn_toList,hl,List.forIn_cons,List.forIn_nil];rw[if_pos n0];simp only[lwp_bind];refine lwp_partA ha hi (lwp_partA ha hi ?_);rw[o0,h2];have ex:∀ x y z:Value,(#[x,y,z]:Array Value).extract 0 (0+2)=[x,y].toArray:=fun _ _ _=>rfl;rw[ex,ex];refine lwp_equalA (d:=d) (b0 a n) (b0 a' n') fun c hc=>?_;cases c with
  | false =>
   have hne:¬ (a=a'/\n=n'):=fun e=>by have:=hc.2 (by rw[e.1,e.2]);cases this
   simp only[Bool.not_false,if_true,lwp_pure];exact hq false (by simp;intro h1 h2;exact absurd ⟨h1,h2⟩ hne)
  | true =>
   have he:a=a'/\n=n':=by have:=hc.1 rfl;simpa using this
   simp only[Bool.not_true,Bool.false_eq_true,if_false,lwp_pure,lwp_bind];rw[if_pos n1];simp only[lwp_bind];refine lwp_partF (v:=.int .i64 u) (.inl ⟨b1,u,rfl⟩) (by rw[o1];rfl) (lwp_partF (v:=.int .i64 u') (.inl ⟨b1,u',rfl⟩) (by rw[o1];rfl) (lwp_equalF (.inl ⟨b1,u,rfl⟩) (.inl ⟨b1,u',rfl⟩) fun c hc=>?_));cases c with
   | false =>
    have hne:¬ u=u':=fun e=>by have:=hc.2 (by rw[e]);cases this
    simp only[Bool.not_false,if_true,lwp_pure];exact hq false (by simp[hne])
   | true =>
    have:=hc.1 rfl;simp only[Bool.not_true,Bool.false_eq_true,if_false,lwp_pure,lwp_bind];exact hq true (by simp at this;simp[he.1,he.2,this])
theorem lwp_equalK{Q:Bool->Cells->Prop}{t:TypeId}{a b:Value}(ha:FKey P t a)(hb:FKey P t b)(hq:∀ c:Bool,(c=true↔a=b)->Q c h):Sem.lwp P (Op.equal t a b) Q E h:=by
 have hmd:Op.maxDepth=9998+1+1:=rfl;unfold Op.equal;rw[hmd];rcases ha with ha|⟨ys,rfl,ha⟩|⟨N,a0,n0,u0,rfl⟩<;>rcases hb with hb|⟨bs,rfl,hb⟩|⟨N',a1,n1,u1,rfl⟩
 ·exact lwp_equalF ha hb hq
 ·obtain⟨d,hu,hn⟩:=ha.agg;cases hb<;>(unfold isAggT at hn;rename_i hu';first|(rw[‹P.underlying t=some (.struct _)›]at hn;cases hn)|(rw[‹P.underlying t=some (.array _ _)›]at hn;cases hn))
 ·exact(N'.notBas ha).elim
 ·obtain⟨d,hu,hn⟩:=hb.agg;cases ha<;>(unfold isAggT at hn;first|(rw[‹P.underlying t=some (.struct _)›]at hn;cases hn)|(rw[‹P.underlying t=some (.array _ _)›]at hn;cases hn))
 ·exact lwp_equalA ha hb fun c hc=>hq c (by rw[agg_inj];exact hc)
 ·exact(N'.notFlat ha).elim
 ·exact(N.notBas hb).elim
 ·exact(N.notFlat hb).elim
 ·exact lwp_equalN (d:=9997) N fun c hc=>hq c (by rw[nestV_inj];exact hc)
theorem lwp_checkKeyA{Q:Unit->Cells->Prop}{e:Bool}{d:Nat}{kt:TypeId}{vs:List Value}(hf:FlatAgg P kt vs)(hq:Q () h):Sem.lwp P (Instr.checkKey e (d+1+1) kt (.agg vs.toArray)) Q E h:=by
 have one:∀ {Q:Unit->Cells->Prop} {d:Nat} {t:TypeId} {v:Value},isBas P t v->Q () h->Sem.lwp P (Instr.checkKey e (d+1) t v) Q E h:=by
  intro Q d t v hb hq;unfold Instr.checkKey;rcases hb with⟨hu,n,rfl⟩|⟨hu,n,rfl⟩|⟨hu,n,rfl⟩<;>(rw[lwp_bind,lwp_underlying hu];exact hq)
 rw[Instr.checkKey];cases hf with
 | str fs hu hs hl hf =>
  rw[lwp_bind,lwp_underlying hu];simp only[lwp_bind,<- Array.forIn_toList];refine lwp_all (s1:=()) (c:=fun _=>true) ?_ (by simpa[lwp_pure] using hq);intro f hfm Q hQ;obtain⟨i,hi⟩:=List.mem_iff_getElem?.1 hfm;have hil:i<fs.toList.length:=(List.getElem?_eq_some_iff.1 hi).1;have hx:=List.getElem?_eq_getElem (l:=vs) (i:=i) (by omega);obtain⟨n1,o1,b1⟩:=hf i f _ hi hx;rw[if_pos n1];simp only[lwp_bind];refine lwp_partF (v:=vs[i]) b1 (by rw[o1];simpa using hx) (one b1 ?_);simpa[lwp_pure] using hQ
 | arr n el inf hu hi h1 hl hf =>
  rw[lwp_bind,lwp_underlying hu];simp only[lwp_bind,Std.Legacy.Range.forIn_eq_forIn_range'];refine lwp_all (s1:=()) (c:=fun _=>true) ?_ (by simpa[lwp_pure] using hq);intro i him Q hQ;have hin:i<n:=by
   have:=him;simp[Std.Legacy.Range.size]at this;omega
  have hx:=List.getElem?_eq_getElem (l:=vs) (i:=i) (by omega);have b1:=hf _ (List.mem_of_getElem? hx);simp only[lwp_bind,lwp_sizeOf hi,h1,Nat.mul_one];refine lwp_partF (v:=vs[i]) b1 ?_ ?_
  ·rw[List.getElem?_toArray];exact hx
  refine one b1 ?_;simpa[lwp_pure] using hQ
theorem lwp_checkKeyK{Q:Unit->Cells->Prop}{e:Bool}{kt:TypeId}{v:Value}(hk:FKey P kt v)(hq:Q () h):Sem.lwp P (Instr.checkKey e 10000 kt v) Q E h:=by
 have one:∀ {Q:Unit->Cells->Prop} {d:Nat} {t:TypeId} {v:Value},isBas P t v->Q () h->Sem.lwp P (Instr.checkKey e (d+1) t v) Q E h:=by
  intro Q d t v hb hq;unfold Instr.checkKey;rcases hb with⟨hu,n,rfl⟩|⟨hu,n,rfl⟩|⟨hu,n,rfl⟩<;>(rw[lwp_bind,lwp_underlying hu];exact hq)
 rcases hk with hb|⟨vs,rfl,hf⟩|⟨N,a,n,u,rfl⟩
 ·exact one (d:=9999) hb hq
 ·exact lwp_checkKeyA (d:=9998) hf hq
 ·cases N with
  | mk f0 f1 fs inf hl hu hs n0 n1 o0 o1 b0 b1 ha hi h2 =>
   rw[show (10000:Nat)=9999+1 from rfl,nestV,Instr.checkKey];rw[lwp_bind,lwp_underlying hu];simp only[lwp_bind,<- Array.forIn_toList,hl,List.forIn_cons,List.forIn_nil];rw[if_pos n0];simp only[lwp_bind];refine lwp_partF (v:=.int .i64 a) (.inl ⟨b0,a,rfl⟩) (by rw[o0];rfl) (one (d:=9998) (.inl ⟨b0,a,rfl⟩) ?_);simp only[lwp_pure,lwp_bind];rw[if_pos n1];simp only[lwp_bind];refine lwp_partA ha hi ?_;rw[o1,h2];have ex:∀ x y z:Value,(#[x,y,z]:Array Value).extract 1 (1+2)=[y,z].toArray:=fun _ _ _=>rfl;rw[ex];refine lwp_checkKeyA (d:=9997) (b1 n u) ?_;simpa[lwp_pure] using hq
  | mk2 f0 f1 fs inf hl hu hs n0 n1 o0 o1 b1 b0 ha hi h2 =>
   rw[show (10000:Nat)=9999+1 from rfl,nestV,Instr.checkKey];rw[lwp_bind,lwp_underlying hu];simp only[lwp_bind,<- Array.forIn_toList,hl,List.forIn_cons,List.forIn_nil];rw[if_pos n0];simp only[lwp_bind];refine lwp_partA ha hi ?_;rw[o0,h2];have ex:∀ x y z:Value,(#[x,y,z]:Array Value).extract 0 (0+2)=[x,y].toArray:=fun _ _ _=>rfl;rw[ex];refine lwp_checkKeyA (d:=9997) (b0 a n) ?_;simp only[lwp_pure,lwp_bind];rw[if_pos n1];simp only[lwp_bind];refine lwp_partF (v:=.int .i64 u) (.inl ⟨b1,u,rfl⟩) (by rw[o1];rfl) (one (d:=9998) (.inl ⟨b1,u,rfl⟩) ?_);simpa[lwp_pure] using hq
theorem sameNow_iff{kd:TypeDesc}{a b:Value}{c:Bool}(h:Instr.sameNow kd a b=some c):c=true↔a=b:=by
 unfold Instr.sameNow at h;split at h
 ·split at h
  ·rename_i e;cases h;subst e;simp
  ·cases h
 ·cases h;simp[str_beq]
 ·cases h;simp
 ·cases h
theorem findNow_spec{kd:TypeDesc}{k:Value}:∀ (es:List MapEntry) (i:Nat) (r:Option (Nat×Value)),Instr.findNow kd k es i=some r ->
  (∃ j e,es[j]?=some e/\e.key=k/\r=some (i+j,e.val))\/((∀ e∈es,e.key≠k)/\r=none)
 | [],i,r,h=>by cases h;exact .inr ⟨fun e he=>by simp at he,rfl⟩
 | e::es,i,r,h=>by
  unfold Instr.findNow at h;split at h
  ·rename_i hs;cases h;exact .inl ⟨0,e,rfl,((sameNow_iff hs).1 rfl).symm,rfl⟩
  ·rename_i hs;have hne:e.key≠k:=fun hh=>by have:=(sameNow_iff hs).2 hh.symm;cases this
   rcases findNow_spec es (i+1) r h with⟨j,e',h1,h2,h3⟩|⟨h1,h2⟩
   ·exact .inl ⟨j+1,e',by simpa using h1,h2,by rw[h3];congr 2;omega⟩
   ·refine .inr ⟨fun e' he'=>?_,h2⟩;rcases List.mem_cons.1 he' with rfl|he'
    ·exact hne
    ·exact h1 e' he'
  ·cases h
theorem lwp_findAskingK{Q:Option (Nat×Value)->Cells->Prop}{kt:TypeId}{k:Value}(hk:FKey P kt k):∀ (es:List MapEntry) (i:Nat),(∀ e∈es,FKey P kt e.key) ->
  (∀ j e,es[j]?=some e->e.key=k->Q (some (i+j,e.val)) h)->((∀ e∈es,e.key≠k)->Q none h)->Sem.lwp P (Instr.findAsking kt k es i) Q E h
 | [],i,_,_,h2=>h2 fun e he=>by simp at he
 | e::es,i,hes,h1,h2=>by
  unfold Instr.findAsking;rw[lwp_bind];refine lwp_equalK hk (hes e (by simp)) fun c hc=>?_;cases c with
  | true =>
   simp only[if_true,lwp_pure];have:=h1 0 e rfl (hc.1 rfl).symm;simpa using this
  | false =>
   have hne:e.key≠k:=fun hh=>by have:=hc.2 hh.symm;cases this
   simp only[Bool.false_eq_true,if_false];refine lwp_findAskingK hk es (i+1) (fun e' he'=>hes e' (by simp[he'])) (fun j e' he' hk'=>?_) fun hno=>h2 fun e' he'=>?_
   ·have:=h1 (j+1) e' (by simpa using he') hk';rw[show i+1+j=i+(j+1) by omega];exact this
   ·rcases List.mem_cons.1 he' with rfl|he'
    ·exact hne
    ·exact hno e' he'
theorem FKey.und{kt:TypeId}{k:Value}(hk:FKey P kt k):∃ d,P.underlying kt=some d:=by
 rcases hk with hb|⟨vs,rfl,hf⟩|⟨N,_⟩
 ·obtain⟨d,hu,_⟩:=hb.agg;exact⟨d,hu⟩
 ·cases hf<;>exact⟨_,‹P.underlying kt=some _›⟩
 ·cases N<;>exact⟨_,‹P.underlying kt=some _›⟩
theorem lwp_findKeyK{Q:Option (Nat×Value)->Cells->Prop}{kt:TypeId}{k:Value}{es:List MapEntry}(hk:FKey P kt k)(hes:∀ e∈es,FKey P kt e.key)(h1:∀ j e,es[j]?=some e->e.key=k->Q (some (j,e.val)) h)(h2:(∀ e∈es,e.key≠k)->Q none h):Sem.lwp P (Instr.findKey kt k es) Q E h:=by
 unfold Instr.findKey;obtain⟨d,hu⟩:=hk.und;rw[lwp_bind,lwp_underlying hu];cases hr:Instr.findNow d k es 0 with
 | some r =>
  simp only[lwp_pure];rcases findNow_spec es 0 r hr with⟨j,e,g1,g2,g3⟩|⟨g1,g2⟩
  ·rw[g3];have:=h1 j e g1 g2;simpa using this
  ·rw[g2];exact h2 g1
 | none =>
  exact lwp_findAskingK hk es 0 hes (fun j e he hke=>by have:=h1 j e he hke;simpa using this) h2
theorem sameBits_bas{t:TypeId}{v:Value}(b:isBas P t v)(d:Nat):Instr.sameBits d v v=true:=by
 rcases b with⟨_,n,rfl⟩|⟨_,n,rfl⟩|⟨_,n,rfl⟩<;>unfold Instr.sameBits<;>simp[str_beq]
theorem sameBits_all:∀ {l:List Value},(∀ v∈l,Instr.sameBits 9999 v v=true)->((l.zip l).all fun (x,y)=>Instr.sameBits 9999 x y)=true
 | [],_=>rfl
 | v::l,hl=>by
  simp only[List.zip_cons_cons,List.all_cons,Bool.and_eq_true];exact⟨hl v (by simp),sameBits_all fun w hw=>hl w (by simp[hw])⟩
theorem sameBits_flat{kt:TypeId}{k:Value}(hk:FKey P kt k):Instr.sameBits 10000 k k=true:=by
 rcases hk with hb|⟨vs,rfl,hf⟩|⟨_,a,n,u,rfl⟩
 ·exact sameBits_bas hb _
 rotate_left
 ·rw[show (10000:Nat)=9999+1 from rfl];unfold nestV Instr.sameBits;simp[Instr.sameBits]
 ·rw[show (10000:Nat)=9999+1 from rfl];unfold Instr.sameBits;simp only[beq_self_eq_true,Bool.true_and];refine sameBits_all fun v hv=>?_;cases hf with
  | str fs hu hs hl hf =>
   obtain⟨i,hi⟩:=List.mem_iff_getElem?.1 (show v∈vs by simpa using hv);have hil:i<vs.length:=(List.getElem?_eq_some_iff.1 hi).1;exact sameBits_bas (hf i _ v (List.getElem?_eq_getElem (by omega)) hi).2.2 _
  | arr n el inf hu hi h1 hl hf=>exact sameBits_bas (hf v (by simpa using hv)) _
theorem lwp_lookupK{Q:Value->Cells->Prop}{t kt et:TypeId}{s b:Nat}{z:Value}{m:Nat}{es:Array MapEntry}{k:Value}{ok:Bool}(hu:P.underlying t=some (.map kt et))(hi:(P.info? et).map (fun i=>(i.size,i.bytes,i.zero))=some (s,b,some z))(hm:MapAt h m es)(hk:FKey P kt k)(hes:∀ e∈es.toList,FKey P kt e.key)
 (h1:∀ e∈es.toList,e.key=k->Q (if ok then .tuple #[e.val,.bool true] else e.val) h)(h2:(∀ e∈es.toList,e.key≠k)->Q (if ok then .tuple #[z,.bool false] else z) h):Sem.lwp P (Instr.lookup t (.map (some m)) k ok) Q E h:=by
 obtain⟨inf,g1,_,_,g4⟩:=info_of hi;obtain⟨c,hmc⟩:=hm;unfold Instr.lookup;rw[lwp_bind,lwp_underlying hu];simp only[lwp_bind];refine⟨_,_,hmc,trivial,?_⟩;show Sem.lwp P (_ >>= _) Q E h;rw[lwp_bind,lwp_pure,lwp_bind];refine lwp_checkKeyK hk ?_;rw[lwp_bind];refine lwp_findKeyK hk hes (fun j e he hek=>?_) fun hno=>?_
 ·simp only[lwp_pure,lwp_bind];have:=h1 e (List.mem_of_getElem? he) hek;cases ok<;>exact this
 ·simp only[lwp_bind,lwp_zeroValue g1 g4,lwp_pure];have:=h2 hno;cases ok<;>exact this
variable {X:XP} {Q:Leaf->LH->Prop}
theorem t_eqK{h:LH}{K:Value->T}{t:TypeId}{x y:Operand}{ys bs:List Value}(ha:FlatAgg P t ys)(hb:FlatAgg P t bs)(hg:P.eqGuardType P.depth t=false)(hk:∀ c:Bool,(c=true↔ys=bs)->(K (.bool c)).wp X P Q h) :
  (T.sem false (Sem.bind (eqGuard .eql t x y (.agg ys.toArray) (.agg bs.toArray)) fun _=>binOp .eql t (.agg ys.toArray) (.agg bs.toArray)) K).wp X P Q h:=by
 refine t_sem (A:=fun w h'=>h'=h.get/\(K w).wp X P Q h) (Sem.lwp_bind _ _ ?_) (by rintro w h' ⟨rfl,hw⟩;exact hw);unfold eqGuard;simp only[Bool.not_true,Bool.false_eq_true,if_false,lwp_bind,lwp_program,hg,Bool.not_false,if_true,lwp_pure];unfold binOp;rw[lwp_bind];refine lwp_equalK (.inr (.inl ⟨_,rfl,ha⟩)) (.inr (.inl ⟨_,rfl,hb⟩)) fun c hc=>⟨rfl,hk c (by rw[hc,agg_inj])⟩
theorem str_list(a b:ByteArray):(a.toList==b.toList)=true↔a=b:=by
 rw[beq_iff_eq,ByteArray.toList_eq,ByteArray.toList_eq];obtain⟨x⟩:=a;obtain⟨y⟩:=b;constructor
 ·intro e;have:x=y:=by apply Array.ext';simpa using e
  rw[this]
 ·intro e;cases e;rfl
theorem t_eqStr{h:LH}{K:Value->T}{t:TypeId}{x y:Operand}{a b:ByteArray}(hu:P.underlying t=some .string)(hk:∀ c:Bool,(c=true↔a=b)->(K (.bool c)).wp X P Q h) :
  (T.sem false (Sem.bind (eqGuard .eql t x y (.string a) (.string b)) fun _=>binOp .eql t (.string a) (.string b)) K).wp X P Q h:=by
 refine t_sem (A:=fun w h'=>h'=h.get/\(K w).wp X P Q h) (Sem.lwp_bind _ _ ?_) (by rintro w h' ⟨rfl,hw⟩;exact hw);unfold eqGuard;simp only[Bool.not_true,Bool.false_eq_true,if_false,lwp_pure];unfold binOp;show Sem.lwp P (Op.stringOp .eql a b) _ _ _;unfold Op.stringOp;rw[lwp_pure];exact⟨rfl,hk _ (str_list a b)⟩
theorem t_lenStr{h:LH}{K:Value->T}{t t':TypeId}{s:ByteArray}(hu:P.underlying t=some .string)(hk:(K (.int .i64 (s.size:Int))).wp X P Q h):(T.sem false (Builtin.len_ #[t] t' #[.string s]) K).wp X P Q h:=by
 refine t_sem (A:=fun w h'=>h'=h.get/\(K w).wp X P Q h) ?_ (by rintro w h' ⟨rfl,hw⟩;exact hw);unfold Builtin.len_;change Sem.lwp P (underlying t >>= _) _ _ _;rw[lwp_bind,lwp_underlying hu];exact⟨rfl,hk⟩
/-! ### Flat types, told by a look -/
inductive Bk where
 | i|b|s
def basB(P:Program)(t:TypeId)(k:Bk):Bool:=match P.underlying t,k with
 | some (.int .i64),.i=>true
 | some .bool,.b=>true
 | some .string,.s=>true
 | _,_=>false
def BasV:Bk->Value->Prop
 | .i,v=>∃ n,v=.int .i64 n
 | .b,v=>∃ n,v=.bool n
 | .s,v=>∃ n,v=.string n
theorem basB_is{t:TypeId}{k:Bk}{v:Value}(h:basB P t k=true)(hv:BasV k v):isBas P t v:=by
 unfold basB at h;split at h
 ·rename_i hu;exact .inl ⟨hu,hv⟩
 ·rename_i hu;exact .inr (.inl ⟨hu,hv⟩)
 ·rename_i hu;exact .inr (.inr ⟨hu,hv⟩)
 ·cases h
def flatGo(P:Program):List Field->List Bk->Nat->Bool
 | [],[],_=>true
 | f :: fs, k :: ks, i => f.name != "_" && Nat.beq f.offset i && basB P f.type k && flatGo P fs ks (i + 1)
 | _,_,_=>false
def flatB(P:Program)(t:TypeId)(ks:List Bk):Bool:=match P.underlying t with
 | some (.struct fs)=>flatGo P fs.toList ks 0&&!P.stoodInHeld t
 | _=>false
theorem flatGo_at : ∀ {fs : List Field} {ks : List Bk} {i : Nat}, flatGo P fs ks i = true -> fs.length = ks.length /\ ∀ (j : Nat) f k, fs[j]? = some f -> ks[j]? = some k -> f.name ≠ "_" /\ f.offset = i + j /\ basB P f.type k = true
 | [],[],i,_=>⟨rfl,fun j f k h=>by simp at h⟩
 | f::fs,k::ks,i,h=>by
  unfold flatGo at h;simp only[Bool.and_eq_true,bne_iff_ne]at h;obtain⟨⟨⟨h1,h2⟩,h3⟩,h4⟩:=h;obtain⟨g1,g2⟩:=flatGo_at h4;refine⟨by simp[g1],fun j f' k' hf hk=>?_⟩;cases j with
  | zero=>simp at hf hk;subst hf;subst hk;exact⟨h1,nbeq_true h2,h3⟩
  | succ j =>
   obtain⟨a,b,c⟩:=g2 j f' k' (by simpa using hf) (by simpa using hk);exact⟨a,by omega,c⟩
 | [],k::ks,i,h=>by cases h
 | f::fs,[],i,h=>by cases h
theorem flat_of{t:TypeId}{ks:List Bk}(h:flatB P t ks=true){vs:List Value}(hl:vs.length=ks.length)(hv:∀ (i:Nat) k v,ks[i]?=some k->vs[i]?=some v->BasV k v):FlatAgg P t vs:=by
 unfold flatB at h;split at h
 ·rename_i fs hu;simp only[Bool.and_eq_true,Bool.not_eq_true']at h;obtain⟨h1,h2⟩:=h;obtain⟨g1,g2⟩:=flatGo_at h1;refine .str fs hu h2 (by omega) fun i f v hf hvi=>?_;have hik:i<ks.length:=by have:=(List.getElem?_eq_some_iff.1 hf).1;omega
  have hk:=List.getElem?_eq_getElem hik;obtain⟨a,b,c⟩:=g2 i f _ hf hk;exact⟨a,by omega,basB_is c (hv i _ v hk hvi)⟩
 ·cases h
theorem flat_ints{t:TypeId}{vs:List Int}(h:flatB P t (vs.map fun _=>Bk.i)=true):FlatAgg P t (vs.map fun n=>Value.int .i64 n):=by
 refine flat_of h (by simp) fun i k v hk hv=>?_;rw[List.getElem?_map]at hk hv;cases hx:vs[i]? with
 | none=>rw[hx]at hk;cases hk
 | some n=>rw[hx]at hk hv;cases hk;cases hv;exact⟨n,rfl⟩
def nestB(P:Program)(t:TypeId):Bool:=match P.underlying t with
 | some (.struct fs)=>match fs.toList with
  | [a, b] => a.name != "_" && b.name != "_" && Nat.beq a.offset 0 && Nat.beq b.offset 1 && basB P a.type .i && flatB P b.type [.i, .i] && isAggT P b.type && (match P.info? b.type with | some i => Nat.beq i.size 2 | none => false) && !P.stoodInHeld t
  | _=>false
 | _=>false
def nestB2(P:Program)(t:TypeId):Bool:=match P.underlying t with
 | some (.struct fs)=>match fs.toList with
  | [a, b] => a.name != "_" && b.name != "_" && Nat.beq a.offset 0 && Nat.beq b.offset 2 && basB P b.type .i && flatB P a.type [.i, .i] && isAggT P a.type && (match P.info? a.type with | some i => Nat.beq i.size 2 | none => false) && !P.stoodInHeld t
  | _=>false
 | _=>false
theorem bas_i{t:TypeId}(h5:basB P t .i=true):P.underlying t=some (.int .i64):=by
 rcases basB_is h5 (v:=.int .i64 0) ⟨0,rfl⟩ with⟨hh,_⟩|⟨_,_,hh⟩|⟨_,_,hh⟩
 ·exact hh
 ·cases hh
 ·cases hh
theorem nest_of2{t:TypeId}(h:nestB2 P t=true):NestT P t:=by
 unfold nestB2 at h;split at h
 ·rename_i fs hu;split at h
  ·rename_i a b hl;simp only[Bool.and_eq_true,Bool.not_eq_true',bne_iff_ne,ne_eq]at h;obtain⟨⟨⟨⟨⟨⟨⟨⟨h1,h2⟩,h3⟩,h4⟩,h5⟩,h6⟩,h7⟩,h8⟩,h9⟩:=h;split at h8
   ·rename_i i hi;exact .mk2 a b fs i hl hu h9 h1 h2 (nbeq_true h3) (nbeq_true h4) (bas_i h5) (fun n u=>flat_ints (vs:=[n,u]) h6) h7 hi (nbeq_true h8)
   ·cases h8
  ·cases h
 ·cases h
end
section
variable {P:Program} {E:Halt->Cells->Prop} {h:Cells}
variable {X:XP} {Q:Leaf->LH->Prop}
theorem t_indexS{h:LH}{K:Value->T}{t:TypeId}{s:ByteArray}{i:Nat}{c:UInt8}(hu:P.underlying t=some .string)(hc:s.data[i]?=some c)(hk:(K (.int .u8 (c.toNat:Int))).wp X P Q h):(T.sem false (Instr.index t (.string s) (.int .i64 (i:Int))) K).wp X P Q h:=by
 refine t_sem (A:=fun w h'=>h'=h.get/\w=.int .u8 (c.toNat:Int)) ?_ (by rintro w h' ⟨rfl,rfl⟩;exact hk);unfold Instr.index;simp only[asIntOf,lwp_bind,lwp_pure,lwp_underlying hu];have hi:i<s.size:=(Array.getElem?_eq_some_iff.1 hc).1;have h1:s[(i:Int).toNat]?=some c:=by
  rw[Int.toNat_natCast,getElem?_pos s i hi];have:=Array.getElem?_eq_getElem (xs:=s.data) (i:=i) hi;rw[this]at hc;exact hc
 rw[if_pos (by omega),h1];exact⟨rfl,rfl⟩
end
end Go.TM
namespace Go.Y.Tre
section
open Go.TM.Tr
attribute [local irreducible] T.wp CV FWK
theorem not_and_false{a b:Bool}(h:a=false):(a&&b)=false:=by rw[h];rfl
def numsB(x:TF):Bool:=inB x.items 0 5&&(inB x.lands 1 3&&(dayB x.start&&(dayB x.depend&&(dayB x.refuse&&dayB x.turn))))
theorem nums_ok{x:TF}(h:numsB x=true):IsI (x.lands-1)/\IsI (x.items-1):=by
 simp[numsB,inB]at h;unfold IsI;omega
theorem checkT_nums{x:TF}(h:numsB x=false):checkT x=1:=by unfold checkT;exact if_pos h
theorem checkT_many{x:TF}(h:numsB x=true)(h2:10<x.events.length):checkT x=2:=by
 unfold checkT;rw[if_neg (by unfold numsB at h;rw[h];simp),if_pos h2]
theorem checkT_each{x:TF}(h:numsB x=true)(h2:¬ 10<x.events.length):checkT x=firstT (fun _ e=>eventT x e) 0 x.events:=by
 unfold checkT;rw[if_neg (by unfold numsB at h;rw[h];simp),if_neg h2]
theorem check_is{x:TF}(h:checkT x=0):IsI (x.lands-1)/\IsI (x.items-1):=by
 have:=check_numbers h;unfold IsI;omega
theorem c2021{h:LH}(hk:Kinds h.get){f:TC}{x:TF}(hx:TreatyR h.get f x):Pu Tryz.prog 69 #[treatyV f x] h (.int .i64 (checkT x)):=by
 refine w2021 _ _ _ _ _ _ _ _ _ X0_ok ?_;unfold n2021;have hn:=hx.2.1;have hb:=hx.2.2.1;refine t_blk (fun vs h'=>vs=[.int .i64 0]/\numsB x=true/\h=h') ?_ ?_
 ·refine t_pu (c2052 _ _ _) ?_;refine yI (fun e=>?_) (fun e0=>?_)
  ·refine gI ?_;refine gZ ?_;exact t_ret ⟨by rw[checkT_nums (not_and_false (by simpa using e))],rfl⟩
  have e0:inB x.items 0 5=true:=by simpa using e0
  refine t_pu (c2052 _ _ _) ?_;refine yI (fun e=>?_) (fun e1=>?_)
  ·refine gI ?_;refine gZ ?_;have e:inB x.lands 1 3=false:=by simpa using e
   exact t_ret ⟨by rw[checkT_nums (by simp[numsB,e])],rfl⟩
  have e1:inB x.lands 1 3=true:=by simpa using e1
  refine t_pu (c2053 _) ?_;refine yI (fun e=>?_) (fun e2=>?_)
  ·refine gI ?_;refine gZ ?_;have e:dayB x.start=false:=by simpa using e
   exact t_ret ⟨by rw[checkT_nums (by simp[numsB,e])],rfl⟩
  have e2:dayB x.start=true:=by simpa using e2
  refine t_pu (c2053 _) ?_;refine yI (fun e=>?_) (fun e3=>?_)
  ·refine gI ?_;refine gZ ?_;have e:dayB x.depend=false:=by simpa using e
   exact t_ret ⟨by rw[checkT_nums (by simp[numsB,e])],rfl⟩
  have e3:dayB x.depend=true:=by simpa using e3
  refine t_pu (c2053 _) ?_;refine yI (fun e=>?_) (fun e4=>?_)
  ·refine gI ?_;refine gZ ?_;have e:dayB x.refuse=false:=by simpa using e
   exact t_ret ⟨by rw[checkT_nums (by simp[numsB,e])],rfl⟩
  have e4:dayB x.refuse=true:=by simpa using e4
  refine t_pu (c2053 _) ?_;refine yI (fun e=>?_) (fun e5=>?_)
  ·refine gI ?_;refine gZ ?_;have e:dayB x.turn=false:=by simpa using e
   exact t_ret ⟨by rw[checkT_nums (by simp[numsB,e])],rfl⟩
  have e5:dayB x.turn=true:=by simpa using e5
  exact t_again ⟨rfl,by simp[numsB,e0,e1,e2,e3,e4,e5],rfl⟩
 rintro vs _ ⟨rfl,hnum,rfl⟩;refine yJ (fun e=>?_) (fun e=>?_)
 ·exact t_ret ⟨by rw[checkT_many hnum (by omega)],rfl⟩
 have hck:=checkT_each hnum (by omega);refine t_loop (fun mm vs h'=>h=h'/\∃ i:Nat,vs=[.int .i64 0,.int .i64 i]/\i<=f.n/\mm=f.n-i/\checkT x=firstT (fun _ e=>eventT x e) i (x.events.drop i)) ⟨rfl,0,rfl,Nat.zero_le _,rfl,hck⟩ ?_;rintro Y mm vs _ hY ⟨rfl,i,rfl,hi,rfl,hc⟩;refine yJ (fun e1=>?_) (fun e1=>?_)
 ·obtain⟨y,a,hy,ha,g0,g1,g2,⟨q,m,c,g3,_,g5⟩,g4⟩:=hx.2.at (i:=i) (by omega);rw[drop_of hy,firstT]at hc;refine gZ ?_;refine t_pu (c2054 hk (f:=f) (x:=x) (e:=y) (nums_ok hnum).1 (nums_ok hnum).2 g5) ?_;refine yI (fun d=>?_) (fun d=>?_)
  ·refine gZ ?_;rw[if_pos (by simpa using d)]at hc;exact t_ret ⟨by rw[hc],rfl⟩
  ·rw[if_neg (by simpa using d)]at hc;refine t_again (hY (f.n-(i+1)) _ _ (by omega) ⟨rfl,i+1,?_,by omega,rfl,hc⟩);rw[wrap_id (by omega) (by omega)];rfl
 ·refine gZ ?_;rw[List.drop_eq_nil_of_le (by omega),firstT]at hc;exact t_ret ⟨by rw[hc],rfl⟩
def askedT(x:TF)(land:Int):Int:=if checkT x≠0 then checkT x else if inB land 0 (x.lands-1)=false then 6 else 0
def askedDayT(x:TF)(land day:Int):Int:=if askedT x land≠0 then askedT x land else if dayB day then 0 else 1
def askedItemT(x:TF)(land item:Int):Int:=if askedT x land≠0 then askedT x land else if inB item 0 (x.items-1) then 0 else 6
def askedAllT(x:TF)(land item day:Int):Int:=if askedItemT x land item≠0 then askedItemT x land item else if dayB day then 0 else 1
theorem asked_ok{x:TF}{land:Int}(h:askedT x land=0):checkT x=0/\inB land 0 (x.lands-1)=true:=by
 unfold askedT at h;split at h
 ·rename_i h1;exact absurd h h1
 ·rename_i h1;split at h
  ·cases h
  ·rename_i h2;exact⟨by simpa using h1,by simpa using h2⟩
theorem askedDay_ok{x:TF}{land day:Int}(h:askedDayT x land day=0):askedT x land=0/\dayB day=true:=by
 unfold askedDayT at h;split at h
 ·rename_i h1;exact absurd h h1
 ·rename_i h1;split at h
  ·rename_i h2;exact⟨by simpa using h1,h2⟩
  ·cases h
theorem askedItem_ok{x:TF}{land item:Int}(h:askedItemT x land item=0):askedT x land=0/\inB item 0 (x.items-1)=true:=by
 unfold askedItemT at h;split at h
 ·rename_i h1;exact absurd h h1
 ·rename_i h1;split at h
  ·rename_i h2;exact⟨by simpa using h1,h2⟩
  ·cases h
theorem askedAll_ok{x:TF}{land item day:Int}(h:askedAllT x land item day=0):askedItemT x land item=0/\dayB day=true:=by
 unfold askedAllT at h;split at h
 ·rename_i h1;exact absurd h h1
 ·rename_i h1;split at h
  ·rename_i h2;exact⟨by simpa using h1,h2⟩
  ·cases h
theorem c2079{h:LH}(hk:Kinds h.get){f:TC}{x:TF}(hx:TreatyR h.get f x)(land:Int):Pu Tryz.prog 52 #[treatyV f x,land] h (.int .i64 (askedT x land)):=by
 refine w2079 _ _ _ _ _ _ _ _ _ _ X0_ok ?_;unfold n2079;refine t_pu (c2021 hk hx) ?_;refine yI (fun e=>?_) (fun e=>?_)
 ·exact t_ret ⟨by rw[askedT,if_pos (by simpa using e)],rfl⟩
 have e:checkT x=0:=by simpa using e
 have hi:=check_is e;rw[wrap_id hi.1.1 hi.1.2];refine t_pu (c2052 _ _ _) ?_;refine yI (fun d=>?_) (fun d=>?_)
 ·exact t_ret ⟨by rw[askedT,if_neg (by simp[e]),if_pos (by simpa using d)],rfl⟩
 ·exact t_ret ⟨by rw[askedT,if_neg (by simp[e]),if_neg (by simp at d;simp[d])],rfl⟩
theorem c2063{h:LH}(hk:Kinds h.get){f:TC}{x:TF}(hx:TreatyR h.get f x)(land day:Int):Pu Tryz.prog 37 #[treatyV f x,land,day] h (.int .i64 (askedDayT x land day)):=by
 refine w2063 _ _ _ _ _ _ _ _ _ _ _ X0_ok ?_;unfold n2063;refine t_pu (c2079 hk hx land) ?_;refine yI (fun e=>?_) (fun e=>?_)
 ·exact t_ret ⟨by rw[askedDayT,if_pos (by simpa using e)],rfl⟩
 have e:askedT x land=0:=by simpa using e
 refine t_pu (c2053 _) ?_;refine yI (fun d=>?_) (fun d=>?_)
 ·exact t_ret ⟨by rw[askedDayT,if_neg (by simp[e]),if_pos d,e],rfl⟩
 ·exact t_ret ⟨by rw[askedDayT,if_neg (by simp[e]),if_neg (by simp[d])],rfl⟩
theorem c2058{h:LH}(hk:Kinds h.get){f:TC}{x:TF}(hx:TreatyR h.get f x)(land item:Int):Pu Tryz.prog 39 #[treatyV f x,land,item] h (.int .i64 (askedItemT x land item)):=by
 refine w2058 _ _ _ _ _ _ _ _ _ _ _ X0_ok ?_;unfold n2058;refine t_pu (c2079 hk hx land) ?_;refine yI (fun e=>?_) (fun e=>?_)
 ·exact t_ret ⟨by rw[askedItemT,if_pos (by simpa using e)],rfl⟩
 have e:askedT x land=0:=by simpa using e
 have hi:=check_is (asked_ok e).1;rw[wrap_id hi.2.1 hi.2.2];refine t_pu (c2052 _ _ _) ?_;refine yI (fun d=>?_) (fun d=>?_)
 ·exact t_ret ⟨by rw[askedItemT,if_neg (by simp[e]),if_pos d,e],rfl⟩
 ·exact t_ret ⟨by rw[askedItemT,if_neg (by simp[e]),if_neg (by simp[d])],rfl⟩
theorem c2066{h:LH}(hk:Kinds h.get){f:TC}{x:TF}(hx:TreatyR h.get f x)(land item day:Int):Pu Tryz.prog 42 #[treatyV f x,land,item,day] h (.int .i64 (askedAllT x land item day)):=by
 refine w2066 _ _ _ _ _ _ _ _ _ _ _ _ X0_ok ?_;unfold n2066;refine t_pu (c2058 hk hx land item) ?_;refine yI (fun e=>?_) (fun e=>?_)
 ·exact t_ret ⟨by rw[askedAllT,if_pos (by simpa using e)],rfl⟩
 have e:askedItemT x land item=0:=by simpa using e
 refine t_pu (c2053 _) ?_;refine yI (fun d=>?_) (fun d=>?_)
 ·exact t_ret ⟨by rw[askedAllT,if_neg (by simp[e]),if_pos d,e],rfl⟩
 ·exact t_ret ⟨by rw[askedAllT,if_neg (by simp[e]),if_neg (by simp[d])],rfl⟩
end
section
open Go.TM.Tr
attribute [local irreducible] T.wp CV FWK
def matV(f:TC)(x:TF)(k i:Int):Value:=.agg #[.int .i64 x.items,.int .i64 x.lands,.int .i64 x.start,.int .i64 x.depend,.int .i64 x.refuse,.int .i64 x.turn,.slice f.p f.n f.c,.int .i64 k,.int .i64 i]
structure MatAt(h:Cells)(a:Addr)(f:TC)(x:TF)(k i:Int):Prop where
 f0:h.cell? ((a.add 0).add 0)=some (.int .i64 x.items)
 f1:h.cell? ((a.add 0).add 1)=some (.int .i64 x.lands)
 f2:h.cell? ((a.add 0).add 2)=some (.int .i64 x.start)
 f3:h.cell? ((a.add 0).add 3)=some (.int .i64 x.depend)
 f4:h.cell? ((a.add 0).add 4)=some (.int .i64 x.refuse)
 f5:h.cell? ((a.add 0).add 5)=some (.int .i64 x.turn)
 f6:h.cell? ((a.add 0).add 6)=some (.slice f.p f.n f.c)
 f7:h.cell? ((a.add 0).add 7)=some (.int .i64 k)
 f8:h.cell? ((a.add 0).add 8)=some (.int .i64 i)
theorem MatAt.rd{h h':Cells}{a:Addr}{f:TC}{x:TF}{k i:Int}(hl:Rd h h')(m:MatAt h a f x k i):MatAt h' a f x k i :=
 ⟨hl _ _ m.f0,hl _ _ m.f1,hl _ _ m.f2,hl _ _ m.f3,hl _ _ m.f4,hl _ _ m.f5,hl _ _ m.f6,hl _ _ m.f7,hl _ _ m.f8⟩
theorem MatAt.le{h h':Cells}{a:Addr}{f:TC}{x:TF}{k i:Int}(hl:h.le h')(m:MatAt h a f x k i):MatAt h' a f x k i:=m.rd (Rd.of_le hl)
theorem add_zero'(a:Addr):a.add 0=a:=by unfold Addr.add;simp
theorem add_zero2(a:Addr)(i:Nat):(a.add 0).add i=a.add i:=by rw[add_zero']
theorem MatAt.s7{h:Cells}{a:Addr}{f:TC}{x:TF}{k i:Int}(m:MatAt h a f x k i):h.cell? (a.add 7)=some (.int .i64 k):=by have:=m.f7;rwa[add_zero2]at this
theorem MatAt.s8{h:Cells}{a:Addr}{f:TC}{x:TF}{k i:Int}(m:MatAt h a f x k i):h.cell? (a.add 8)=some (.int .i64 i):=by have:=m.f8;rwa[add_zero2]at this
def allB(K:Nat)(k i:Int)(e:Ev):Bool:=(e.kind==(K:Int))&&((!landK K||(e.land==k))&&e.items.contains i)
theorem allB_about{K:Nat}(hK:K≠4)(k i:Int)(e:Ev):allB K k i e=about e K k i:=by
 unfold allB about landK;have:Nat.beq K 4=false:=by
  cases hb:Nat.beq K 4 with
  | false=>rfl
  | true=>exact absurd (Nat.eq_of_beq_eq_true hb) hK
 simp[this]
def handedE{α:Type}(V:Nat->Value)(s:α->Bool):List α->Nat->List (List Value)
 | [],_=>[]
 | x::l,i=>if s x then [V i]::handedE V s l (i+1) else handedE V s l (i+1)
theorem handedE_len{α:Type}(V:Nat->Value)(s:α->Bool):∀ (l:List α) (i:Nat),(handedE V s l i).length=(l.filter s).length:=by
 intro l
 induction l with
 | nil=>intro i;rfl
 | cons x l ih=>intro i;rw[handedE,List.filter_cons];split<;>simp[ih]
theorem handedE_get{α:Type}(V:Nat->Value)(s:α->Bool):∀ (l:List α) (i k:Nat) xs,(handedE V s l i)[k]?=some xs->∃ x j,(l.filter s)[k]?=some x/\l[j]?=some x/\xs=[V (i+j)]:=by
 intro l
 induction l with
 | nil=>intro i k xs h;simp[handedE]at h
 | cons x l ih =>
  intro i k xs h;rw[handedE]at h;rw[List.filter_cons];split at h
  ·rename_i hs;rw[if_pos hs];cases k with
   | zero=>simp at h;exact⟨x,0,rfl,rfl,by simp[<- h]⟩
   | succ k =>
    obtain⟨y,j,h1,h2,h3⟩:=ih (i+1) k xs (by simpa using h);exact⟨y,j+1,by simpa using h1,by simpa using h2,by rw[h3,show i+1+j=i+(j+1) by omega]⟩
  ·rename_i hs;rw[if_neg hs];obtain⟨y,j,h1,h2,h3⟩:=ih (i+1) k xs h;exact⟨y,j+1,h1,by simpa using h2,by rw[h3,show i+1+j=i+(j+1) by omega]⟩
def evV(e:Ev)(q:Option Addr)(m c:Nat):Value:=.agg #[.int .i64 e.kind,.int .i64 e.day,.int .i64 e.land,.slice q m c,.int .i64 e.since]
theorem hands2095{X:XP}(hX:XOK X){h₀:LH}(hk:Kinds h₀.get){z0 z1:Addr}{f:TC}{x:TF}{k i:Int}{K:Nat}(hK:K<7)(hm:MatAt h₀.get z0 f x k i)(hz1:h₀.get.cell? z1=some (.int .i64 (K:Int)))(hx:TreatyR h₀.get f x) :
  ∃ L,L.length=(x.events.filter (allB K k i)).length/\(∀ (j:Nat) xs,L[j]?=some xs->∃ e q m c,(x.events.filter (allB K k i))[j]?=some e/\xs=[evV e q m c]/\Sl IntE 1 h₀.get q m e.items) /\
   Hands X Tryz.prog (.func (.func 71) #[] #[.pointer (some z0),.pointer (some z1)]) h₀ L:=by
 have hs:=hx.2;let R:Nat->Value->Prop:=fun j v=>∃ e a q m c,x.events[j]?=some e/\f.p=some a/\v=evV e q m c/\h₀.get.cell? ((a.add (j*5)).add 0)=some (.int .i64 e.kind)/\h₀.get.cell? ((a.add (j*5)).add 1)=some (.int .i64 e.day)/\h₀.get.cell? ((a.add (j*5)).add 2)=some (.int .i64 e.land)/\h₀.get.cell? ((a.add (j*5)).add 3)=some (.slice q m c)/\h₀.get.cell? ((a.add (j*5)).add 4)=some (.int .i64 e.since)/\Sl IntE 1 h₀.get q m e.items;have hR:∀ j e,x.events[j]?=some e->∃ v,R j v:=by
  intro j e he;obtain⟨a,ha,e1,e2,e3,⟨q,m,c,e4,_,e5⟩,e6⟩:=hs.2.2 j e he;exact⟨_,e,a,q,m,c,he,ha,rfl,e1,e2,e3,e4,e6,e5⟩
 let V:Nat->Value:=fun j=>Classical.epsilon (R j);have hV:∀ j e,x.events[j]?=some e->R j (V j):=fun j e he=>Classical.epsilon_spec (hR j e he);refine⟨handedE V (allB K k i) x.events 0,handedE_len _ _ _ _,?_,?_⟩
 ·intro j xs hj;obtain⟨e,j',h1,h2,h3⟩:=handedE_get _ _ _ _ _ _ hj;rw[Nat.zero_add]at h3;obtain⟨e',a,q,m,c,g1,_,g3,_,_,_,_,_,g8⟩:=hV j' e h2;rw[h2]at g1;cases g1;exact⟨e,q,m,c,h1,by rw[h3,g3],g8⟩
 ·intro y J E _ _ hyield h hle hJ;generalize hL:handedE V (allB K k i) x.events 0=L at hyield ⊢;refine cv_fw hX (by rfl) (?_:FW X Tryz.prog 71 #[y,.pointer (some z0),.pointer (some z1)] h _);refine w2095 _ _ _ hX ?_;unfold n2095;have hn:=hs.1;have hb:=hs.2.1;have y6:=Cells.cell?_le hle.1 hm.f6;refine gL1 y6 ?_;refine t_loop (fun mm vs h'=>h₀.le h'/\∃ (j cnt:Nat),vs=[.int .i64 j]/\j<=f.n/\mm=f.n-j/\J cnt h'/\cnt<=L.length/\L.drop cnt=handedE V (allB K k i) (x.events.drop j) j) (n:=f.n) ⟨hle,0,0,rfl,Nat.zero_le _,by omega,hJ,Nat.zero_le _,by rw[<- hL];rfl⟩ ?_;rintro Y mm vs h₁ hY ⟨le1,j,cnt,rfl,hj,rfl,hJ1,hcl,hdrop⟩;refine yJ (fun e1=>?_) (fun e1=>?_)
  ·obtain⟨e,he⟩ : ∃ e,x.events[j]?=some e:=⟨x.events[j]'(by omega),List.getElem?_eq_getElem (by omega)⟩
   obtain⟨e',a,q,m,c,g1,ha,hVj,c0,c1,c2,c3,c4,hit⟩:=hV j e he;rw[he]at g1;cases g1;have d0:=Cells.cell?_le le1.1 c0;have d1:=Cells.cell?_le le1.1 c1;have d2:=Cells.cell?_le le1.1 c2;have d3:=Cells.cell?_le le1.1 c3;have d4:=Cells.cell?_le le1.1 c4;have w1:=Cells.cell?_le le1.1 hz1;have m1:=hm.le le1.1;have w7:=m1.s7;have w8:=m1.s8;have kl:=(hk.le le1.1).landAt' hK;have kl2:=(hk.le le1.1).landAt hK;rw[drop_of he,handedE]at hdrop;refine gZ ?_;have skip:allB K k i e=false->Y [.int .i64 (wrap .i64 ((j:Int)+1))] h₁:=by
    intro hno;rw[if_neg (by rw[hno];simp)]at hdrop;refine hY (f.n-(j+1)) _ _ (by omega) ⟨le1,j+1,cnt,?_,by omega,rfl,hJ1,hcl,hdrop⟩;rw[wrap_id (by omega) (by omega)];rfl
   refine t_blk (fun vs h'=>vs=[.bool (!landK K||(e.land==k))]/\h₁=h') ?_ ?_
   ·refine yI (fun e2=>?_) (fun e2=>?_)
    ·exact t_again ⟨by simp at e2;rw[e2];rfl,rfl⟩
    ·refine gZ ?_;exact t_again ⟨by simp at e2;rw[e2];rfl,rfl⟩
   rintro vs _ ⟨rfl,rfl⟩;refine yI (fun e2=>?_) (fun e2=>?_)
   ·refine t_cond (fun e3=>?_) (fun e3=>?_)
    ·refine gZ ?_;refine t_pu (c100 (hit.le IntE.grow le1.1) i) ?_;refine yI (fun e4=>?_) (fun e4=>?_)
     ·have hsh:allB K k i e=true:=by unfold allB;rw[e2,e3,e4];rfl
      rw[if_pos hsh]at hdrop;have hget:L[cnt]?=some [V j]:=by
       have:(L.drop cnt)[0]?=some [V j]:=by rw[hdrop];rfl
       simpa using this
      have hlt:cnt<L.length:=(List.getElem?_eq_some_iff.1 hget).1;have hcv:=hyield cnt h₁ [V j] le1 hget hJ1;rw[hVj]at hcv;refine t_callv hcv ?_;rintro b h₂ ⟨le2,⟨rfl,hJ2⟩|⟨rfl,hE⟩⟩
      ·refine yF ?_;refine t_again (hY (f.n-(j+1)) _ _ (by omega) ⟨le2,j+1,cnt+1,?_,by omega,rfl,hJ2,by omega,?_⟩)
       ·rw[wrap_id (by omega) (by omega)];rfl
       ·rw[<- List.drop_drop,hdrop];rfl
      ·refine yT ?_;refine gZ ?_;exact t_ret ⟨le2,.inr hE⟩
     ·exact t_again (skip (by unfold allB;rw[e4];simp))
    ·exact t_again (skip (by unfold allB;rw[e3];simp))
   ·exact t_again (skip (by unfold allB;rw[e2];rfl))
  ·refine gZ ?_;refine t_ret ⟨le1,.inl ?_⟩;rw[List.drop_eq_nil_of_le (by omega:x.events.length<=j),handedE]at hdrop;have:cnt=L.length:=by
    have:=List.drop_eq_nil_iff.1 hdrop;omega
   rw[<- this];exact hJ1
theorem c2083{h:LH}(f:TC)(x:TF)(k i:Int)(K:Int):Gr Tryz.prog 55 #[matV f x k i,K] h fun r h'=>∃ z0 z1,r=.func (.func 71) #[] #[.pointer (some z0),.pointer (some z1)]/\MatAt h'.get z0 f x k i/\h'.get.cell? z1=some (.int .i64 K):=by
 refine w2083 _ _ _ _ _ _ _ _ _ _ _ _ X0_ok ?_;unfold n2083;refine t_new fun r hr=>?_;refine t_new fun r1 hr1=>?_;have l1:h.le _:=LH.upd_le (x:=(true,.cells #[.int .i64 x.items,.int .i64 x.lands,.int .i64 x.start,.int .i64 x.depend,.int .i64 x.refuse,.int .i64 x.turn,.slice f.p f.n f.c,.int .i64 k,.int .i64 i] 86 (0,0))) hr;have l2:=LH.upd_le (x:=(true,.cells #[.int .i64 K] 47 (0,0))) hr1;refine t_ret ⟨LH.le_trans l1 l2,_,_,rfl,?_,cell_upd rfl⟩;refine MatAt.le l2.1 ?_;constructor<;>(rw[add_plain,add_plain];exact cell_upd rfl)
theorem t_all{X:XP}{Q:Leaf->LH->Prop}{h:LH}{kk:Value->T}(hX:XOK X)(hk:Kinds h.get){f:TC}{x:TF}(hx:TreatyR h.get f x)(k i:Int)(K:Nat)(hK:K<7)
 (hw:∀ v h' L,h.le h'->L.length=(x.events.filter (allB K k i)).length->(∀ (j:Nat) xs,L[j]?=some xs->∃ e q m c,(x.events.filter (allB K k i))[j]?=some e/\xs=[evV e q m c]/\Sl IntE 1 h'.get q m e.items)->Hands X Tryz.prog v h' L->(kk v).wp X Tryz.prog Q h') :
  (T.call false 55 #[matV f x k i,.int .i64 (K:Int)] kk).wp X Tryz.prog Q h:=by
 refine t_gr (c2083 f x k i K) ?_;rintro _ h₁ le1 ⟨z0,z1,rfl,hm,hz⟩;obtain⟨L,h1,h2,h3⟩:=hands2095 hX (hk.le le1.1) hK hm hz (hx.le le1.1);exact hw _ h₁ L le1 h1 h2 h3
def leastFrom(a:Int):List Int->Int
 | []=>a
 | y::l=>leastFrom (if y<a then y else a) l
theorem least_nil:least []=10000:=rfl
theorem least_cons(y:Int)(l:List Int):least (y::l)=if y<least l then y else least l:=rfl
theorem leastFrom_min:∀ (l:List Int) (a:Int),a<=10000->leastFrom a l=(if a<least l then a else least l)
 | [],a,h=>by
  rw[leastFrom,least_nil];split<;>omega
 | y::l,a,h=>by
  have hc:=least_cap l;rw[leastFrom,leastFrom_min l _ (by split<;>omega),least_cons];generalize least l=b at hc ⊢;by_cases e1:y<a<;>by_cases e2:y<b<;>by_cases e3:a<b<;>by_cases e4:a<y<;>simp[e1,e2,e3,e4]<;>omega
theorem leastFrom_cap(l:List Int):leastFrom 10000 l=least l:=by
 rw[leastFrom_min l _ (Int.le_refl _)];have hc:=least_cap l;split<;>omega
theorem fallsL_all(x:TF)(k i fr:Int):fallsL x i fr=((x.events.filter (allB 4 k i)).filter fun e=>decide (e.since<=x.start+x.depend)&&decide (fr<=e.day)).map (·.day):=by
 unfold fallsL;rw[List.filter_filter];congr 1;refine List.filter_congr fun e _=>?_;unfold Tr.early allB landK;have h4:Nat.beq 4 4=true:=rfl;rw[h4,Bool.not_true,Bool.not_false,Bool.true_or,Bool.true_and];show ((e.kind==4)&&decide (e.since<=x.start+x.depend)&&(e.items.contains i&&decide (fr<=e.day)))=(decide (e.since<=x.start+x.depend)&&decide (fr<=e.day)&&((e.kind==4)&&e.items.contains i));cases (e.kind==4)<;>cases decide (e.since<=x.start+x.depend)<;>cases e.items.contains i<;>cases decide (fr<=e.day)<;>rfl
theorem limitsL_all(x:TF)(k i fr:Int):limitsL x k i fr=((x.events.filter (allB 3 k i)).filter fun e=>decide (fr<=e.day)).map (·.day):=by
 unfold limitsL;rw[List.filter_filter];congr 1;refine List.filter_congr fun e _=>?_;rw[allB_about (by decide)];rw[Bool.and_comm];rfl
theorem c2096{h:LH}(hk:Kinds h.get){f:TC}{x:TF}(hx:TreatyR h.get f x)(hsum:IsI (x.start+x.depend))(k i fr:Int):Gr Tryz.prog 75 #[matV f x k i,fr] h fun r _=>r=.int .i64 (falls x i fr):=by
 refine w2096 _ _ _ _ _ _ _ _ _ _ _ _ X0_ok ?_;unfold n2096;refine t_all X0_ok hk hx k i 4 (by decide) ?_;intro v h₁ L le1 hL1 hL2 hH;rw[falls,fallsL_all x k i fr];generalize hF:x.events.filter (allB 4 k i)=F at hL1 hL2;refine t_each (LH.le_refl h₁) hH (fun j vs h'=>∃ d:Int,vs=[.int .i64 d]/\d<=10000/\least ((F.filter fun e=>decide (e.since<=x.start+x.depend)&&decide (fr<=e.day)).map (·.day))=leastFrom d (((F.drop j).filter fun e=>decide (e.since<=x.start+x.depend)&&decide (fr<=e.day)).map (·.day)))
  ⟨10000,rfl,Int.le_refl _,(leastFrom_cap _).symm⟩ ?_ ?_
 ·rintro vs h' hle ⟨d,rfl,_,hc⟩;rw[List.drop_eq_nil_of_le (by omega)]at hc;refine gZ ?_;exact t_ret ⟨LH.le_trans le1 hle,by rw[hc];rfl⟩
 ·rintro j xs vs h' hj hle ⟨d,rfl,hd,hc⟩ Y hY;obtain⟨e,q,m,c,he,rfl,hit⟩:=hL2 j xs hj;rw[drop_of he,List.filter_cons]at hc;unfold evV;refine gZ ?_;rw[wrap_id hsum.1 hsum.2];refine t_if (fun e1=>?_) (fun e1=>?_)
  ·refine t_if (fun e2=>?_) (fun e2=>?_)
   ·rw[if_pos (by simp;omega),List.map_cons,leastFrom]at hc;exact t_againE hle (hY _ _ hle ⟨_,rfl,by split<;>omega,hc⟩)
   ·rw[if_neg (by simp;omega)]at hc;exact t_againE hle (hY _ _ hle ⟨_,rfl,hd,hc⟩)
  ·rw[if_neg (by simp;omega)]at hc;exact t_againE hle (hY _ _ hle ⟨_,rfl,hd,hc⟩)
theorem c2094{h:LH}(hk:Kinds h.get){f:TC}{x:TF}(hx:TreatyR h.get f x)(k i fr:Int):Gr Tryz.prog 70 #[matV f x k i,fr] h fun r _=>r=.int .i64 (limits x k i fr):=by
 refine w2094 _ _ _ _ _ _ _ _ _ _ _ _ X0_ok ?_;unfold n2094;refine t_all X0_ok hk hx k i 3 (by decide) ?_;intro v h₁ L le1 hL1 hL2 hH;rw[limits,limitsL_all x k i fr];generalize hF:x.events.filter (allB 3 k i)=F at hL1 hL2;refine t_each (LH.le_refl h₁) hH (fun j vs h'=>∃ d:Int,vs=[.int .i64 d]/\d<=10000/\least ((F.filter fun e=>decide (fr<=e.day)).map (·.day))=leastFrom d (((F.drop j).filter fun e=>decide (fr<=e.day)).map (·.day)))
  ⟨10000,rfl,Int.le_refl _,(leastFrom_cap _).symm⟩ ?_ ?_
 ·rintro vs h' hle ⟨d,rfl,_,hc⟩;rw[List.drop_eq_nil_of_le (by omega)]at hc;refine gZ ?_;exact t_ret ⟨LH.le_trans le1 hle,by rw[hc];rfl⟩
 ·rintro j xs vs h' hj hle ⟨d,rfl,hd,hc⟩ Y hY;obtain⟨e,q,m,c,he,rfl,hit⟩:=hL2 j xs hj;rw[drop_of he,List.filter_cons]at hc;unfold evV;refine yJ (fun e2=>?_) (fun e2=>?_)
  ·rw[if_pos (by simp;omega),List.map_cons,leastFrom]at hc;exact t_againE hle (hY _ _ hle ⟨_,rfl,by split<;>omega,hc⟩)
  ·rw[if_neg (by simp;omega)]at hc;exact t_againE hle (hY _ _ hle ⟨_,rfl,hd,hc⟩)
end
end Go.Y.Tre
namespace Go.Y
section
set_option maxHeartbeats 0
set_option linter.unusedVariables false
variable {X:XP} {h:LH} {A:Value->LH->Prop}
def n3501(b_0p:Option Addr)(b_0n b_0c:Nat)(b_1p:Option Addr)(b_1n b_1c:Nat)(b_2p:Option Addr)(b_2n b_2c:Nat)(b_3p:Option Addr)(b_3n b_3c:Nat):T:=.blk (bif decide ((↑b_0n:Int)>20) then .rn [true] else bif decide ((↑b_1n:Int)>20) then .rn [true] else bif decide ((↑b_2n:Int)>20) then .rn [true] else bif decide ((↑b_3n:Int)>20) then .rn [true] else .ag [false]) (fun vs=>.popB vs fun b vs=>.unNil vs (.loop [b,.int .i64 0] (fun vs=>.popB vs fun b vs=>.pi vs fun n vs=>.unNil vs (bif decide (n<(↑b_0n:Int)) then .need (0<=n/\n<(↑b_0n:Int)) (.someA b_0p fun a=>.loadStr (a.add (n.toNat*1)) fun s=>.sem false (Builtin.len_ #[9] 3 #[.string s]) fun v=>.ui v fun n_1=>bif decide (n_1>100) then .rn [true,n] else .ag [b,.int .i64 (wrap .i64 (n+1))]) else .bk [b,n])) (fun vs=>.popB vs fun b vs=>.pi vs fun n vs=>.unNil vs (.loop [b,.int .i64 0] (fun vs=>.popB vs fun b vs=>.pi vs fun n vs=>.unNil vs (bif decide (n<(↑b_1n:Int)) then .need (0<=n/\n<(↑b_1n:Int)) (.someA b_1p fun a=>.loadStr (a.add (n.toNat*1)) fun s=>.sem false (Builtin.len_ #[9] 3 #[.string s]) fun v=>.ui v fun n_1=>bif decide (n_1>100) then .rn [true,n] else .ag [b,.int .i64 (wrap .i64 (n+1))]) else .bk [b,n])) (fun vs=>.popB vs fun b vs=>.pi vs fun n vs=>.unNil vs (.loop [b,.int .i64 0] (fun vs=>.popB vs fun b vs=>.pi vs fun n vs=>.unNil vs (bif decide (n<(↑b_2n:Int)) then .need (0<=n/\n<(↑b_2n:Int)) (.someA b_2p fun a=>.loadStr ((a.add (n.toNat*4)).add 0) fun s=>.sem false (Builtin.len_ #[9] 3 #[.string s]) fun v=>.ui v fun n_1=>bif decide (n_1>100) then .rn [true,n] else .need (0<=n/\n<(↑b_2n:Int)) (.someA b_2p fun a=>.loadS ((a.add (n.toNat*4)).add 3) fun p n_2 c=>bif decide ((↑n_2:Int)>20) then .rn [true,n] else .ag [b,.int .i64 (wrap .i64 (n+1))])) else .bk [b,n])) (fun vs=>.popB vs fun b vs=>.pi vs fun n vs=>.unNil vs (.loop [b,.int .i64 0] (fun vs=>.popB vs fun b vs=>.pi vs fun n vs=>.unNil vs (bif decide (n<(↑b_3n:Int)) then .need (0<=n/\n<(↑b_3n:Int)) (.someA b_3p fun a=>.loadStr ((a.add (n.toNat*8)).add 0) fun s=>.sem false (Builtin.len_ #[9] 3 #[.string s]) fun v=>.ui v fun n_1=>bif decide (n_1>100) then .rn [true,n] else .need (0<=n/\n<(↑b_3n:Int)) (.someA b_3p fun a=>.loadS ((a.add (n.toNat*8)).add 5) fun p n_2 c=>bif decide ((↑n_2:Int)>20) then .rn [true,n] else .ag [b,.int .i64 (wrap .i64 (n+1))])) else .bk [b,n])) (fun vs=>.popB vs fun b vs=>.pi vs fun n vs=>.unNil vs (.rt (.bool false))) (fun vs=>.popB vs fun b vs=>.pi vs fun n vs=>.unNil vs (.rt (.bool b))) fun x x_1=>.fail)) (fun vs=>.popB vs fun b vs=>.pi vs fun n vs=>.unNil vs (.rt (.bool b))) fun x x_1=>.fail)) (fun vs=>.popB vs fun b vs=>.pi vs fun n vs=>.unNil vs (.rt (.bool b))) fun x x_1=>.fail)) (fun vs=>.popB vs fun b vs=>.pi vs fun n vs=>.unNil vs (.rt (.bool b))) fun x x_1=>.fail)) (fun vs=>.popB vs fun b vs=>.unNil vs (.rt (.bool b))) fun x x_1=>.fail
theorem w3501(b_0p:Option Addr)(b_0n b_0c:Nat)(b_1p:Option Addr)(b_1n b_1c:Nat)(b_2p:Option Addr)(b_2n b_2c:Nat)(b_3p:Option Addr)(b_3n b_3c:Nat):FX X 5 #[.agg #[.slice b_0p b_0n b_0c,.slice b_1p b_1n b_1c,.slice b_2p b_2n b_2c,.slice b_3p b_3n b_3c]] h A (n3501 b_0p b_0n b_0c b_1p b_1n b_1c b_2p b_2n b_2c b_3p b_3n b_3c):=fk [1] [⟨0,[(2,.bool),(3,.int .i64)],[1],[],[],[]⟩,⟨2,[(2,.bool),(4,.int .i64)],[1],[],[],[]⟩,⟨4,[(2,.bool),(5,.int .i64)],[1],[],[],[]⟩,⟨6,[(2,.bool),(6,.int .i64)],[1],[],[],[]⟩] [⟨3,[(2,.bool)],[1],[],[],[]⟩] Tryz.f5
def n3502(b_0p:Option Addr)(b_0n b_0c:Nat)(b_1p:Option Addr)(b_1n b_1c:Nat)(b_2p:Option Addr)(b_2n b_2c:Nat)(b_3p:Option Addr)(b_3n b_3c:Nat):T:=.cI 13 #[.slice b_0p b_0n b_0c,.int .i64 6] fun n=>bif n != 0 then .rt (.int .i64 n) else .cI 13 #[.slice b_1p b_1n b_1c,.int .i64 4] fun n=>bif n != 0 then .rt (.int .i64 n) else bif decide ((↑b_2n:Int)>3) then .rt (.int .i64 2) else .loop [.int .i64 0,.int .i64 0] (fun vs=>.pi vs fun n vs=>.pi vs fun n_1 vs=>.unNil vs (bif decide (n_1<(↑b_2n:Int)) then .cI 14 #[.agg #[.slice b_0p b_0n b_0c,.slice b_1p b_1n b_1c,.slice b_2p b_2n b_2c,.slice b_3p b_3n b_3c],n_1] fun n_2=>bif n_2 != 0 then .rn [n_2,n_1] else .ag [n,.int .i64 (wrap .i64 (n_1+1))] else .bk [n,n_1])) (fun vs=>.pi vs fun n vs=>.pi vs fun n_1 vs=>.unNil vs (bif decide ((↑b_3n:Int)>8) then .rt (.int .i64 2) else .loop [n,.int .i64 0] (fun vs=>.pi vs fun n vs=>.pi vs fun n_2 vs=>.unNil vs (bif decide (n_2<(↑b_3n:Int)) then .cI 15 #[.agg #[.slice b_0p b_0n b_0c,.slice b_1p b_1n b_1c,.slice b_2p b_2n b_2c,.slice b_3p b_3n b_3c],n_2] fun n_3=>bif n_3 != 0 then .rn [n_3,n_2] else .ag [n,.int .i64 (wrap .i64 (n_2+1))] else .bk [n,n_2])) (fun vs=>.pi vs fun n vs=>.pi vs fun n vs=>.unNil vs (.rt (.int .i64 0))) (fun vs=>.pi vs fun n vs=>.pi vs fun n_2 vs=>.unNil vs (.rt (.int .i64 n))) fun x x_1=>.fail)) (fun vs=>.pi vs fun n vs=>.pi vs fun n_1 vs=>.unNil vs (.rt (.int .i64 n))) fun x x_1=>.fail
theorem w3502(b_0p:Option Addr)(b_0n b_0c:Nat)(b_1p:Option Addr)(b_1n b_1c:Nat)(b_2p:Option Addr)(b_2n b_2c:Nat)(b_3p:Option Addr)(b_3n b_3c:Nat):FX X 6 #[.agg #[.slice b_0p b_0n b_0c,.slice b_1p b_1n b_1c,.slice b_2p b_2n b_2c,.slice b_3p b_3n b_3c]] h A (n3502 b_0p b_0n b_0c b_1p b_1n b_1c b_2p b_2n b_2c b_3p b_3n b_3c):=fk [1] [⟨0,[(2,.int .i64),(5,.int .i64)],[1],[],[],[]⟩,⟨2,[(2,.int .i64),(7,.int .i64)],[1],[],[],[]⟩] [] Tryz.f6
def n3504(lp:Option Addr)(ln lc:Nat)(most:Int):T:=bif decide ((↑ln:Int)>most) then .rt (.int .i64 2) else .loop [.int .i64 0,.int .i64 0] (fun vs=>.pi vs fun n vs=>.pi vs fun n_1 vs=>.unNil vs (bif decide (n_1<(↑ln:Int)) then .need (0<=n_1/\n_1<(↑ln:Int)) (.someA lp fun a=>.loadStr (a.add (n_1.toNat*1)) fun s=>.cB 32 #[.string s] fun b=>bif !b then .rn [.int .i64 4,n_1] else .need (0<=n_1/\n_1<(↑ln:Int)) (.someA lp fun a=>.loadStr (a.add (n_1.toNat*1)) fun s=>.sem false (Instr.sliceAt 25 (.slice lp ln lc) none (some (.int .i64 n_1)) none) fun w=>.unS w fun a_1 n_2 c=>.loadStr (a.add (n_1.toNat*1)) fun s_1=>.ne (.string s_1) (.string s) (.need (0<=n_1/\n_1<(↑ln:Int)) (.someA lp fun a_2=>.ne (.pointer (some (a_2.add (n_1.toNat*1)))) (.pointer (some (a.add (n_1.toNat*1)))) (.nds [n_1,.S lp ln lc] (.cI 33 #[.slice a_1 n_2 c,.string s] fun n_3=>.need (0<=n_1/\n_1<(↑ln:Int)) (.someA lp fun a_3=>.ne (.pointer (some (a_3.add (n_1.toNat*1)))) (.pointer (some (a.add (n_1.toNat*1)))) (.nds [n_1,.S lp ln lc] (bif decide (n_3>=0) then .rn [.int .i64 5,n_1] else .ag [n,.int .i64 (wrap .i64 (n_1+1))]))))))))) else .bk [n,n_1])) (fun vs=>.pi vs fun n vs=>.pi vs fun n vs=>.unNil vs (.rt (.int .i64 0))) (fun vs=>.pi vs fun n vs=>.pi vs fun n_1 vs=>.unNil vs (.rt (.int .i64 n))) fun x x_1=>.fail
theorem w3504(lp:Option Addr)(ln lc:Nat)(most:Int):FX X 13 #[.slice lp ln lc,most] h A (n3504 lp ln lc most):=fk [] [⟨0,[(4,.int .i64),(5,.int .i64)],[],[],[],[]⟩] [] Tryz.f13
def n3505(b_0p:Option Addr)(b_0n b_0c:Nat)(b_1p:Option Addr)(b_1n b_1c:Nat)(b_2p:Option Addr)(b_2n b_2c:Nat)(b_3p:Option Addr)(b_3n b_3c:Nat)(i:Int):T:=.need (0<=i/\i<(↑b_2n:Int)) (.someA b_2p fun a=>.loadStr ((a.add (i.toNat*4)).add 0) fun s=>.li ((a.add (i.toNat*4)).add 1) fun n=>.li ((a.add (i.toNat*4)).add 2) fun n_1=>.loadS ((a.add (i.toNat*4)).add 3) fun p n_2 c=>.cB 32 #[.string s] fun b=>bif !b then .rt (.int .i64 4) else .loop [.int .i64 0,.int .i64 0] (fun vs=>.pi vs fun n vs=>.pi vs fun n_3 vs=>.unNil vs (bif decide (n_3<i) then .need (0<=n_3/\n_3<(↑b_2n:Int)) (.someA b_2p fun a=>.loadStr ((a.add (n_3.toNat*4)).add 0) fun s_1=>.sem false (Sem.bind (eqGuard BinOp.eql 9 (Operand.tmp 26) (Operand.tmp 28) (.string s_1) (.string s)) fun __r=>binOp BinOp.eql 9 (.string s_1) (.string s)) fun v=>.unB v fun b=>.nds [.pp 5 0,.val (.pointer (some ((a.add (n_3.toNat*4)).add 0)))] (.need (0<=n_3/\n_3<(↑b_2n:Int)) (.someA b_2p fun a_1=>.ne (.pointer (some (a_1.add (n_3.toNat*4)))) (.pointer (some (a.add (n_3.toNat*4)))) (.nds [n_3,.S b_2p b_2n b_2c,.pp 2 2] (bif b then .rn [.int .i64 5,n_3] else .ag [n,.int .i64 (wrap .i64 (n_3+1))]))))) else .bk [n,n_3])) (fun vs=>.pi vs fun n_3 vs=>.pi vs fun n_4 vs=>.unNil vs (.cB 34 #[.agg #[.slice b_0p b_0n b_0c,.slice b_1p b_1n b_1c,.slice b_2p b_2n b_2c,.slice b_3p b_3n b_3c],n] fun b=>bif !b then .rt (.int .i64 6) else .cB 29 #[n_1,.int .i64 0,.int .i64 99999] fun b=>bif !b then .rt (.int .i64 1) else .cI 35 #[.agg #[.slice b_0p b_0n b_0c,.slice b_1p b_1n b_1c,.slice b_2p b_2n b_2c,.slice b_3p b_3n b_3c],.slice p n_2 c] fun n=>.rt (.int .i64 n))) (fun vs=>.pi vs fun n vs=>.pi vs fun n_3 vs=>.unNil vs (.rt (.int .i64 n))) fun x x_1=>.fail)
theorem w3505(b_0p:Option Addr)(b_0n b_0c:Nat)(b_1p:Option Addr)(b_1n b_1c:Nat)(b_2p:Option Addr)(b_2n b_2c:Nat)(b_3p:Option Addr)(b_3n b_3c:Nat)(i:Int):FX X 14 #[.agg #[.slice b_0p b_0n b_0c,.slice b_1p b_1n b_1c,.slice b_2p b_2n b_2c,.slice b_3p b_3n b_3c],i] h A (n3505 b_0p b_0n b_0c b_1p b_1n b_1c b_2p b_2n b_2c b_3p b_3n b_3c i):=fk [2,5] [⟨0,[(4,.int .i64),(6,.int .i64)],[2,5],[],[],[]⟩] [] Tryz.f14
def n3506(b_0p:Option Addr)(b_0n b_0c:Nat)(b_1p:Option Addr)(b_1n b_1c:Nat)(b_2p:Option Addr)(b_2n b_2c:Nat)(b_3p:Option Addr)(b_3n b_3c:Nat)(i:Int):T:=.need (0<=i/\i<(↑b_3n:Int)) (.someA b_3p fun a=>.loadStr ((a.add (i.toNat*8)).add 0) fun s=>.li ((a.add (i.toNat*8)).add 1) fun n=>.li ((a.add (i.toNat*8)).add 2) fun n_1=>.li ((a.add (i.toNat*8)).add 3) fun n_2=>.li ((a.add (i.toNat*8)).add 4) fun n_3=>.loadS ((a.add (i.toNat*8)).add 5) fun p n_4 c=>.li ((a.add (i.toNat*8)).add 6) fun n_5=>.li ((a.add (i.toNat*8)).add 7) fun n_6=>.cB 32 #[.string s] fun b=>bif !b then .rt (.int .i64 4) else .loop [.int .i64 0,.int .i64 0] (fun vs=>.pi vs fun n vs=>.pi vs fun n_7 vs=>.unNil vs (bif decide (n_7<i) then .need (0<=n_7/\n_7<(↑b_3n:Int)) (.someA b_3p fun a=>.loadStr ((a.add (n_7.toNat*8)).add 0) fun s_1=>.sem false (Sem.bind (eqGuard BinOp.eql 9 (Operand.tmp 27) (Operand.tmp 29) (.string s_1) (.string s)) fun __r=>binOp BinOp.eql 9 (.string s_1) (.string s)) fun v=>.unB v fun b=>.nds [.pp 5 0,.val (.pointer (some ((a.add (n_7.toNat*8)).add 0)))] (.need (0<=n_7/\n_7<(↑b_3n:Int)) (.someA b_3p fun a_1=>.ne (.pointer (some (a_1.add (n_7.toNat*8)))) (.pointer (some (a.add (n_7.toNat*8)))) (.nds [n_7,.S b_3p b_3n b_3c,.pp 2 3] (bif b then .rn [.int .i64 5,n_7] else .ag [n,.int .i64 (wrap .i64 (n_7+1))]))))) else .bk [n,n_7])) (fun vs=>.pi vs fun n_7 vs=>.pi vs fun n_8 vs=>.unNil vs (.blk (bif decide (n<0) then .rn [.int .i64 1] else bif decide (n>3) then .rn [.int .i64 1] else .ag [n_7]) (fun vs=>.pi vs fun n_9 vs=>.unNil vs (.blk (.cB 34 #[.agg #[.slice b_0p b_0n b_0c,.slice b_1p b_1n b_1c,.slice b_2p b_2n b_2c,.slice b_3p b_3n b_3c],n_2] fun b=>bif !b then .rn [.int .i64 6] else .cB 34 #[.agg #[.slice b_0p b_0n b_0c,.slice b_1p b_1n b_1c,.slice b_2p b_2n b_2c,.slice b_3p b_3n b_3c],n_3] fun b=>bif !b then .rn [.int .i64 6] else .ag [n_9]) (fun vs=>.pi vs fun n_10 vs=>.unNil vs (bif n_2==n_3 then .rt (.int .i64 8) else .blk (bif n==1 then bif n_1 != 0 then .rn [.int .i64 1] else bif decide ((↑n_4:Int)>0) then .rn [.int .i64 1] else .ag [n_10] else .cB 29 #[n_1,.int .i64 0,.int .i64 (wrap .i64 ((↑b_2n:Int)-1))] fun b=>bif !b then .rn [.int .i64 6] else bif (↑n_4:Int)==0 then .rn [.int .i64 2] else .cI 35 #[.agg #[.slice b_0p b_0n b_0c,.slice b_1p b_1n b_1c,.slice b_2p b_2n b_2c,.slice b_3p b_3n b_3c],.slice p n_4 c] fun n=>bif n != 0 then .rn [n] else .ag [n_10]) (fun vs=>.pi vs fun n_11 vs=>.unNil vs (.cB 36 #[.agg #[n_5,n_6],.int .i64 0,.int .i64 99999] fun b=>bif !b then .rt (.int .i64 1) else bif n==0 then bif n_5 != n_6 then .rt (.int .i64 7) else .rt (.int .i64 0) else bif n==1 then bif n_5 != n_6 then .rt (.int .i64 7) else .rt (.int .i64 0) else .rt (.int .i64 0))) (fun vs=>.pi vs fun n vs=>.unNil vs (.rt (.int .i64 n))) fun x x_1=>.fail)) (fun vs=>.pi vs fun n vs=>.unNil vs (.rt (.int .i64 n))) fun x x_1=>.fail)) (fun vs=>.pi vs fun n vs=>.unNil vs (.rt (.int .i64 n))) fun x x_1=>.fail)) (fun vs=>.pi vs fun n vs=>.pi vs fun n_7 vs=>.unNil vs (.rt (.int .i64 n))) fun x x_1=>.fail)
theorem w3506(b_0p:Option Addr)(b_0n b_0c:Nat)(b_1p:Option Addr)(b_1n b_1c:Nat)(b_2p:Option Addr)(b_2n b_2c:Nat)(b_3p:Option Addr)(b_3n b_3c:Nat)(i:Int):FX X 15 #[.agg #[.slice b_0p b_0n b_0c,.slice b_1p b_1n b_1c,.slice b_2p b_2n b_2c,.slice b_3p b_3n b_3c],i] h A (n3506 b_0p b_0n b_0c b_1p b_1n b_1c b_2p b_2n b_2c b_3p b_3n b_3c i):=fk [2,5] [⟨0,[(4,.int .i64),(6,.int .i64)],[2,5],[],[],[]⟩] [⟨25,[(4,.int .i64)],[2,5],[],[],[]⟩,⟨13,[(4,.int .i64)],[2,5],[],[],[]⟩,⟨11,[(4,.int .i64)],[2,5],[],[],[]⟩] Tryz.f15
def n3508(lp:Option Addr)(ln lc:Nat)(k:Int):T:=bif decide (k<(↑ln:Int)) then .need (0<=k/\k<(↑ln:Int)) (.someA lp fun a=>.loadI .u16 (a.add (k.toNat*1)) fun n=>.rt (.int .i64 (wrap .i64 n))) else .rt (.int .i64 0)
theorem w3508(lp:Option Addr)(ln lc:Nat)(k:Int):FX X 27 #[.slice lp ln lc,k] h A (n3508 lp ln lc k):=fk [] [] [] Tryz.f27
def n3509(b_0p:Option Addr)(b_0n b_0c:Nat)(b_1p:Option Addr)(b_1n b_1c:Nat)(b_2p:Option Addr)(b_2n b_2c:Nat)(b_3p:Option Addr)(b_3n b_3c:Nat)(n:Int):T:=.cB 29 #[n,.int .i64 0,.int .i64 (wrap .i64 ((↑b_0n:Int)-1))] fun b=>.rt (.bool b)
theorem w3509(b_0p:Option Addr)(b_0n b_0c:Nat)(b_1p:Option Addr)(b_1n b_1c:Nat)(b_2p:Option Addr)(b_2n b_2c:Nat)(b_3p:Option Addr)(b_3n b_3c:Nat)(n:Int):FX X 34 #[.agg #[.slice b_0p b_0n b_0c,.slice b_1p b_1n b_1c,.slice b_2p b_2n b_2c,.slice b_3p b_3n b_3c],n] h A (n3509 b_0p b_0n b_0c b_1p b_1n b_1c b_2p b_2n b_2c b_3p b_3n b_3c n):=fk [2] [] [] Tryz.f34
def n3510(b_0p:Option Addr)(b_0n b_0c:Nat)(b_1p:Option Addr)(b_1n b_1c:Nat)(b_2p:Option Addr)(b_2n b_2c:Nat)(b_3p:Option Addr)(b_3n b_3c:Nat)(lp:Option Addr)(ln lc:Nat):T:=.loop [.int .i64 0,.int .i64 0] (fun vs=>.pi vs fun n vs=>.pi vs fun n_1 vs=>.unNil vs (bif decide (n_1<(↑ln:Int)) then .need (0<=n_1/\n_1<(↑ln:Int)) (.someA lp fun a=>.li (a.add (n_1.toNat*1)) fun n_2=>.cB 29 #[n_2,.int .i64 0,.int .i64 (wrap .i64 ((↑b_1n:Int)-1))] fun b=>.nds [.val (.int .i64 (↑b_1n:Int)),.S b_1p b_1n b_1c,.pp 2 1] (.need (0<=n_1/\n_1<(↑ln:Int)) (.someA lp fun a_1=>.ne (.pointer (some (a_1.add (n_1.toNat*1)))) (.pointer (some (a.add (n_1.toNat*1)))) (.nds [n_1,.S lp ln lc] (bif !b then .rn [.int .i64 6,n_1] else bif decide (n_1>0) then .need (0<=n_1/\n_1<(↑ln:Int)) (.someA lp fun a=>.li (a.add (n_1.toNat*1)) fun n_3=>.need (0<=wrap .i64 (n_1-1)/\wrap .i64 (n_1-1)<(↑ln:Int)) (.someA lp fun a=>.li (a.add ((wrap .i64 (n_1-1)).toNat*1)) fun n_4=>bif decide (n_3<=n_4) then .rn [.int .i64 7,n_1] else .ag [n,.int .i64 (wrap .i64 (n_1+1))])) else .nds [.U,.U,.U,.U,.U,.B (decide (n_1>0)),n_1,.U,.U,.U,.U,.U,.B (decide (n_1>0)),n_1] (.ag [n,.int .i64 (wrap .i64 (n_1+1))])))))) else .bk [n,n_1])) (fun vs=>.pi vs fun n vs=>.pi vs fun n vs=>.unNil vs (.rt (.int .i64 0))) (fun vs=>.pi vs fun n vs=>.pi vs fun n_1 vs=>.unNil vs (.rt (.int .i64 n))) fun x x_1=>.fail
theorem w3510(b_0p:Option Addr)(b_0n b_0c:Nat)(b_1p:Option Addr)(b_1n b_1c:Nat)(b_2p:Option Addr)(b_2n b_2c:Nat)(b_3p:Option Addr)(b_3n b_3c:Nat)(lp:Option Addr)(ln lc:Nat):FX X 35 #[.agg #[.slice b_0p b_0n b_0c,.slice b_1p b_1n b_1c,.slice b_2p b_2n b_2c,.slice b_3p b_3n b_3c],.slice lp ln lc] h A (n3510 b_0p b_0n b_0c b_1p b_1n b_1c b_2p b_2n b_2c b_3p b_3n b_3c lp ln lc):=fk [2] [⟨0,[(4,.int .i64),(5,.int .i64)],[2],[],[],[]⟩] [] Tryz.f35
def n3140(s:ByteArray):T:=.blk (.sem false (Builtin.len_ #[9] 3 #[.string s]) fun v=>.ui v fun n=>bif n==0 then .rn [false] else .sem false (Builtin.len_ #[9] 3 #[.string s]) fun v=>.ui v fun n=>bif decide (n>10) then .rn [false] else .ag [false]) (fun vs=>.popB vs fun b vs=>.unNil vs (.loop [b,.int .i64 0] (fun vs=>.popB vs fun b vs=>.pi vs fun n vs=>.unNil vs (.sem false (Builtin.len_ #[9] 3 #[.string s]) fun v=>.ui v fun n_1=>bif decide (n<n_1) then .blk (.both (.sem false (Instr.index 9 (.string s) (.int .i64 n)) fun v=>.unI .u8 v fun n_2=>.nds [n,.val (.string s)] (.both (.cB 29 #[.int .i64 (wrap .i64 n_2),.int .i64 97,.int .i64 122] fun b=>.nds [n,.val (.string s)] (.sem false (Instr.index 9 (.string s) (.int .i64 n)) fun v=>.unI .u8 v fun n=>.cB 29 #[.int .i64 (wrap .i64 n),.int .i64 48,.int .i64 57] fun b_1=>.ag [b,b_1])) (.sem false (Instr.index 9 (.string s) (.int .i64 n)) fun v=>.unI .u8 v fun n=>.nd (.int .i64 (wrap .i64 n_2)) (.cB 29 #[.int .i64 (wrap .i64 n_2),.int .i64 97,.int .i64 122] fun b=>.nd (.int .i64 (wrap .i64 n)) (.cB 29 #[.int .i64 (wrap .i64 n),.int .i64 48,.int .i64 57] fun b_1=>.ag [b,b_1]))))) (.sem false (Instr.index 9 (.string s) (.int .i64 n)) fun v=>.unI .u8 v fun n_2=>.nds [n,.val (.string s)] (.sem false (Instr.index 9 (.string s) (.int .i64 n)) fun v=>.unI .u8 v fun n=>.nd (.int .i64 (wrap .i64 n_2)) (.cB 29 #[.int .i64 (wrap .i64 n),.int .i64 97,.int .i64 122] fun b=>.nd (.int .i64 (wrap .i64 n_2)) (.cB 29 #[.int .i64 (wrap .i64 n_2),.int .i64 48,.int .i64 57] fun b_1=>.ag [b,b_1]))))) (fun vs=>.popB vs fun b_1 vs=>.popB vs fun b_2 vs=>.unNil vs (bif !b_1 then bif !b_2 then .rn [false,n] else bif n==0 then .rn [false,n] else .ag [b,.int .i64 (wrap .i64 (n+1))] else .ag [b,.int .i64 (wrap .i64 (n+1))])) (fun vs=>.popB vs fun b_1 vs=>.popB vs fun b_2 vs=>.unNil vs (.rn [b,n])) fun x x_1=>.fail else .bk [b,n])) (fun vs=>.popB vs fun b vs=>.pi vs fun n vs=>.unNil vs (.rt (.bool true))) (fun vs=>.popB vs fun b vs=>.pi vs fun n vs=>.unNil vs (.rt (.bool b))) fun x x_1=>.fail)) (fun vs=>.popB vs fun b vs=>.unNil vs (.rt (.bool b))) fun x x_1=>.fail
theorem w3140(s:ByteArray):FX X 32 #[.string s] h A (n3140 s):=fk [] [⟨0,[(2,.bool),(3,.int .i64)],[],[],[],[]⟩] [⟨7,[(4,.bool),(5,.bool)],[],[],[],[]⟩,⟨3,[(2,.bool)],[],[],[],[]⟩] Tryz.f32
def n3141(lp:Option Addr)(ln lc:Nat)(s:ByteArray):T:=.loop [.int .i64 0,.int .i64 0] (fun vs=>.pi vs fun n vs=>.pi vs fun n_1 vs=>.unNil vs (bif decide (n_1<(↑ln:Int)) then .need (0<=n_1/\n_1<(↑ln:Int)) (.someA lp fun a=>.loadStr (a.add (n_1.toNat*1)) fun s_1=>.sem false (Sem.bind (eqGuard BinOp.eql 9 (Operand.tmp 15) (Operand.tmp 16) (.string s_1) (.string s)) fun __r=>binOp BinOp.eql 9 (.string s_1) (.string s)) fun v=>.unB v fun b=>bif b then .rn [n_1,n_1] else .ag [n,.int .i64 (wrap .i64 (n_1+1))]) else .bk [n,n_1])) (fun vs=>.pi vs fun n vs=>.pi vs fun n vs=>.unNil vs (.rt (.int .i64 (-1)))) (fun vs=>.pi vs fun n vs=>.pi vs fun n_1 vs=>.unNil vs (.rt (.int .i64 n))) fun x x_1=>.fail
theorem w3141(lp:Option Addr)(ln lc:Nat)(s:ByteArray):FX X 33 #[.slice lp ln lc,.string s] h A (n3141 lp ln lc s):=fk [] [⟨0,[(4,.int .i64),(5,.int .i64)],[],[],[],[]⟩] [] Tryz.f33
end
section
set_option maxHeartbeats 0
set_option linter.unusedVariables false
variable {X:XP} {h:LH} {A:Value->LH->Prop}
def n93(x_0 x_1 first last:Int):T:=bif decide (first<=x_0) then bif decide (x_0<=x_1) then .rt (.bool (decide (x_1<=last))) else .rt (.bool false) else .rt (.bool false)
theorem w93(x_0 x_1 first last:Int):FX X 36 #[.agg #[x_0,x_1],first,last] h A (n93 x_0 x_1 first last):=fk [3] [] [] Tryz.f36
end
end Go.Y
namespace Go.Y.Tre
section
open Go.TM.Tr
open Go.TM.Ow (Deed Right Book)
attribute [local irreducible] T.wp CV FWK
theorem und9:Tryz.prog.underlying 9=some .string:=by kernel_rfl
theorem undSs:Tryz.prog.underlying 25=some (.slice 9):=by kernel_rfl
theorem inf9:(Tryz.prog.info? 9).map (fun i=>(i.size,i.bytes,i.zero))=some (1,16,some (.string { data:=#[] })):=by kernel_rfl
theorem letter_in(c:UInt8):inB (c.toNat:Int) 97 122=letterB c:=by
 unfold inB letterB;congr 1<;>rw[decide_eq_decide]<;>omega
theorem digit_in(c:UInt8):inB (c.toNat:Int) 48 57=digitB c:=by
 unfold inB digitB;congr 1<;>rw[decide_eq_decide]<;>omega
theorem byte_lt(c:UInt8):c.toNat<256:=c.toNat_lt
theorem c3140{h:LH}(s:ByteArray):FW X0 Tryz.prog 32 #[.string s] h fun r h'=>h=h'/\∃ b,r=.bool b/\(b=true->NameOk s):=by
 refine w3140 _ X0_ok ?_;unfold n3140;refine t_blk (fun vs h'=>vs=[.bool false]/\h=h'/\1<=s.size/\s.size<=10) ?_ ?_
 ·refine t_lenStr und9 ?_;refine yI (fun _=>?_) (fun e1=>?_)
  ·refine gI ?_;refine gZ ?_;exact t_ret ⟨rfl,false,rfl,fun e=>by cases e⟩
  refine t_lenStr und9 ?_;refine yJ (fun _=>?_) (fun e2=>?_)
  ·refine gI ?_;refine gZ ?_;exact t_ret ⟨rfl,false,rfl,fun e=>by cases e⟩
  ·refine t_again ⟨rfl,rfl,?_,by omega⟩;have:¬ s.size=0:=by simpa using e1
   omega
 rintro vs _ ⟨rfl,rfl,hs1,hs2⟩;refine gZ ?_;refine t_loop (fun mm vs h'=>h=h'/\∃ i:Nat,vs=[.bool false,.int .i64 i]/\i<=s.size/\mm=s.size-i/\∀ (j:Nat) c,j<i->s.data[j]?=some c->letterB c=true\/(digitB c=true/\j≠0)) ⟨rfl,0,rfl,Nat.zero_le _,rfl,fun j c hj=>absurd hj (Nat.not_lt_zero _)⟩ ?_;rintro Y mm vs _ hY ⟨rfl,i,rfl,hi,rfl,hall⟩;refine gZ ?_;refine t_lenStr und9 ?_;refine yJ (fun e1=>?_) (fun e1=>?_)
 ·have hlt:i<s.data.size:=by show i<s.size;omega
  have hc:=Array.getElem?_eq_getElem (xs:=s.data) (i:=i) hlt;generalize s.data[i]=c at hc;have hw:wrap .i64 (c.toNat:Int)=(c.toNat:Int):=wrap_id (by omega) (by have:=byte_lt c;omega);have i1:=letter_in c;have i2:=digit_in c;have next:(letterB c=true\/(digitB c=true/\i≠0))->Y [.bool false,.int .i64 (wrap .i64 ((i:Int)+1))] h:=fun hok=>by
   refine hY (s.size-(i+1)) _ _ (by omega) ⟨rfl,i+1,?_,by omega,rfl,fun j c' hj hc'=>?_⟩
   ·rw[wrap_id (by omega) (by omega)];rfl
   ·by_cases e:j=i
    ·subst e;rw[hc]at hc';cases hc';exact hok
    ·exact hall j c' (by omega) hc'
  refine t_blk (fun vs h'=>vs=[.bool (letterB c),.bool (digitB c)]/\h=h') ?_ ?_
  ·refine t_both ?_ ?_
   ·refine t_indexS und9 hc ?_;refine gZ ?_;refine t_both ?_ ?_
    ·rw[hw];refine t_pu (c49 _ _ _) ?_;rw[i1];refine gZ ?_;refine t_indexS und9 hc ?_;refine gZ ?_;rw[hw];refine t_pu (c49 _ _ _) ?_;rw[i2];refine gZ ?_;exact t_again ⟨rfl,rfl⟩
    ·refine t_indexS und9 hc ?_;refine gZ ?_;rw[hw];refine t_pu (c49 _ _ _) ?_;rw[i1];refine gZ ?_;refine t_pu (c49 _ _ _) ?_;rw[i2];refine gZ ?_;exact t_again ⟨rfl,rfl⟩
   ·refine t_indexS und9 hc ?_;refine gZ ?_;refine t_indexS und9 hc ?_;refine gZ ?_;rw[hw];refine t_pu (c49 _ _ _) ?_;rw[i1];refine gZ ?_;refine t_pu (c49 _ _ _) ?_;rw[i2];refine gZ ?_;exact t_again ⟨rfl,rfl⟩
  rintro vs _ ⟨rfl,rfl⟩;refine yI (fun b1=>?_) (fun b1=>?_)
  ·refine t_cond (fun _=>?_) (fun b2=>?_)
   ·refine gI ?_;refine gZ ?_;exact t_ret ⟨rfl,false,rfl,fun e=>by cases e⟩
   refine t_cond (fun _=>?_) (fun b3=>?_)
   ·refine gI ?_;refine gZ ?_;exact t_ret ⟨rfl,false,rfl,fun e=>by cases e⟩
   ·refine t_again (next (.inr ⟨by simpa using b2,?_⟩));intro e0;subst e0;simp at b3
  ·exact t_again (next (.inl (by simpa using b1)))
 ·refine gZ ?_;refine t_ret ⟨rfl,true,rfl,fun _=>⟨⟨hs1,hs2⟩,fun j c hc=>hall j c ?_ hc⟩⟩;have:j<s.data.size:=(Array.getElem?_eq_some_iff.1 hc).1;have h2:s.data.size=s.size:=rfl;omega
theorem c93{h:LH}(a b x y:Int):Pu Tryz.prog 36 #[.agg #[a,b],x,y] h (.bool (decide (x<=a)&&(decide (a<=b)&&decide (b<=y)))):=by
 refine w93 _ _ _ _ X0_ok ?_;unfold n93;refine t_if (fun e=>?_) (fun e=>?_)
 ·refine t_if (fun e2=>?_) (fun e2=>?_)<;>refine t_ret ⟨?_,rfl⟩<;>simp[e,e2]
 ·refine t_ret ⟨?_,rfl⟩;simp[e]
theorem c3141{h:LH}{p:Option Addr}{n c:Nat}{l:List ByteArray}(hl:Sl StrE 1 h.get p n l)(s:ByteArray):FW X0 Tryz.prog 33 #[.slice p n c,.string s] h fun r h'=>h=h'/\∃ z,r=.int .i64 z/\(z<0->s∉l):=by
 refine w3141 _ _ _ _ X0_ok ?_;unfold n3141;have hn:=hl.1;have hb:=hl.2.1;refine t_loop (fun mm vs h'=>h=h'/\∃ i:Nat,vs=[.int .i64 0,.int .i64 i]/\i<=n/\mm=n-i/\s∉l.take i) ⟨rfl,0,rfl,Nat.zero_le _,rfl,by simp⟩ ?_;rintro Y mm vs _ hY ⟨rfl,i,rfl,hi,rfl,hno⟩;refine yJ (fun e1=>?_) (fun e1=>?_)
 ·obtain⟨x,a,hx,ha,e2⟩:=hl.at (i:=i) (by omega);unfold StrE at e2;rw[add_zero']at e2;have hin:0<=(i:Int)/\(i:Int)<(n:Int):=by omega
  refine gZ ?_;refine t_loadStr e2 ?_;refine t_eqStr und9 fun b hb=>?_;refine yI (fun e3=>?_) (fun e3=>?_)
  ·refine gZ ?_;exact t_ret ⟨rfl,_,rfl,fun hh=>by omega⟩
  ·refine t_again (hY (n-(i+1)) _ _ (by omega) ⟨rfl,i+1,?_,by omega,rfl,?_⟩)
   ·rw[wrap_id (by omega) (by omega)];rfl
   ·rw[List.take_add_one,hx,List.mem_append];rintro(hh|hh)
    ·exact hno hh
    ·simp at hh;rw[hb.2 hh.symm]at e3;cases e3
 ·refine gH ?_;refine gZ ?_;refine t_ret ⟨rfl,_,rfl,fun _=>?_⟩;rwa[List.take_of_length_le (by omega)]at hno
theorem Sl.takeTo{α:Type}{E:Cells->Addr->α->Prop}{k:Nat}{h:Cells}{p:Option Addr}{n:Nat}{l:List α}(s:Sl E k h p n l){i:Nat}(hi:i<=n):Sl E k h p i (l.take i):=by
 refine⟨by rw[List.length_take,<- s.1];omega,by rw[List.length_take];have:=s.2.1;omega,fun j x hj=>s.2.2 j x ?_⟩;rw[List.getElem?_take]at hj;split at hj
 ·exact hj
 ·cases hj
theorem t_headL{P:Program}{X:XP}{Q:Leaf->LH->Prop}{h:LH}{K:Value->T}{t el:TypeId}{s b:Nat}{z:Option Value}{p:Option Addr}{n c i:Nat}(hu:P.underlying t=some (.slice el))(hi:(P.info? el).map (fun i=>(i.size,i.bytes,i.zero))=some (s,b,z))(hin:i<=c)
 (hk:(K (.slice (if c=0 then p else p.map (·.add (0*s))) (i-0) (c-0))).wp X P Q h):(T.sem false (Instr.sliceAt t (.slice p n c) none (some (.int .i64 (i:Int))) none) K).wp X P Q h:=by
 obtain⟨inf,g1,g2,_,_⟩:=info_of hi;refine t_sem (A:=fun v h'=>v=.slice (if c=0 then p else p.map (·.add (0*s))) (i-0) (c-0)/\h'=h.get) ?_ (by rintro v h' ⟨rfl,rfl⟩;exact hk);unfold Instr.sliceAt;simp only[lwp_bind,lwp_underlying hu];unfold Instr.slice;simp only[lwp_bind,lwp_underlying hu];unfold Instr.sliceBounds Instr.sliceBound;simp only[lwp_bind,lwp_pure,asIntOf];rw[if_pos (show 0<=(i:Int)/\(i:Int)<=(c:Int) by omega)];simp only[lwp_pure,lwp_bind,Int.toNat_natCast,lwp_sizeOf g1,g2];exact⟨trivial,trivial⟩
theorem Sl.headP{α:Type}{E:Cells->Addr->α->Prop}{k s:Nat}{h:Cells}{p:Option Addr}{n c:Nat}{l:List α}(x:Sl E k h p n l):Sl E k h (if c=0 then p else p.map (·.add (0*s))) n l:=by
 split
 ·exact x
 ·refine⟨x.1,x.2.1,fun i v hv=>?_⟩;obtain⟨a,ha,he⟩:=x.2.2 i v hv;subst ha;refine⟨_,rfl,?_⟩;show E h (Addr.add (Addr.add a (0*s)) (i*k)) v;rw[Addr.add_add',Nat.zero_mul,Nat.zero_add];exact he
theorem c3504{h:LH}{p:Option Addr}{n c:Nat}{l:List ByteArray}(hl:Sl StrE 1 h.get p n l)(hc:n<=c)(most:Nat):FW X0 Tryz.prog 13 #[.slice p n c,most] h fun r h'=>h=h'/\∃ z,r=.int .i64 z/\(z=0->NamesOk l most):=by
 refine w3504 _ _ _ _ X0_ok ?_;unfold n3504;have hn:=hl.1;have hb:=hl.2.1;refine t_if (fun e=>?_) (fun e0=>?_)
 ·exact t_ret ⟨rfl,_,rfl,fun e=>by cases e⟩
 refine t_loop (fun mm vs h'=>h=h'/\∃ i:Nat,vs=[.int .i64 0,.int .i64 i]/\i<=n/\mm=n-i/\(∀ s∈l.take i,NameOk s)/\(l.take i).Nodup) ⟨rfl,0,rfl,Nat.zero_le _,rfl,by simp,by simp⟩ ?_;rintro Y mm vs _ hY ⟨rfl,i,rfl,hi,rfl,hok,hnd⟩;refine yJ (fun e1=>?_) (fun e1=>?_)
 ·obtain⟨x,a,hx,rfl,e2⟩:=hl.at (i:=i) (by omega);unfold StrE at e2;rw[add_zero']at e2;have hin:0<=(i:Int)/\(i:Int)<(n:Int):=by omega
  refine gZ ?_;refine t_loadStr e2 ?_;refine t_call (c3140 x) ?_;rintro _ _ ⟨rfl,b,rfl,hbn⟩;refine yI (fun e3=>?_) (fun e3=>?_)
  ·refine gZ ?_;exact t_ret ⟨rfl,_,rfl,fun e=>by cases e⟩
  have hname:=hbn (by simpa using e3);refine gZ ?_;refine t_loadStr e2 ?_;refine t_headL undSs inf9 (by omega) ?_;refine gZ ?_;refine t_loadStr e2 ?_;refine gZ ?_;refine t_call (c3141 (Sl.headP (Sl.takeTo hl (i:=i-0) (by omega))) x) ?_;rintro _ _ ⟨rfl,z,rfl,hz⟩;refine yJ (fun e4=>?_) (fun e4=>?_)
  ·refine gZ ?_;exact t_ret ⟨rfl,_,rfl,fun e=>by cases e⟩
  ·refine t_again (hY (n-(i+1)) _ _ (by omega) ⟨rfl,i+1,?_,by omega,rfl,?_,?_⟩)
   ·rw[wrap_id (by omega) (by omega)];rfl
   ·intro s hs;rw[List.take_add_one,hx,List.mem_append]at hs;rcases hs with hs|hs
    ·exact hok s hs
    ·simp at hs;rw[hs];exact hname
   ·rw[List.take_add_one,hx,List.nodup_append];refine⟨hnd,by simp,fun u hu v hv=>?_⟩;simp at hv;subst hv;rintro rfl;exact hz (by omega) (by simpa using hu)
 ·refine gH ?_;refine gZ ?_;rw[List.take_of_length_le (by omega)]at hok hnd;exact t_ret ⟨rfl,_,rfl,fun _=>⟨by omega,hok,hnd⟩⟩
theorem c3509{h:LH}{f:BookC}{x:Book}(hr:BookR h.get f x)(n:Int):Pu Tryz.prog 34 #[bookV f,n] h (.bool (inB n 0 ((x.owners.length:Int)-1))):=by
 refine w3509 _ _ _ _ _ _ _ _ _ _ _ _ _ X0_ok ?_;unfold n3509;have hn:=hr.owners.1;have hb:=hr.owners.2.1;rw[wrap_id (by omega) (by omega),hn];refine t_pu (c49 _ _ _) ?_;refine gZ ?_;exact t_ret ⟨rfl,rfl⟩
theorem in_is{n a b:Int}(h:inB n a b=true):a<=n/\n<=b:=by
 unfold inB at h;simpa using h
theorem c3510{h:LH}{f:BookC}{x:Book}(hr:BookR h.get f x){p:Option Addr}{n c:Nat}{l:List Int}(hl:Sl IntE 1 h.get p n l):FW X0 Tryz.prog 35 #[bookV f,.slice p n c] h fun r h'=>h=h'/\∃ z,r=.int .i64 z/\(z=0->LandsOk x.lands.length l):=by
 refine w3510 _ _ _ _ _ _ _ _ _ _ _ _ _ _ _ X0_ok ?_;unfold n3510;have hn:=hl.1;have hb:=hl.2.1;have hn1:=hr.lands.1;have hb1:=hr.lands.2.1;have hw:wrap .i64 ((f.n1:Int)-1)=(x.lands.length:Int)-1:=by rw[wrap_id (by omega) (by omega),hn1]
 rw[hw];refine t_loop (fun mm vs h'=>h=h'/\∃ i:Nat,vs=[.int .i64 0,.int .i64 i]/\i<=n/\mm=n-i/\LandsOk x.lands.length (l.take i)) ⟨rfl,0,rfl,Nat.zero_le _,rfl,fun i v hv=>by simp at hv⟩ ?_;rintro Y mm vs _ hY ⟨rfl,i,rfl,hi,rfl,hok⟩;refine yJ (fun e1=>?_) (fun e1=>?_)
 ·obtain⟨v,a,hv,rfl,e2⟩:=hl.at (i:=i) (by omega);unfold IntE at e2;rw[add_zero']at e2;have hin:0<=(i:Int)/\(i:Int)<(n:Int):=by omega
  have next:(0<=v/\v<=(x.lands.length:Int)-1)->(∀ u,0<i->l[i-1]?=some u->u<v)->Y [.int .i64 0,.int .i64 (wrap .i64 ((i:Int)+1))] h:=fun g1 g2=>by
   refine hY (n-(i+1)) _ _ (by omega) ⟨rfl,i+1,?_,by omega,rfl,fun j w hw=>?_⟩
   ·rw[wrap_id (by omega) (by omega)];rfl
   ·rw[List.getElem?_take]at hw;by_cases e:j<i
    ·rw[if_pos (by omega)]at hw;obtain⟨q1,q2⟩:=hok j w (by rw[List.getElem?_take,if_pos e];exact hw);refine⟨q1,fun u hu hu2=>q2 u hu ?_⟩;rw[List.getElem?_take]at hu2 ⊢;rw[if_pos (by omega)]at hu2 ⊢;exact hu2
    ·have ej:j=i:=by
      by_cases e2:j<i+1
      ·omega
      ·rw[if_neg e2]at hw;cases hw
     subst ej;rw[if_pos (by omega),hv]at hw;cases hw;refine⟨g1,fun u hu hu2=>g2 u hu ?_⟩;rw[List.getElem?_take,if_pos (by omega)]at hu2;exact hu2
  refine gZ ?_;refine t_pu (c49 _ _ _) ?_;refine yI (fun e3=>?_) (fun e3=>?_)
  ·refine gZ ?_;exact t_ret ⟨rfl,_,rfl,fun e=>by cases e⟩
  have hr1:=in_is (n:=v) (by simpa using e3);refine t_if (fun e4=>?_) (fun e4=>?_)
  ·have hw2:wrap .i64 ((i:Int)-1)=((i-1:Nat):Int):=by rw[wrap_id (by omega) (by omega)];omega
   rw[hw2];obtain⟨u,a',hu,ha',e5⟩:=hl.at (i:=i-1) (by omega);cases ha';unfold IntE at e5;rw[add_zero']at e5;have hin2:0<=((i-1:Nat):Int)/\((i-1:Nat):Int)<(n:Int):=by omega
   refine yJ (fun e6=>?_) (fun e6=>?_)
   ·refine gZ ?_;exact t_ret ⟨rfl,_,rfl,fun e=>by cases e⟩
   ·exact t_again (next hr1 fun w _ hw=>by rw[hu]at hw;cases hw;omega)
  ·refine gZ ?_;exact t_again (next hr1 fun w hw _=>by omega)
 ·refine gH ?_;refine gZ ?_;rw[List.take_of_length_le (by omega)]at hok;exact t_ret ⟨rfl,_,rfl,fun _=>hok⟩
end
section
open Go.TM.Tr
open Go.TM.Ow (Deed Right Book)
attribute [local irreducible] T.wp CV FWK
def Fresh{α:Type}(g:α->ByteArray)(l:List α)(i:Nat)(s:ByteArray):Prop:=∀ x∈l.take i,g x≠s
theorem Fresh.next{α:Type}{g:α->ByteArray}{l:List α}{i:Nat}{s:ByteArray}{x:α}(f:Fresh g l i s)(hx:l[i]?=some x)(hne:g x≠s):Fresh g l (i+1) s:=by
 intro y hy;rw[List.take_add_one,hx,List.mem_append]at hy;rcases hy with hy|hy
 ·exact f y hy
 ·simp at hy;rw[hy];exact hne
theorem nodup_next{α:Type}{g:α->ByteArray}{l:List α}{i:Nat}{x:α}(hnd:((l.take i).map g).Nodup)(hx:l[i]?=some x)(f:Fresh g l i (g x)):((l.take (i+1)).map g).Nodup:=by
 rw[List.take_add_one,hx,List.map_append,List.nodup_append];refine⟨hnd,by simp,fun u hu v hv=>?_⟩;simp at hv;subst hv;obtain⟨w,hw,rfl⟩:=List.mem_map.1 hu;exact f w hw
theorem all_next{α:Type}{Q:α->Prop}{l:List α}{i:Nat}{x:α}(h:∀ y∈l.take i,Q y)(hx:l[i]?=some x)(q:Q x):∀ y∈l.take (i+1),Q y:=by
 intro y hy;rw[List.take_add_one,hx,List.mem_append]at hy;rcases hy with hy|hy
 ·exact h y hy
 ·simp at hy;rw[hy];exact q
theorem c3505{h:LH}{f:BookC}{x:Book}(hr:BookR h.get f x){i:Nat}{y:Right}(hy:x.rights[i]?=some y):FW X0 Tryz.prog 14 #[bookV f,.int .i64 i] h fun r h'=>h=h'/\∃ z,r=.int .i64 z/\(z=0->RightOk x.owners.length x.lands.length y/\Fresh (·.name) x.rights i y.name):=by
 refine w3505 _ _ _ _ _ _ _ _ _ _ _ _ _ X0_ok ?_;unfold n3505;have hn:=hr.rights.1;have hb:=hr.rights.2.1;have hi:=(List.getElem?_eq_some_iff.1 hy).1;obtain⟨y',a,hy',hp,g0,g1,g2,q,m,c,g3,sl⟩:=hr.rights.at (i:=i) (by omega);rw[hy]at hy';cases hy';have hin:0<=(i:Int)/\(i:Int)<(f.n2:Int):=by omega
 refine gZ ?_;refine t_loadStr g0 ?_;refine gZ ?_;refine t_call (c3140 y.name) ?_;rintro _ _ ⟨rfl,b,rfl,hbn⟩;refine yI (fun e3=>?_) (fun e3=>?_)
 ·exact t_ret ⟨rfl,_,rfl,fun e=>by cases e⟩
 have hname:=hbn (by simpa using e3);refine t_loop (fun mm vs h'=>h=h'/\∃ j:Nat,vs=[.int .i64 0,.int .i64 j]/\j<=i/\mm=i-j/\Fresh (·.name) x.rights j y.name) ⟨rfl,0,rfl,Nat.zero_le _,rfl,fun u hu=>by simp at hu⟩ ?_;rintro Y mm vs _ hY ⟨rfl,j,rfl,hj,rfl,hno⟩;refine yJ (fun e1=>?_) (fun e1=>?_)
 ·obtain⟨u,au,hu,hau,k0,_⟩:=hr.rights.at (i:=j) (by omega);have hin2:0<=(j:Int)/\(j:Int)<(f.n2:Int):=by omega
  refine gZ ?_;refine t_loadStr k0 ?_;refine t_eqStr und9 fun b2 hb2=>?_;refine yI (fun e4=>?_) (fun e4=>?_)
  ·refine gZ ?_;exact t_ret ⟨rfl,_,rfl,fun e=>by cases e⟩
  ·refine t_again (hY (i-(j+1)) _ _ (by omega) ⟨rfl,j+1,?_,by omega,rfl,hno.next hu fun e=>?_⟩)
   ·rw[wrap_id (by omega) (by omega)];rfl
   ·rw[hb2.2 e]at e4;cases e4
 ·refine gH ?_;refine gZ ?_;have ej:j=i:=by omega
  subst ej;refine t_pu (c3509 hr _) ?_;refine yI (fun e5=>?_) (fun e5=>?_)
  ·exact t_ret ⟨rfl,_,rfl,fun e=>by cases e⟩
  refine t_pu (c49 _ _ _) ?_;refine yI (fun e6=>?_) (fun e6=>?_)
  ·exact t_ret ⟨rfl,_,rfl,fun e=>by cases e⟩
  refine t_call (c3510 hr sl) ?_;rintro _ _ ⟨rfl,z,rfl,hz⟩;refine gZ ?_;exact t_ret ⟨rfl,_,rfl,fun e=>⟨⟨hname,in_is (by simpa using e5),in_is (by simpa using e6),hz e⟩,hno⟩⟩
theorem c3506{h:LH}{f:BookC}{x:Book}(hr:BookR h.get f x){i:Nat}{y:Deed}(hy:x.deeds[i]?=some y):FW X0 Tryz.prog 15 #[bookV f,.int .i64 i] h fun r h'=>h=h'/\∃ z,r=.int .i64 z/\(z=0->DeedOk x.owners.length x.lands.length x.rights.length y/\Fresh (·.name) x.deeds i y.name):=by
 refine w3506 _ _ _ _ _ _ _ _ _ _ _ _ _ X0_ok ?_;unfold n3506;have hn:=hr.deeds.1;have hb:=hr.deeds.2.1;have hn2:=hr.rights.1;have hb2:=hr.rights.2.1;have hi:=(List.getElem?_eq_some_iff.1 hy).1;obtain⟨y',a,hy',hp,g0,g1,g2,g3,g4,⟨q,m,c,g5,sl⟩,g6,g7⟩:=hr.deeds.at (i:=i) (by omega);rw[hy]at hy';cases hy';have hm:=sl.1;have hin:0<=(i:Int)/\(i:Int)<(f.n3:Int):=by omega
 refine gZ ?_;refine t_loadStr g0 ?_;refine gZ ?_;refine t_call (c3140 y.name) ?_;rintro _ _ ⟨rfl,b,rfl,hbn⟩;refine yI (fun e3=>?_) (fun e3=>?_)
 ·exact t_ret ⟨rfl,_,rfl,fun e=>by cases e⟩
 have hname:=hbn (by simpa using e3);refine t_loop (fun mm vs h'=>h=h'/\∃ j:Nat,vs=[.int .i64 0,.int .i64 j]/\j<=i/\mm=i-j/\Fresh (·.name) x.deeds j y.name) ⟨rfl,0,rfl,Nat.zero_le _,rfl,fun u hu=>by simp at hu⟩ ?_;rintro Y mm vs _ hY ⟨rfl,j,rfl,hj,rfl,hno⟩;refine yJ (fun e1=>?_) (fun e1=>?_)
 ·obtain⟨u,au,hu,hau,k0,_⟩:=hr.deeds.at (i:=j) (by omega);have hin2:0<=(j:Int)/\(j:Int)<(f.n3:Int):=by omega
  refine gZ ?_;refine t_loadStr k0 ?_;refine t_eqStr und9 fun b2 hb2=>?_;refine yI (fun e4=>?_) (fun e4=>?_)
  ·refine gZ ?_;exact t_ret ⟨rfl,_,rfl,fun e=>by cases e⟩
  ·refine t_again (hY (i-(j+1)) _ _ (by omega) ⟨rfl,j+1,?_,by omega,rfl,hno.next hu fun e=>?_⟩)
   ·rw[wrap_id (by omega) (by omega)];rfl
   ·rw[hb2.2 e]at e4;cases e4
 refine gH ?_;have ej:j=i:=by omega
 subst ej;refine gZ ?_;refine t_blk (fun vs h'=>vs=[.int .i64 0]/\h=h'/\0<=y.kind/\y.kind<=3) ?_ ?_
 ·refine t_if (fun e4=>?_) (fun e4=>?_)
  ·refine gZ ?_;exact t_ret ⟨rfl,_,rfl,fun e=>by cases e⟩
  refine t_if (fun e5=>?_) (fun e5=>?_)
  ·refine gZ ?_;exact t_ret ⟨rfl,_,rfl,fun e=>by cases e⟩
  exact t_again ⟨rfl,rfl,by omega,by omega⟩
 rintro vs _ ⟨rfl,rfl,hk0,hk3⟩;refine gZ ?_;refine t_blk (fun vs h'=>vs=[.int .i64 0]/\h=h'/\(0<=y.from_/\y.from_<=(x.owners.length:Int)-1)/\(0<=y.to/\y.to<=(x.owners.length:Int)-1)) ?_ ?_
 ·refine t_pu (c3509 hr _) ?_;refine yI (fun e4=>?_) (fun e4=>?_)
  ·refine gZ ?_;exact t_ret ⟨rfl,_,rfl,fun e=>by cases e⟩
  refine t_pu (c3509 hr _) ?_;refine yI (fun e5=>?_) (fun e5=>?_)
  ·refine gZ ?_;exact t_ret ⟨rfl,_,rfl,fun e=>by cases e⟩
  exact t_again ⟨rfl,rfl,in_is (by simpa using e4),in_is (by simpa using e5)⟩
 rintro vs _ ⟨rfl,rfl,hfrom,hto⟩;refine yI (fun e4=>?_) (fun e4=>?_)
 ·exact t_ret ⟨rfl,_,rfl,fun e=>by cases e⟩
 have htwo:y.from_≠y.to:=by simpa using e4
 refine t_blk (fun vs h'=>vs=[.int .i64 0]/\h=h'/\(y.kind=1->y.right=0/\y.lands=[])/\(y.kind≠1->(0<=y.right/\y.right<=(x.rights.length:Int)-1)/\y.lands≠[]/\LandsOk x.lands.length y.lands)) ?_ ?_
 ·refine t_cond (fun e5=>?_) (fun e5=>?_)
  ·have hk1:y.kind=1:=by simpa using e5
   refine t_cond (fun e6=>?_) (fun e6=>?_)
   ·refine gZ ?_;exact t_ret ⟨rfl,_,rfl,fun e=>by cases e⟩
   refine t_if (fun e7=>?_) (fun e7=>?_)
   ·refine gZ ?_;exact t_ret ⟨rfl,_,rfl,fun e=>by cases e⟩
   exact t_again ⟨rfl,rfl,fun _=>⟨by simpa using e6,List.eq_nil_of_length_eq_zero (by omega)⟩,fun hh=>absurd hk1 hh⟩
  ·have hk1:y.kind≠1:=by simpa using e5
   have hw:wrap .i64 ((f.n2:Int)-1)=(x.rights.length:Int)-1:=by rw[wrap_id (by omega) (by omega),hn2]
   rw[hw];refine t_pu (c49 _ _ _) ?_;refine yI (fun e6=>?_) (fun e6=>?_)
   ·refine gZ ?_;exact t_ret ⟨rfl,_,rfl,fun e=>by cases e⟩
   refine t_cond (fun e7=>?_) (fun e7=>?_)
   ·refine gZ ?_;exact t_ret ⟨rfl,_,rfl,fun e=>by cases e⟩
   refine t_call (c3510 hr sl) ?_;rintro _ _ ⟨rfl,z,rfl,hz⟩;refine yI (fun e8=>?_) (fun e8=>?_)
   ·refine gZ ?_;exact t_ret ⟨rfl,_,rfl,fun e=>absurd e (by simpa using e8)⟩
   refine t_again ⟨rfl,rfl,fun hh=>absurd hh hk1,fun _=>⟨in_is (by simpa using e6),?_,hz (by simpa using e8)⟩⟩;rintro hnil;rw[hnil]at hm;subst hm;simp at e7
 rintro vs _ ⟨rfl,rfl,hmerge,habout⟩;refine gZ ?_;refine t_pu (c93 _ _ _ _) ?_;refine yI (fun e5=>?_) (fun e5=>?_)
 ·exact t_ret ⟨rfl,_,rfl,fun e=>by cases e⟩
 have hdays:0<=y.first/\y.first<=y.last/\y.last<=99999:=by simpa using e5
 have fin:(y.kind=0\/y.kind=1->y.first=y.last)->DeedOk x.owners.length x.lands.length x.rights.length y/\Fresh (·.name) x.deeds j y.name:=fun ho =>
  ⟨⟨hname,⟨hk0,hk3⟩,hfrom,hto,htwo,hmerge,habout,hdays,ho⟩,hno⟩
 refine t_cond (fun e6=>?_) (fun e6=>?_)
 ·refine t_cond (fun e7=>?_) (fun e7=>?_)
  ·exact t_ret ⟨rfl,_,rfl,fun e=>by cases e⟩
  ·exact t_ret ⟨rfl,_,rfl,fun _=>fin fun _=>by simpa using e7⟩
 refine t_cond (fun e8=>?_) (fun e8=>?_)
 ·refine t_cond (fun e7=>?_) (fun e7=>?_)
  ·exact t_ret ⟨rfl,_,rfl,fun e=>by cases e⟩
  ·exact t_ret ⟨rfl,_,rfl,fun _=>fin fun _=>by simpa using e7⟩
 have h6:y.kind≠0:=by simpa using e6
 have h8:y.kind≠1:=by simpa using e8
 exact t_ret ⟨rfl,_,rfl,fun _=>fin fun hh=>by rcases hh with hh|hh<;>contradiction⟩
theorem c3502{h:LH}{f:BookC}{x:Book}(hr:BookR h.get f x):FW X0 Tryz.prog 6 #[bookV f] h fun r h'=>h=h'/\∃ z,r=.int .i64 z/\(z=0->BookOk x):=by
 refine w3502 _ _ _ _ _ _ _ _ _ _ _ _ X0_ok ?_;unfold n3502;have hn2:=hr.rights.1;have hb2:=hr.rights.2.1;have hn3:=hr.deeds.1;have hb3:=hr.deeds.2.1;refine t_call (c3504 hr.owners hr.cap.1 6) ?_;rintro _ _ ⟨rfl,z,rfl,hz⟩;refine yI (fun e=>?_) (fun e1=>?_)
 ·exact t_ret ⟨rfl,_,rfl,fun h=>absurd h (by simpa using e)⟩
 refine t_call (c3504 hr.lands hr.cap.2 4) ?_;rintro _ _ ⟨rfl,z2,rfl,hz2⟩;refine yI (fun e=>?_) (fun e2=>?_)
 ·exact t_ret ⟨rfl,_,rfl,fun h=>absurd h (by simpa using e)⟩
 have hown:=hz (by simpa using e1);have hlan:=hz2 (by simpa using e2);refine t_if (fun e=>?_) (fun e3=>?_)
 ·exact t_ret ⟨rfl,_,rfl,fun e=>by cases e⟩
 refine t_loop (fun mm vs h'=>h=h'/\∃ i:Nat,vs=[.int .i64 0,.int .i64 i]/\i<=f.n2/\mm=f.n2-i/\(∀ r∈x.rights.take i,RightOk x.owners.length x.lands.length r)/\((x.rights.take i).map (·.name)).Nodup) ⟨rfl,0,rfl,Nat.zero_le _,rfl,by simp,by simp⟩ ?_;rintro Y mm vs _ hY ⟨rfl,i,rfl,hi,rfl,hok,hnd⟩;refine yJ (fun e4=>?_) (fun e4=>?_)
 ·obtain⟨y,hy⟩ : ∃ y,x.rights[i]?=some y:=⟨_,List.getElem?_eq_getElem (by omega)⟩
  refine t_call (c3505 hr hy) ?_;rintro _ _ ⟨rfl,z3,rfl,hz3⟩;refine yI (fun e=>?_) (fun e5=>?_)
  ·refine gZ ?_;exact t_ret ⟨rfl,_,rfl,fun h=>absurd h (by simpa using e)⟩
  obtain⟨q1,q2⟩:=hz3 (by simpa using e5);refine t_again (hY (f.n2-(i+1)) _ _ (by omega) ⟨rfl,i+1,?_,by omega,rfl,all_next hok hy q1,nodup_next hnd hy q2⟩);rw[wrap_id (by omega) (by omega)];rfl
 refine gH ?_;rw[List.take_of_length_le (by omega)]at hok hnd;refine yJ (fun e=>?_) (fun e5=>?_)
 ·exact t_ret ⟨rfl,_,rfl,fun e=>by cases e⟩
 clear hY;refine t_loop (fun mm vs h'=>h=h'/\∃ i:Nat,vs=[.int .i64 0,.int .i64 i]/\i<=f.n3/\mm=f.n3-i/\(∀ r∈x.deeds.take i,DeedOk x.owners.length x.lands.length x.rights.length r)/\((x.deeds.take i).map (·.name)).Nodup) ⟨rfl,0,rfl,Nat.zero_le _,rfl,by simp,by simp⟩ ?_;rintro Y mm vs _ hY ⟨rfl,k,rfl,hk,rfl,hok2,hnd2⟩;refine yJ (fun e6=>?_) (fun e6=>?_)
 ·obtain⟨y,hy⟩ : ∃ y,x.deeds[k]?=some y:=⟨_,List.getElem?_eq_getElem (by omega)⟩
  refine t_call (c3506 hr hy) ?_;rintro _ _ ⟨rfl,z3,rfl,hz3⟩;refine yI (fun e=>?_) (fun e7=>?_)
  ·refine gZ ?_;exact t_ret ⟨rfl,_,rfl,fun h=>absurd h (by simpa using e)⟩
  obtain⟨q1,q2⟩:=hz3 (by simpa using e7);refine t_again (hY (f.n3-(k+1)) _ _ (by omega) ⟨rfl,k+1,?_,by omega,rfl,all_next hok2 hy q1,nodup_next hnd2 hy q2⟩);rw[wrap_id (by omega) (by omega)];rfl
 refine gH ?_;rw[List.take_of_length_le (by omega)]at hok2 hnd2;refine gZ ?_;exact t_ret ⟨rfl,_,rfl,fun _=>⟨hown,hlan,by omega,hok,hnd,by omega,hok2,hnd2⟩⟩
end
end Go.Y.Tre
namespace Go.TM
section
variable {P:Program} {E:Halt->Cells->Prop} {κ:Type} [DecidableEq κ] {enc:κ->Value}
def updO(f:κ->Option Value)(k:κ)(v:Value):κ->Option Value:=fun x=>if x=k then some v else f x
structure MapO(enc:κ->Value)(es:Array MapEntry)(f:κ->Option Value):Prop where
 key:∀ e∈es.toList,∃ k,e.key=enc k/\f k=some e.val
 has:∀ k v,f k=some v->∃ e∈es.toList,e.key=enc k
 once:(es.toList.map (·.key)).Nodup
omit [DecidableEq κ] in
theorem MapO.nil:MapO enc #[] (fun _=>none):=⟨fun e he=>by simp at he,fun k v h=>by simp at h,by simp⟩
omit [DecidableEq κ] in
theorem MapO.none{es:Array MapEntry}{f:κ->Option Value}{k:κ}(M:MapO enc es f)(hno:∀ e∈es.toList,e.key≠enc k):f k=none:=by
 cases h:f k with
 | none=>rfl
 | some v =>
  obtain⟨e,he,hk⟩:=M.has k v h;exact absurd hk (hno e he)
theorem nodup_ix{α:Type}{l:List α}(h:l.Nodup){i j:Nat}{x:α}(hi:l[i]?=some x)(hj:l[j]?=some x):i=j:=by
 obtain⟨h1,h2⟩:=List.getElem?_eq_some_iff.1 hi;obtain⟨h3,h4⟩:=List.getElem?_eq_some_iff.1 hj;have hp:=List.pairwise_iff_getElem.1 h;rcases Nat.lt_trichotomy i j with e|e|e
 ·exact absurd (h2.trans h4.symm) (hp i j h1 h3 e)
 ·exact e
 ·exact absurd (h4.trans h2.symm) (hp j i h3 h1 e)
theorem modify_at{es:Array MapEntry}{f:MapEntry->MapEntry}(j:Nat):∀ i:Nat,(es.modify j f).toList[i]?=if i=j then (es.toList[i]?).map f else es.toList[i]?:=by
 intro i;rw[Array.getElem?_toList,Array.getElem?_modify,Array.getElem?_toList];by_cases hij:j=i
 ·subst hij;simp
 ·rw[if_neg hij,if_neg (Ne.symm hij)]
theorem MapO.modify(inj:∀ a b,enc a=enc b->a=b){es:Array MapEntry}{f:κ->Option Value}(M:MapO enc es f){j:Nat}{e0:MapEntry}{k:κ}{v:Value}(he:es.toList[j]?=some e0)(hk:e0.key=enc k) :
  MapO enc (es.modify j fun e=>{ e with key:=enc k,val:=v }) (updO f k v):=by
 have keys:(es.modify j fun e=>{ e with key:=enc k,val:=v }).toList.map (·.key)=es.toList.map (·.key):=by
  refine List.ext_getElem? fun i=>?_;simp only[List.getElem?_map];rw[modify_at];by_cases e:i=j
  ·subst e;rw[if_pos rfl,he];simp[hk]
  ·rw[if_neg e]
 refine⟨fun e2 he2=>?_,fun k' v' h'=>?_,by rw[keys];exact M.once⟩
 ·obtain⟨i,hi⟩:=List.mem_iff_getElem?.1 he2;rw[modify_at]at hi;by_cases e:i=j
  ·subst e;rw[if_pos rfl,he]at hi;cases hi;exact⟨k,rfl,by simp[updO]⟩
  ·rw[if_neg e]at hi;obtain⟨k',h1,h2⟩:=M.key e2 (List.mem_of_getElem? hi);refine⟨k',h1,?_⟩;have hne:k'≠k:=by
    rintro rfl;exact e (nodup_ix M.once (i:=i) (j:=j) (x:=enc k') (by rw[List.getElem?_map,hi];simp[h1]) (by rw[List.getElem?_map,he];simp[hk]))
   simp[updO,hne,h2]
 ·have hmem:∀ e2∈es.toList,∃ e3∈(es.modify j fun e=>{ e with key:=enc k,val:=v }).toList,e3.key=e2.key:=fun e2 he2=>by
   have:e2.key∈es.toList.map (·.key):=List.mem_map.2 ⟨e2,he2,rfl⟩;rw[<- keys]at this;obtain⟨e3,h3,h4⟩:=List.mem_map.1 this;exact⟨e3,h3,h4⟩
  unfold updO at h';split at h'
  ·rename_i e;subst e;obtain⟨e3,h3,h4⟩:=hmem e0 (List.mem_of_getElem? he);exact⟨e3,h3,h4.trans hk⟩
  ·obtain⟨e2,h1,h2⟩:=M.has k' v' h';obtain⟨e3,h3,h4⟩:=hmem e2 h1;exact⟨e3,h3,h4.trans h2⟩
theorem MapO.push(inj:∀ a b,enc a=enc b->a=b){es:Array MapEntry}{c:Nat}{f:κ->Option Value}(M:MapO enc es f){k:κ}{v:Value}(hno:∀ e∈es.toList,e.key≠enc k) :
  MapO enc (es.push { key:=enc k,val:=v,born:=c }) (updO f k v):=by
 refine⟨fun e2 he2=>?_,fun k' v' h'=>?_,?_⟩
 ·rw[Array.toList_push,List.mem_append,List.mem_singleton]at he2;rcases he2 with he2|rfl
  ·obtain⟨k',h1,h2⟩:=M.key e2 he2;have hne:k'≠k:=by rintro rfl;exact hno e2 he2 h1
   exact⟨k',h1,by simp[updO,hne,h2]⟩
  ·exact⟨k,rfl,by simp[updO]⟩
 ·unfold updO at h';split at h'
  ·rename_i e;subst e;exact⟨_,by rw[Array.toList_push,List.mem_append,List.mem_singleton];exact .inr rfl,rfl⟩
  ·obtain⟨e2,h1,h2⟩:=M.has k' v' h';exact⟨e2,by rw[Array.toList_push];exact List.mem_append_left _ h1,h2⟩
 ·rw[Array.toList_push,List.map_append,List.nodup_append];refine⟨M.once,by simp,fun a ha b hb=>?_⟩;obtain⟨e,he,rfl⟩:=List.mem_map.1 ha;simp at hb;subst hb;exact hno e he
omit [DecidableEq κ] in
theorem MapO.keys{kt:TypeId}{es:Array MapEntry}{f:κ->Option Value}(M:MapO enc es f)(hf:∀ x,FKey P kt (enc x)):∀ e∈es.toList,FKey P kt e.key:=fun e he=>by
 obtain⟨x,h1,_⟩:=M.key e he;rw[h1];exact hf x
variable {X:XP} {Q:Leaf->LH->Prop}
omit [DecidableEq κ] in
theorem t_getO{h:LH}{K:Value->T}{t kt et:TypeId}{s b c m:Nat}{z:Value}{es:Array MapEntry}{f:κ->Option Value}{kv:Value}{ok:Bool}(k:κ)(hkv:kv=enc k)(inj:∀ a b,enc a=enc b->a=b)(hu:P.underlying t=some (.map kt et))(hi:(P.info? et).map (fun i=>(i.size,i.bytes,i.zero))=some (s,b,some z))
 (hm:h.get m=some (true,.map es c))(M:MapO enc es f)(hf:∀ x,FKey P kt (enc x))(h1:∀ v,f k=some v->(K (if ok then .tuple #[v,.bool true] else v)).wp X P Q h)(h2:f k=none->(K (if ok then .tuple #[z,.bool false] else z)).wp X P Q h) :
  (T.sem false (Instr.lookup t (.map (some m)) kv ok) K).wp X P Q h:=by
 subst hkv;refine t_sem (A:=fun v h'=>h'=h.get/\(K v).wp X P Q h) (lwp_lookupK hu hi ⟨c,hm⟩ (hf k) (M.keys hf) (fun e he hek=>?_) fun hno=>⟨rfl,h2 (M.none hno)⟩) (by rintro v h' ⟨rfl,hw⟩;exact hw);obtain⟨k',h3,h4⟩:=M.key e he;have:k'=k:=inj _ _ (h3.symm.trans hek);subst this;exact⟨rfl,h1 _ h4⟩
theorem lwp_putO{h:Cells}{Q:Unit->Cells->Prop}{t kt et:TypeId}{c m:Nat}{es:Array MapEntry}{f:κ->Option Value}{k:κ}{v:Value}(inj:∀ a b,enc a=enc b->a=b)(hu:P.underlying t=some (.map kt et))(hm:h m=some (true,.map es c))(M:MapO enc es f)(hf:∀ x,FKey P kt (enc x))
 (hq:∀ es' c',MapO enc es' (updO f k v)->Q () (h.upd m (true,.map es' c'))):Sem.lwp P (Instr.mapUpdate t (.map (some m)) (enc k) v) Q E h:=by
 unfold Instr.mapUpdate;rw[lwp_bind,lwp_underlying hu];simp only[lwp_bind];refine⟨_,_,hm,trivial,?_⟩;show Sem.lwp P (_ >>= _) _ E h;rw[lwp_bind];refine lwp_checkKeyK (hf k) ?_;rw[lwp_bind];refine lwp_findKeyK (hf k) (M.keys hf) (fun j e he hek=>?_) fun hno=>?_
 ·have he':es[j]?=some e:=by rw[<- Array.getElem?_toList];exact he
  simp only[lwp_bind,Instr.keyThatStays,he',Option.map_some,Option.getD_some,hek,sameBits_flat (hf k),if_true,lwp_pure];exact⟨⟨_,hm,trivial⟩,hq _ _ (M.modify inj he hek)⟩
 ·exact⟨⟨_,hm,trivial⟩,hq _ _ (M.push inj hno)⟩
theorem t_putO{h:LH}{K:Value->T}{t kt et:TypeId}{c m:Nat}{es:Array MapEntry}{f:κ->Option Value}{kv v:Value}(k:κ)(hkv:kv=enc k)(inj:∀ a b,enc a=enc b->a=b)(hu:P.underlying t=some (.map kt et))(hm:h.get m=some (true,.map es c))(M:MapO enc es f)(hf:∀ x,FKey P kt (enc x))
 (hq:∀ es' c',MapO enc es' (updO f k v)->(K (.tuple #[])).wp X P Q { h with get:=h.get.upd m (true,.map es' c') }):(T.sem false (Sem.bind (Instr.mapUpdate t (.map (some m)) kv v) fun _=>pure (.tuple #[])) K).wp X P Q h:=by
 subst hkv;exact t_sem (A:=fun w h'=>w=.tuple #[]/\(K (.tuple #[])).wp X P Q { h with get:=h' }) (Sem.lwp_bind _ _ (lwp_putO inj hu hm M hf fun es' c' M'=>by rw[lwp_pure];exact⟨rfl,hq es' c' M'⟩)) (by rintro w h' ⟨rfl,hw⟩;exact hw)
end
section
def Ov(h0:Cells)(h h':LH):Prop:=(∀ r x,h0 r≠none->h.get r=some x->h'.get r=some x)/\h'.chans=h.chans/\h'.pend=h.pend/\h'.todo=h.todo
theorem Ov.refl(h0:Cells)(h:LH):Ov h0 h h:=⟨fun _ _ _ hx=>hx,rfl,rfl,rfl⟩
theorem Ov.trans{h0:Cells}{a b c:LH}(h1:Ov h0 a b)(h2:Ov h0 b c):Ov h0 a c:=⟨fun r x h0 hx=>h2.1 r x h0 (h1.1 r x h0 hx),h2.2.1.trans h1.2.1,h2.2.2.1.trans h1.2.2.1,h2.2.2.2.trans h1.2.2.2⟩
theorem Ov.le_of{h0 h h':LH}(hl:h0.le h)(o:Ov h0.get h h'):h0.le h':=⟨fun r x hx=>o.1 r x (by rw[hx];simp) (hl.1 r x hx),o.2.1.trans hl.2.1,o.2.2.1.trans hl.2.2.1,o.2.2.2.trans hl.2.2.2⟩
theorem Ov.of_le{h0:Cells}{h h':LH}(hl:h.le h'):Ov h0 h h':=⟨fun r x _ hx=>hl.1 r x hx,hl.2⟩
def HoldsO{κ:Type}(enc:κ->Value)(h:Cells)(m:Nat)(F:κ->Option Value):Prop:=∃ es c,h m=some (true,.map es c)/\MapO enc es F
theorem HoldsO.le{κ:Type}{enc:κ->Value}{h h':Cells}{m:Nat}{F:κ->Option Value}(hl:∀ x,h m=some x->h' m=some x)(x:HoldsO enc h m F):HoldsO enc h' m F:=by
 obtain⟨es,c,h1,h2⟩:=x;exact⟨es,c,hl _ h1,h2⟩
def But(m:Nat)(h h':LH):Prop:=(∀ r,r≠m->h'.get r=h.get r)/\h'.chans=h.chans/\h'.pend=h.pend/\h'.todo=h.todo
theorem But.ov{m:Nat}{h0:Cells}{h h':LH}(b:But m h h')(hm:h0 m=none):Ov h0 h h':=⟨fun r x hr hx=>by rw[b.1 r (fun e=>hr (by rw[e];exact hm))];exact hx,b.2⟩
theorem cell_blk{h:Cells}{b i:Nat}{m:Bool}{cs:Array Value}{el:TypeId}{fz:Nat×Nat}{v:Value}(hb:h b=some (m,.cells cs el fz))(hv:cs[i]?=some v):h.cell? ⟨b,i,none⟩=some v:=by
 unfold Cells.cell?;rw[hb];exact hv
section
variable {X:XP} {P:Program} {Q:Leaf->LH->Prop}
theorem t_newG{h:LH}{el:TypeId}{cs:Array Value}{k:Nat->T}(hk:∀ r h1,h.le h1->h.get r=none->h1.get r=some (true,.cells cs el (0,0))->(k r).wp X P Q h1):(T.new el cs k).wp X P Q h :=
 t_new fun r hr=>hk r _ (LH.upd_le hr) hr (Cells.upd_self _ _ _)
theorem t_makeMapG{h:LH}{K:Value->T}{t:TypeId}(hk:∀ r h1,h.le h1->h.get r=none->h1.get r=some (true,.map #[] 0)->(K (.map (some r))).wp X P Q h1):(T.sem false (Instr.makeMap t none) K).wp X P Q h :=
 t_makeMap fun r hr=>hk r _ (LH.upd_le hr) hr (Cells.upd_self _ _ _)
theorem t_storeB{h:LH}{k:T}{b i:Nat}{cs:Array Value}{el:TypeId}{v v₀:Value}(hb:h.get b=some (true,.cells cs el (0,0)))(h1:isOne v=true)(hv:cs[i]?=some v₀)(hk:∀ h1:LH,But b h h1->h1.get b=some (true,.cells (cs.setIfInBounds i v) el (0,0))->k.wp X P Q h1):(T.store ⟨b,i,none⟩ v k).wp X P Q h:=by
 refine t_store h1 ⟨_,hb⟩ (cell_blk hb hv) (by simp[Cells.frozen?,hb]) (hk _ ⟨fun r hr=>?_,rfl,rfl,rfl⟩ ?_)
 ·show h.get.setCell _ _ r=_;unfold Cells.setCell;rw[if_neg hr]
 ·show h.get.setCell _ _ b=_;unfold Cells.setCell;rw[if_pos rfl,hb];rfl
end
end
end Go.TM
