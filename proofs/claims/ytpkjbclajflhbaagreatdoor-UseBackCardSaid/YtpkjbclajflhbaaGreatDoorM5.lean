/- Contracts and laws for the proof, joined by a program. No condition. -/
import Derived.Test.YtpkjbclajflhbaaGreatDoorM4
set_option linter.all false
noncomputable section
open Go Go.Conc Go.TM Go.Proofs
set_option maxRecDepth 100000
open Go.IntKind (wrap)
namespace Go.Y
section
attribute [local irreducible] T.wp CV FWK
def MapIs(h:Cells)(a:Nat)(R:Nat->Prop):Prop:=∃ es,MapAt h a es/\(∀ e∈es.toList,∃ n:Nat,e.key=.int .i64 n/\e.val=.bool true/\R n)/\∀ n,R n->∃ e∈es.toList,e.key=.int .i64 (n:Int)
variable {h:Cells}{a n c d m:Nat}{R:Nat->Prop}{es es':Array MapEntry}{X:XP}{Q:Leaf->LH->Prop}{K:Value->T}{f:FileC}{u:UseFile}
theorem MapIs.isMap(m:MapIs h a R):∃ es c,h a=some (true,.map es c):=by obtain⟨es,⟨c,b⟩,_⟩:=m;exact⟨es,c,b⟩
theorem MapIs.mv{m a:Nat}{h h':LH}{R:Nat->Prop}(b:a≠m)(mv:Mv m h h')(hm:MapIs h.get a R):MapIs h'.get a R:=by
 obtain⟨es,⟨c,d⟩,e⟩:=hm;exact⟨es,⟨c,mv.keep _ _ b d⟩,e⟩
theorem MapIs.congr{d:Nat->Prop}(hm:MapIs h a R)(f:∀ n,R n↔d n):MapIs h a d:=by
 obtain⟨es,g,i,j⟩:=hm;refine⟨es,g,fun e he=>?_,fun n k=>j n ((f n).2 k)⟩;obtain⟨n,a,b,c⟩:=i e he;exact⟨n,a,b,(f n).1 c⟩
theorem MapIs.keys(b:∀ e∈es.toList,∃ n:Nat,e.key=.int .i64 n/\e.val=.bool true/\R n):∀ e∈es.toList,IsKey Tryz.prog 3 e.key:=fun e he=>by
 obtain⟨n,h,_⟩:=b e he;exact .inl ⟨Yn,n,h⟩
theorem t_lookSet{h:LH}(hm:MapIs h.get a R)(l:R n->(K (.bool true)).wp X Tryz.prog Q h)(m:¬ R n->(K (.bool false)).wp X Tryz.prog Q h):(T.sem false (Instr.lookup 198 (.map (some a)) (.int .i64 n) false) K).wp X Tryz.prog Q h:=by
 obtain⟨es,b,f,i⟩:=hm;refine D0 und138 inf4 b (.inl ⟨Yn,_,rfl⟩) (MapIs.keys f) (fun e he c=>?_) fun d=>?_
 ·obtain⟨o,g,j,k⟩:=f e he;rw[c]at g;have:n=o:=by simp at g;omega
  subst this;rw[j];exact l k
 ·refine m fun hr=>?_;obtain⟨e,he,c⟩:=i n hr;exact d e he c
theorem t_addSet{h:LH}(hm:MapIs h.get a R)(r:∀ es c,MapIs (h.get.upd a (true,.map es c)) a (fun x=>R x\/x=n)->(K undef).wp X Tryz.prog Q { h with get:=h.get.upd a (true,.map es c) }) :
  (T.sem false (Sem.bind (Instr.mapUpdate 198 (.map (some a)) (.int .i64 n) (.bool true)) fun _=>pure (.tuple #[])) K).wp X Tryz.prog Q h:=by
 obtain⟨es,d,k,m⟩:=hm;refine t_mapUpdate und138 d (.inl ⟨Yn,_,rfl⟩) (MapIs.keys k) fun es' c o p q=>r es' c ⟨es',⟨c,Qk _ _ _⟩,fun e he=>?_,fun x j=>?_⟩
 ·rcases o e he with⟨k1,s⟩|k1
  ·exact⟨n,k1,s,.inr rfl⟩
  ·obtain⟨t,a,b,c⟩:=k e k1;exact⟨t,a,b,.inl c⟩
 ·rcases j with j|rfl
  ·obtain⟨e,he,i⟩:=m x j;obtain⟨l,f,g⟩:=q e he;exact⟨l,f,g.trans i⟩
  ·exact p
theorem rd_updMap(hm:∃ es c,h a=some (true,.map es c)):Rd h (h.upd a (true,.map es' c)):=by
 intro x v hc;have b:x.block≠a:=by
  intro e;obtain⟨es,c,hm⟩:=hm;unfold Cells.cell? at hc;rw[e,hm]at hc;cases hc
 unfold Cells.cell? at hc ⊢;rw[Qm _ _ b];exact hc
theorem desk_other(k:Desk h d m f u)(b:a≠m)(hm:∃ es c,h a=some (true,.map es c)):Desk (h.upd a (true,.map es' c)) d m f u:=by
 have hr:=rd_updMap (es':=es') (c:=c) hm;refine⟨k.file.rd hr,k.rep.rd hr,fun j i=>hr _ _ (k.counts j i),hr _ _ k.mapp,?_⟩;obtain⟨es,c',e,g⟩:=k.map;exact⟨es,c',by rw[Qm _ _ (Ne.symm b)];exact e,g⟩
theorem mv_other{h h':LH}(mv:Mv m h h')(d:h.get a=none)(b:a≠m):Mv m h { h' with get:=h'.get.upd a (true,.map es c) }:=by
 refine⟨fun r x hr e=>?_,fun es c hm=>?_,mv.same⟩
 ·have:r≠a:=by rintro rfl;rw[d]at e;cases e
  show Cells.upd _ _ _ r=_;rw[Qm _ _ this];exact mv.keep r x hr e
 ·obtain⟨es',c',f⟩:=mv.isMap es c hm;exact⟨es',c',by show Cells.upd _ _ _ m=_;rw[Qm _ _ (Ne.symm b)];exact f⟩
section
variable {X:XP} {Q:Leaf->LH->Prop} {h h':LH} {d m:Nat} {f:FileC} {u:UseFile} {o:Option (Nat×(Nat->Prop))}
structure St(h:LH)(d m:Nat)(f:FileC)(u:UseFile)(h':LH)(o:Option (Nat×(Nat->Prop))):Prop where
 mv:Mv m h h'
 desk:Desk h'.get d m f u
 made:∀ a R,o=some (a,R)->MapIs h'.get a R/\a≠m/\h.get a=none
variable {k:Value->T}{n:Nat}
theorem s_from(s:St h d m f u h' o){k:Int->T}(a:(k u.from_).wp X Tryz.prog Q h'):(T.loadI .i64 (Addr.add (Addr.add (Addr.add ⟨d,0,none⟩ 0) 0) 2) k).wp X Tryz.prog Q h':=gL0 s.desk.file.f2 a
theorem s_make(hm:∃ es c,h.get m=some (true,.map es c))(s:St h d m f u h' none)(p:∀ a g,St h d m f u g (some (a,fun _=>False))->(k (.map (some a))).wp X Tryz.prog Q g):(T.sem false (Instr.makeMap 198 none) k).wp X Tryz.prog Q h':=by
 refine H9 fun a i=>p a _ ?_;have j:h'.le _:=Qr (x:=(true,.map #[] 0)) i;have b:h.get a=none:=by
  cases r:h.get a with
  | none=>rfl
  | some x =>
   by_cases e:a=m
   ·subst e;obtain⟨es,c,hm⟩:=hm;obtain⟨es',c',o⟩:=s.mv.isMap es c hm;rw[o]at i;cases i
   ·rw[s.mv.keep a x e r]at i;cases i
 have l:a≠m:=by rintro rfl;obtain⟨es,c,hm⟩:=hm;rw[hm]at b;cases b
 refine⟨s.mv.trans (Mv.of_le j),s.desk.le j.1,fun a' R e=>?_⟩;cases e;exact⟨⟨#[],⟨0,Qk _ _ _⟩,fun e he=>by simp at he,fun n q=>q.elim⟩,l,b⟩
theorem s_call(i:checkF u=0)(hm:∃ es c,h.get m=some (true,.map es c))(s:St h d m f u h' o){p:Option Addr}{c:Nat}{l:List Request}(x:Sl RequestE 3 h.get p n l)(j:l.length<=4)(g:∀ r∈l,0<=r.day/\r.day<=2000){day:Int}(w:∀ b,St h d m f u b o->(k (.int .i64 (meets u l day))).wp X Tryz.prog Q b):(T.call false 196 #[.pointer (some ⟨d,0,none⟩),.slice p n c,.int .i64 day] k).wp X Tryz.prog Q h':=by
 refine t_de (c107 s.desk i (x.rd RequestE.grow (s.mv.rd hm)) j g day) ?_;rintro _ b mv y rfl;refine w b ⟨s.mv.trans mv,y,fun a R e=>?_⟩;obtain⟨t,q,v⟩:=s.made a R e;exact⟨t.mv q mv,q,v⟩
theorem s_add{a:Nat}{R:Nat->Prop}(s:St h d m f u h' (some (a,R))){K:Value->T}(k:∀ b,St h d m f u b (some (a,fun x=>R x\/x=n))->(K undef).wp X Tryz.prog Q b) :
  (T.sem false (Sem.bind (Instr.mapUpdate 198 (.map (some a)) (.int .i64 n) (.bool true)) fun _=>pure (.tuple #[])) K).wp X Tryz.prog Q h':=by
 obtain⟨i,g,j⟩:=s.made a R rfl;refine t_addSet i fun es c hm=>k _ ⟨mv_other s.mv j g,desk_other s.desk g i.isMap,fun a' l e=>?_⟩;cases e;exact⟨hm,g,j⟩
end
theorem meets_lt(u:UseFile)(day:Int):∀ (l:List Request) (k acc:Nat),acc<2^(k+l.length)->meetsGo u day l k acc<2^(k+l.length):=by
 intro l
 induction l with
 | nil=>intro k acc h;exact h
 | cons r l a =>
  intro k acc h;rw[meetsGo];have e:k+(r::l).length=k+1+l.length:=by simp;omega
  rw[e]at h ⊢;refine a _ _ ?_;split
  ·exact Nat.or_lt_two_pow h (Nat.pow_lt_pow_right (by omega) (by omega))
  ·exact h
theorem Dg(u:UseFile)(l:List Request)(day:Int):meets u l day<2^l.length:=by
 have:=meets_lt u day l 0 0 (Nat.two_pow_pos _);rw[Nat.zero_add]at this;exact this
theorem or_small{b:Nat}(f:a<16)(hb:b<16):wrap .i64 (((BitVec.ofInt 64 (a:Int) ||| BitVec.ofInt 64 (b:Int)).toNat:Nat):Int)=((a ||| b:Nat):Int):=by
 have c:(BitVec.ofInt 64 (a:Int)).toNat=a:=by rw[BitVec.toNat_ofInt];omega
 have d:(BitVec.ofInt 64 (b:Int)).toNat=b:=by rw[BitVec.toNat_ofInt];omega
 rw[BitVec.toNat_or,c,d];have e:a ||| b<2^4:=Nat.or_lt_two_pow (by omega) (by omega);exact Qh (by omega) (by omega)
theorem c102{h:LH}(k:Desk h.get d m f u)(W:checkF u=0){p:Option Addr}{l:List Request}(hl:Sl RequestE 3 h.get p n l)(Z:l.length<=4)(H:∀ r∈l,0<=r.day/\r.day<=2000)(land item:Int) :
  De 170 #[.pointer (some ⟨d,0,none⟩),.int .i64 land,.int .i64 item,.slice p n c] h d m f u fun r _=>r=.bool (!can u land item l):=by
 refine w102 Qn ?_;have hn:=hl.1;have hm:=k.isMap;refine gZ ?_;refine Jd (fun F h'=>∃ a,F=[.map (some a)]/\St h d m f u h' (some (a,fun x=>False\/x=meets u l u.from_))) ?_ ?_
 ·have s0:St h d m f u h none:=⟨Mv.refl,k,fun a R e=>by cases e⟩
  refine gZ ?_
  repeat' (first
   | refine Zt ?_ ?_
   | (refine s_make hm (by assumption) fun a hx s=>?_)
   | (refine s_call W hm (by assumption) hl Z H fun hx s=>?_)
   | (refine s_add (by assumption) fun hx s=>?_)
   | (refine s_from (by assumption) ?_)
   | (with_reducible refine gY ?_)|(with_reducible refine gD ?_)|(with_reducible refine gP ?_)|((with_reducible apply gT);first|exact rfl|exact True.intro)|((with_reducible apply gS2);exact rfl)
   | (refine Qi ⟨_,rfl,by assumption⟩))
 ·rintro F l2 ⟨a0,rfl,s1⟩;refine gZ ?_;obtain⟨am,k0,n2⟩:=s1.made a0 _ rfl;refine t_gr (c88 _ _ _) ?_;rintro _ o c0 ⟨z0,z1,z2,rfl,r1,u1,x1⟩;have k2:=s1.desk.le c0.1;have m1:=k2.isMap;let h₀:LH:={ o with get:=fun b=>if b=m then none else o.get b }
  have y1:h₀.le o:=⟨fun b x hb=>by
   show o.get b=some x;have V:(if b=m then none else o.get b)=some x:=hb;split at V
   ·cases V
   ·exact V,rfl,rfl,rfl⟩
  have N:Rd o.get h₀.get:=by
   intro x v hc;have P:x.block≠m:=by
    intro e;obtain⟨es,c,hm⟩:=m1;unfold Cells.cell? at hc;rw[e,hm]at hc;cases hc
   unfold Cells.cell? at hc ⊢;have e0:h₀.get x.block=o.get x.block:=if_neg P;rw[e0];exact hc
  obtain⟨L,y0,a1,hH⟩:=hands99 Qn (N _ _ r1) (N _ _ u1) (N _ _ x1) (N _ _ k2.file.f5) (k2.rep.papers.rd PaperE.grow N);have b2:=s1.mv.trans (Mv.of_le (m:=m) c0);have n0:∀ R,reachL u l (shown u land item) [meets u l u.from_]=reachL u l [] R->can u land item l=R.contains (2^l.length-1):=by
   intro R e;unfold can;rw[e];rfl
  have p1:(2:Nat)^l.length<=16:=by
   have:(2:Nat)^l.length<=2^4:=Nat.pow_le_pow_right (by omega) Z;omega
  have u0:0<(2:Nat)^l.length:=Nat.two_pow_pos _;have o0:(1*2^min (n:Int).toNat 64:Int)=((2^l.length:Nat):Int):=by
   have:min (n:Int).toNat 64=l.length:=by rw[hn];simp;omega
   rw[this];simp
  generalize hP:(2:Nat)^l.length=M at p1 u0 o0;have m0:wrap .i64 (wrap .i64 (1*2^min (n:Int).toNat 64)-1)=((M-1:Nat):Int):=by
   rw[o0,Qh (n:=(M:Int)) (by omega) (by omega),Qh (by omega) (by omega)];omega
  have U:wrap .i64 (((M-1:Nat):Int)+1)=(M:Int):=by
   rw[Qh (by omega) (by omega)];omega
  simp only[m0,U];refine t_each y1 hH (fun i F h'=>Mv m h h'/\Desk h'.get d m f u/\∃ a R,F=[.map (some a)]/\a≠m/\MapIs h'.get a (fun x=>x∈R)/\(∀ s∈R,s<M)/\reachL u l (shown u land item) [meets u l u.from_]=reachL u l ((shown u land item).drop i) R)
   ⟨b2,k2,a0,[meets u l u.from_],rfl,k0,(am.mv k0 (Mv.of_le (m:=m) c0)).congr (fun x=>by simp),by intro s hs;simp at hs;subst hs;rw[<- hP];exact Dg u l _,rfl⟩ ?_ ?_
  ·rintro F t hle ⟨K,k3,a,R,rfl,P,A,hR,hc⟩;rw[List.drop_eq_nil_of_le (by rw[y0];exact Nat.le_refl _)]at hc;have z:=n0 R hc;rw[hP]at z;refine gZ ?_;refine t_lookSet A (fun X=>?_) fun I=>?_
   ·refine gZ ?_;refine Qg ⟨K,k3,?_⟩;rw[z];have:R.contains (M-1)=true:=by simpa using X
    rw[this]
   ·refine gZ ?_;refine Qg ⟨K,k3,?_⟩;rw[z];have:R.contains (M-1)=false:=by simpa using I
    rw[this]
  ·rintro i xs F t hi hle ⟨K,k3,a,R,rfl,P,A,hR,hc⟩ Y hY;obtain⟨x,q,nq,cq,hx,rfl,r2⟩:=a1 i xs hi;have w0:(shown u land item)[i]?=some x:=hx;have u2:=(Gf W).2 x (List.mem_filter.1 (List.mem_of_getElem? w0)).1;rw[Jo w0,reachL]at hc;unfold paperV;refine gZ ?_;have b0:=k3.isMap;refine H9 fun b hb=>?_;refine gZ ?_;have g0:t.le _:=Qr (x:=(true,.map #[] 0)) hb;have O:b≠m:=by rintro rfl;obtain⟨es,c,b0⟩:=b0;rw[b0]at hb;cases hb
   have o2:b≠a:=by rintro rfl;obtain⟨es,c,ha⟩:=A.isMap;rw[ha]at hb;cases hb
   -- j2 days of j2 paper
   refine Q1 (fun mm F h'=>Mv m t h'/\h₀.le h'/\Desk h'.get d m f u/\∃ w:Int,F=[.int .i64 w]/\x.days.first<=w/\w<=x.days.last+1/\mm=(x.days.last+1-w).toNat/\MapIs h'.get b (fun y=>∃ s∈R,∃ e:Int,x.days.first<=e/\e<w/\y=s ||| meets u l e))
    ⟨Mv.of_le g0,LH.le_trans hle g0,k3.le g0.1,x.days.first,rfl,by omega,by omega,rfl,⟨#[],⟨0,Qk _ _ _⟩,fun e he=>by simp at he,fun y hy=>by obtain⟨s,_,e,g,G,_⟩:=hy;omega⟩⟩ ?_
   rintro Y2 mm F m2 b1 ⟨j0,D,k5,w,rfl,g1,q2,rfl,p0⟩;refine yJ (fun e1=>?_) (fun e1=>?_)
   ·have l1:=hl.rd RequestE.grow (Mv.rd hm (K.trans j0));refine t_de (c107 k5 W l1 Z H w) ?_;rintro _ x0 E k6 rfl;refine gZ ?_;have a2:h₀.le x0:=⟨fun r y hr=>E.keep r y (by
     rintro rfl;have:(if r=r then none else o.get r)=some y:=hr;simp at this) (D.1 r y hr),E.same.1.trans D.2.1,E.same.2.1.trans D.2.2.1,E.same.2.2.trans D.2.2.2⟩
    have o1:=Dg u l w;rw[hP]at o1;refine Q1 (fun mm F h'=>Mv m t h'/\h₀.le h'/\Desk h'.get d m f u/\∃ j:Nat,F=[.int .i64 j]/\j<=M/\mm=M-j/\MapIs h'.get b (fun y=>(∃ s∈R,∃ e:Int,x.days.first<=e/\e<w/\y=s ||| meets u l e)\/∃ s∈R,s<j/\y=s ||| meets u l w))
     ⟨j0.trans E,a2,k6,0,rfl,Nat.zero_le _,rfl,(p0.mv O E).congr fun y=>⟨.inl,fun h=>by rcases h with h|⟨s,_,g,_⟩;exact h;omega⟩⟩ ?_
    rintro Y3 mm F J l0 ⟨S,Q,k7,j,rfl,hj,rfl,B⟩;refine yJ (fun e2=>?_) (fun e2=>?_)
    ·have n1:MapIs J.get a (fun x=>x∈R):=A.mv P S;refine t_lookSet n1 (fun X=>?_) fun I=>?_
     ·refine yT ?_;rw[or_small (by omega) (by omega)];refine t_addSet B fun es cc q0=>?_;have g2:Mv m t { J with get:=J.get.upd b (true,.map es cc) }:=mv_other S hb O;have c1:h₀.get b=none:=by
       cases q1:h₀.get b with
       | none=>rfl
       | some y=>rw[hle.1 _ _ q1]at hb;cases hb
      refine Qi (l0 (M-(j+1)) _ _ (by omega) ⟨g2,⟨fun r y hr=>?_,Q.2⟩,desk_other k7 O B.isMap,j+1,?_,by omega,rfl,q0.congr fun y=>?_⟩)
      ·have:r≠b:=by rintro rfl;rw[c1]at hr;cases hr
       show Cells.upd _ _ _ r=_;rw[Qm _ _ this];exact Q.1 r y hr
      ·rw[Qh (by omega) (by omega)];rfl
      ·constructor
       ·rintro((g|⟨s,g,G,C⟩)|rfl)
        ·exact .inl g
        ·exact .inr ⟨s,g,by omega,C⟩
        ·exact .inr ⟨j,X,by omega,rfl⟩
       ·rintro(g|⟨s,g,G,C⟩)
        ·exact .inl (.inl g)
        ·by_cases e:s=j
         ·subst e;exact .inr C
         ·exact .inl (.inr ⟨s,g,by omega,C⟩)
     ·refine yF ?_;refine Qi (l0 (M-(j+1)) _ _ (by omega) ⟨S,Q,k7,j+1,?_,by omega,rfl,B.congr fun y=>?_⟩)
      ·rw[Qh (by omega) (by omega)];rfl
      ·constructor
       ·rintro(g|⟨s,g,G,C⟩)
        ·exact .inl g
        ·exact .inr ⟨s,g,by omega,C⟩
       ·rintro(g|⟨s,g,G,C⟩)
        ·exact .inl g
        ·refine .inr ⟨s,g,?_,C⟩;have:s≠j:=by rintro rfl;exact I g
         omega
    ·refine gZ ?_;refine Qi (b1 (x.days.last+1-(w+1)).toNat _ _ (by omega) ⟨S,Q,k7,w+1,?_,by omega,by omega,rfl,B.congr fun y=>?_⟩)
     ·rw[Qh (by omega) (by omega)]
     ·constructor
      ·rintro(⟨s,g,e,G,C,h4⟩|⟨s,g,G,C⟩)
       ·exact⟨s,g,e,G,by omega,h4⟩
       ·exact⟨s,g,w,g1,by omega,C⟩
      ·rintro⟨s,g,e,G,C,h4⟩;by_cases he:e=w
       ·subst he;exact .inr ⟨s,g,by have:=hR s g;omega,h4⟩
       ·exact .inl ⟨s,g,e,G,by omega,h4⟩
   ·refine gZ ?_;have j1:w=x.days.last+1:=by omega
    subst j1;refine K6 D (hY _ _ D ⟨K.trans j0,k5,b,stepL ((daysOf x.days).map (meets u l)) R,rfl,O,p0.congr fun y=>?_,?_,hc⟩)
    ·simp only[stepL,List.mem_flatMap,List.mem_map,daysOf,List.mem_range];constructor
     ·rintro⟨s,g,e,G,C,rfl⟩;exact⟨s,g,_,⟨e,⟨(e-x.days.first).toNat,by omega,by omega⟩,rfl⟩,rfl⟩
     ·rintro⟨s,g,_,⟨e,⟨i,G,rfl⟩,rfl⟩,rfl⟩;exact⟨s,g,_,by omega,by omega,rfl⟩
    ·intro s hs;simp only[stepL,List.mem_flatMap,List.mem_map]at hs;obtain⟨s0,h0,mm,⟨e,_,rfl⟩,rfl⟩:=hs;rw[<- hP];exact Nat.or_lt_two_pow (by rw[hP];exact hR s0 h0) (Dg u l e)
end
section
attribute [local irreducible] T.wp CV FWK
variable {u:UseFile}{land day:Int}{h h':LH}{d m:Nat}{f:FileC}
theorem against_sub{item:Int}:∀ r∈against u land item day,r∈u.requests:=fun r hr=>(List.mem_filter.1 hr).1
theorem against_len(a:checkF u=0)(land item day:Int):(against u land item day).length<=4:=Nat.le_trans (List.length_filter_le _ _) (Z4 a).1
theorem c91(k:Desk h.get d m f u)(g:checkF u=0)(land item day:Int) :
  De 141 #[.pointer (some ⟨d,0,none⟩),.int .i64 land,.int .i64 item,.int .i64 day] h d m f u fun r _=>r=.int .i64 (left u land item day):=by
 refine w91 Qn ?_;refine t_gr (c101 k g land item day) ?_;rintro _ y s ⟨p,n,c,rfl,C⟩;have k1:=k.le s.1;have w:=k1.isMap;have l:∀ r∈against u land item day,0<=r.day/\r.day<=2000:=fun r hr=>(Z4 g).2 r (against_sub r hr);have D:=against_len g land item day;refine gZ ?_;have hn:=C.1;refine Q1 (fun N O h'=>Mv m y h'/\Desk h'.get d m f u/\∃ i:Nat,O=[.bool true,.int .i64 i]/\i<=n/\N=n-i/\∀ j r,j<i->(against u land item day)[j]?=some r->safe u land item r.day=1)
  ⟨Mv.refl,k1,0,rfl,Nat.zero_le _,rfl,fun j r B=>by omega⟩ ?_
 rintro Y N O H Q ⟨mv,K,i,rfl,hi,rfl,t⟩;refine yJ (fun P=>?_) (fun P=>?_)
 ·obtain⟨x,a,F,Z,U,V,q,mq,S,W,X⟩:=(C.rd RequestE.grow (mv.rd w)).at (i:=i) (by omega);refine gZ ?_;have G:=l x (List.mem_of_getElem? F);refine t_de (c60 K (Ke g) land item x.day G) ?_;rintro _ I z L rfl;refine yI (fun b=>?_) (fun b=>?_)
  ·refine yF ?_;have o:=mv.trans z;refine t_de (c102 L g (C.rd RequestE.grow (o.rd w)) D l land item) ?_;rintro _ J A M rfl;refine gZ ?_;have E:safe u land item x.day≠1:=by simpa using b
   have v:¬ ((against u land item day).all fun r=>decide (safe u land item r.day=1))=true:=by
    intro R;have:=List.all_eq_true.1 R x (List.mem_of_getElem? F);exact E (by simpa using this)
   refine Qp (fun e=>?_) (fun e=>?_)
   ·refine Qg ⟨(Mv.of_le s).trans (o.trans A),M,?_⟩;have:can u land item (against u land item day)=false:=by simpa using e
    rw[left,if_neg v,this];rfl
   ·refine Qg ⟨(Mv.of_le s).trans (o.trans A),M,?_⟩;have:can u land item (against u land item day)=true:=by simpa using e
    rw[left,if_neg v,this];rfl
  ·refine Qi (Q (n-(i+1)) _ _ (by omega) ⟨mv.trans z,L,i+1,?_,by omega,rfl,fun j r B hr=>?_⟩)
   ·rw[Qh (by omega) (by omega)];rfl
   ·by_cases e:j=i
    ·subst e;rw[F]at hr;cases hr;simpa using b
    ·exact t j r (by omega) hr
 ·refine yT ?_;refine Qg ⟨(Mv.of_le s).trans mv,K,?_⟩;have:((against u land item day).all fun r=>decide (safe u land item r.day=1))=true:=by
   rw[List.all_eq_true];intro r hr;obtain⟨j,B⟩:=List.mem_iff_getElem?.1 hr;have:=t j r (by have:=(List.getElem?_eq_some_iff.1 B).1;omega) B;simpa using this
  rw[left,if_pos this]
def dropM(m:Nat)(h:LH):LH:={ h with get:=fun b=>if b=m then none else h.get b }
theorem dropM_le(mv:Mv m h h'):(dropM m h).le h':=by
 refine⟨fun r x hr=>?_,mv.same⟩;have a:(if r=m then none else h.get r)=some x:=hr;split at a
 ·cases a
 ·exact mv.keep r x (by assumption) a
theorem dropM_rd(hm:∃ es c,h.get m=some (true,.map es c)):Rd h.get (dropM m h).get:=by
 intro x v hc;have a:x.block≠m:=by
  intro e;obtain⟨es,c,hm⟩:=hm;unfold Cells.cell? at hc;rw[e,hm]at hc;cases hc
 unfold Cells.cell? at hc ⊢;have b:(dropM m h).get x.block=h.get x.block:=if_neg a;rw[b];exact hc
theorem mv_of_drop(a:(dropM m h).le h')(hm:∃ es c,h'.get m=some (true,.map es c)):Mv m h h' :=
 ⟨fun r x hr b=>a.1 r x (by show (if r=m then none else h.get r)=_;rw[if_neg hr];exact b),fun _ _ _=>hm,a.2⟩
theorem desk_of_drop(k:Desk h.get d m f u)(b:(dropM m h).le h')(hm:∃ es c,h'.get m=some (true,.map es c)/\∀ e∈es.toList,∃ day:Int,e.key=.agg #[.int .i64 day,.int .i64 u.idle]/\e.val=.agg #[.int .i64 (window u day).first,.int .i64 day]):Desk h'.get d m f u:=by
 have hr:Rd h.get h'.get:=(dropM_rd k.isMap).trans (Rd.of_le b.1);exact⟨k.file.rd hr,k.rep.rd hr,fun j a=>hr _ _ (k.counts j a),hr _ _ k.mapp,hm⟩
theorem t_growD{α:Type}{X:XP}{Q:Leaf->LH->Prop}{Enc:α->List Value->Prop}{o:LH}{k:Value->T}{ts:Array TypeId}{ty E F el O:TypeId}{s t:Nat}{z:Value}{p:Option Addr}{n c N:Nat}{b:Addr}{l:List α}{x:α}{ws:List Value}(kd:Desk h.get d m f u)(k1:Desk o.get d m f u)(mv:Mv m h o)
 (h0:ts[0]?=some E)(G:ts[1]?=some F)(hu:Tryz.prog.underlying E=some (.slice el))(M:Tryz.prog.underlying F=some (.slice O))(I:(Tryz.prog.info? el).map (fun i=>(i.size,i.bytes,i.zero))=some (s,t,some z))(B:z.cells.size=s)(hb:t<=1024)(L:n+1<=2^30)(g:Growing Enc el s (dropM m h).get o.get p n c l)(he:Enc x ws)(K:ws.length=s)(hc:∀ (j:Nat) v,ws[j]?=some v->o.get.cell? (b.add j)=some v)(one:∀ v∈ws,isOne v=true)
 (J:∀ y c' h',Mv m h h'->Desk h'.get d m f u->Growing Enc el s (dropM m h).get h'.get y (n+1) c' (l++[x])->(k (.slice y (n+1) c')).wp X Tryz.prog Q h'):(T.sem false (Builtin.append_ ts ty #[.slice p n c,.slice (some b) 1 N]) k).wp X Tryz.prog Q o:=by
 have A:∀ a,p=some a->a.block≠m:=by
  intro a D e;obtain⟨P,⟨_,H⟩,_⟩:=g.row;obtain⟨es,c',hm⟩:=k1.isMap;rcases H with⟨rfl,_⟩|⟨r,cs,rfl,hr,_⟩
  ·cases D
  ·cases D;subst e;rw[hm]at hr;cases hr
 refine D1 h0 G hu M I B hb L g (dropM_le mv) he K hc one fun y c' h' hle q g'=>?_;obtain⟨es,C,hm,hv⟩:=k1.map;have w:=q m _ A hm;exact J y c' h' (mv_of_drop hle ⟨es,C,w⟩) (desk_of_drop kd hle ⟨es,C,w,hv⟩) g'
theorem leftAll_take(i:Nat)(a:i<u.items.toNat):(leftAll u land day).take (i+1)=(leftAll u land day).take i++[left u land i day]:=by
 have hlen:i<(leftAll u land day).length:=by unfold leftAll;rw[List.length_map,List.length_range];exact a
 rw[List.take_succ_eq_append_getElem hlen];congr 2;simp[leftAll]
theorem c63(k:Desk h.get d m f u)(b:checkF u=0)(land day:Int) :
  De 78 #[.pointer (some ⟨d,0,none⟩),.int .i64 land,.int .i64 day] h d m f u fun r h'=>∃ p n c,r=.slice p n c/\Growing IntEnc 55 1 (dropM m h).get h'.get p n c (leftAll u land day):=by
 refine w63 Qn ?_;obtain⟨f0,f1,f2,f3,f4,f5,f6⟩:=k.file;have D:=(Z3 (Ke b)).1;refine gZ ?_;have hlen:(leftAll u land day).length=u.items.toNat:=by unfold leftAll;rw[List.length_map,List.length_range]
 refine Q1 (fun z A h'=>Mv m h h'/\Desk h'.get d m f u/\∃ (i:Nat) (p:Option Addr) (n c:Nat),A=[.slice p n c,.int .i64 i]/\i<=u.items.toNat/\z=u.items.toNat-i/\Growing IntEnc 55 1 (dropM m h).get h'.get p n c ((leftAll u land day).take i))
  ⟨Mv.refl,k,0,none,0,0,rfl,Nat.zero_le _,rfl,Growing.nil⟩ ?_
 rintro Y z A v C ⟨mv,k1,i,p,n,c,rfl,I,rfl,g⟩;refine yJ (fun B=>?_) (fun B=>?_)
 ·have o:=k1.isMap;refine t_de (c91 k1 b land i day) ?_;rintro _ e l F rfl;refine gZ ?_;have t:=g.mv o l;refine Zi Yb Yl (by decide) (by decide) (cells:=#[.int .i64 (left u land i day)]) (by kernel_rfl) fun r hr=>?_;have a:e.le _:=Qr (x:=(true,.cells #[.int .i64 (left u land i day)] 55 (0,0))) hr;have q:=t.count IntEnc.len (by omega);rw[List.length_take]at q;refine gZ ?_;refine t_growD (x:=left u land i day) (ws:=[.int .i64 (left u land i day)]) k (F.le a.1) ((mv.trans l).trans (Mv.of_le a)) rfl rfl Yb Yb Yl rfl (by omega) (by omega) (t.le a.1) rfl rfl ?_ ?_ ?_
  ·intro j w E;rw[Ql,Nat.zero_add];exact Qu (by simpa using E)
  ·intro w hw;simp at hw;subst hw;rfl
  ·intro H c' y s G g4;refine gZ ?_;refine Qi (C (u.items.toNat-(i+1)) _ _ (by omega) ⟨s,G,i+1,H,n+1,c',?_,by omega,rfl,?_⟩)
   ·rw[Qh (by omega) (by omega)];rfl
   ·rw[leftAll_take i (by omega)];exact g4
 ·refine gZ ?_;have:i=u.items.toNat:=by omega
  subst this;rw[List.take_of_length_le (by omega)]at g;exact Qg ⟨mv,k1,p,n,c,rfl,g⟩
def LeftR(h':Cells)(u:UseFile)(land day:Int)(r:Value):Prop :=
 (openF u [landQ u land,dayQ day]≠0/\r=.tuple #[.slice none 0 0,.int .i64 (openF u [landQ u land,dayQ day])]) \/
 (openF u [landQ u land,dayQ day]=0/\∃ p n c,r=.tuple #[.slice p n c,.int .i64 0]/\Sl IntE 1 h' p n (leftAll u land day))
theorem c23(A:Parts h.get)(hu:FileR h.get f u)(land day:Int):Gr Tryz.prog 25 #[fileV f u,land,day] h fun r h'=>LeftR h'.get u land day r:=by
 refine w23 Qn ?_;refine t_gr (c58 u land) ?_;rintro v0 q l ⟨C,y⟩;refine gZ ?_;refine t_gr (c54 u day) ?_;rintro v1 s i ⟨D,z⟩;refine gZ ?_;refine Yg C (y.le i) D z fun r t o B=>?_;refine gZ ?_;have a:=LH.le_trans (LH.le_trans l i) o;refine Ji (c53 (f:=f) (A.le a.1) (hu.le a.1) B) ?_;rintro v w ⟨j,⟨b,rfl⟩|⟨h0,d,m,rfl,E,hm,k⟩⟩
 ·refine gZ ?_;refine Qp (fun _=>?_) (fun e=>absurd (by simpa using e) b);exact Qg ⟨LH.le_trans a j,.inl ⟨b,rfl⟩⟩
 ·refine yF ?_;refine t_de (c63 k (J4 h0).2 land day) ?_;rintro _ x mv F ⟨p,n,c,rfl,g⟩;refine gZ ?_;refine Qg ⟨LH.le_trans a (Mv.le_of j hm mv),.inr ⟨h0,p,n,c,rfl,?_⟩⟩;refine g.sl IntEnc.len (by omega) IntEnc.e ?_;have:=(Z3 (J4 h0).1).1;unfold leftAll;rw[List.length_map,List.length_range];omega
end
section
attribute [local irreducible] T.wp CV FWK
def LackEnc(x:Lack)(ws:List Value):Prop:=ws=[.int .i64 x.item,.int .i64 x.request,.int .i64 x.window.first,.int .i64 x.window.last]
variable {h' h₀:Cells}{u:UseFile}{l pl a:List Int}{b:Int}{h:LH}{f:FileC}{pp p q:Option Addr}{pn pc n c m d:Nat}
theorem LackEnc.len:∀ x ws,LackEnc x ws->ws.length=4:=by rintro x _ rfl;rfl
theorem LackEnc.e:∀ a x ws,LackEnc x ws->(∀ (j:Nat) w,ws[j]?=some w->h'.cell? (a.add j)=some w)->LackE h' a x:=by
 rintro a x _ rfl hc;exact⟨hc 0 _ rfl,hc 1 _ rfl,hc 2 _ rfl,hc 3 _ rfl⟩
theorem check_items(h:checkF u=0):∀ r∈u.requests,risesF r.items u.items=0:=by
 obtain⟨_,f⟩:=Kc (Wm h).2.2.2;intro r hr;obtain⟨j,g⟩:=List.mem_iff_getElem?.1 hr;have:=f j r g;have key:∀ (b c2 c3:Prop) [Decidable b] [Decidable c2] [Decidable c3] (x:Int),(if b then (1:Int) else if c2 then 7 else if c3 then 6 else x)=0->x=0:=by
  intro b c2 c3 _ _ _ x a;by_cases c:b
  ·rw[if_pos c]at a;cases a
  ·rw[if_neg c]at a;by_cases d:c2
   ·rw[if_pos d]at a;cases a
   ·rw[if_neg d]at a;by_cases e:c3
    ·rw[if_pos e]at a;cases a
    ·rw[if_neg e]at a;exact a
 exact key _ _ _ _ this
theorem rises_len(h:risesF l b=0):(∀ i (a:i<l.length),(i:Int)<=l[i]/\l[i]<b/\0<=l[i]):=by
 have h':=Gd h;intro i
 induction i with
 | zero =>
  intro a;have:=h' 0 l[0] (List.getElem?_eq_getElem a);unfold riseF at this;split at this
  ·cases this
  ·rename_i c;simp[isIn]at c;omega
 | succ i j =>
  intro a;have c:=j (by omega);have:=h' (i+1) l[i+1] (List.getElem?_eq_getElem a);unfold riseF at this;split at this
  ·cases this
  ·split at this
   ·cases this
   ·rename_i f d;simp[isIn]at f;have e:l.getD (0+(i+1)-1) 0=l[i]:=by
     rw[show 0+(i+1)-1=i by omega];simp[List.getD,List.getElem?_eq_getElem (show i<l.length by omega)]
    rw[e]at d;have:¬ l[i+1]<=l[i]:=fun g=>d ⟨by omega,g⟩;omega
theorem rises_len'(h:risesF l b=0)(hb:0<=b):(l.length:Int)<=b:=by
 by_cases h0:l.length=0
 ·omega
 ·have:=rises_len h (l.length-1) (by omega);omega
theorem lacksGo_len{land day:Int}(b:∀ r∈u.requests,r.items.length<=6):∀ (l:List Request) (i:Nat),(∀ r∈l,r∈u.requests)->(lacksGo u land day l i).length<=l.length*6:=by
 intro l
 induction l with
 | nil=>intro i _;simp[lacksGo]
 | cons r l c =>
  intro i a;rw[lacksGo,List.length_append];have d:=c (i+1) fun r hr=>a r (by simp[hr]);have e:(lacksOf u land day i r).length<=6:=by
   unfold lacksOf;split
   ·simp
   ·rw[List.length_map];exact Nat.le_trans (List.length_filter_le _ _) (b r (a r (by simp)))
  simp only[List.length_cons];omega
def LacksR(h':Cells)(u:UseFile)(land day:Int)(r:Value):Prop :=
 (openF u [landQ u land,dayQ day]≠0/\r=.tuple #[.slice none 0 0,.int .i64 (openF u [landQ u land,dayQ day])]) \/
 (openF u [landQ u land,dayQ day]=0/\∃ p n c,r=.tuple #[.slice p n c,.int .i64 0]/\Sl LackE 4 h' p n (lacks u land day))
theorem c28(hp:Parts h.get)(hu:FileR h.get f u)(land day:Int):Gr Tryz.prog 26 #[fileV f u,land,day] h fun r h'=>LacksR h'.get u land day r:=by
 refine w28 Qn ?_;refine t_gr (c58 u land) ?_;rintro v0 x0 m0 ⟨q0,a0⟩;refine gZ ?_;refine t_gr (c54 u day) ?_;rintro v1 y0 b0 ⟨q1,a1⟩;refine gZ ?_;refine Yg q0 (a0.le b0) q1 a1 fun r z0 n0 hs=>?_;refine gZ ?_;have o:=LH.le_trans (LH.le_trans m0 b0) n0;refine Ji (c53 (f:=f) (hp.le o.1) (hu.le o.1) hs) ?_;rintro v l ⟨K,⟨P,rfl⟩|⟨h0,d,m,rfl,hd,hm,k⟩⟩
 ·refine gZ ?_;refine Qp (fun _=>?_) (fun e=>absurd (by simpa using e) P);exact Qg ⟨LH.le_trans o K,.inl ⟨P,rfl⟩⟩
 ·refine yF ?_;have J:=(J4 h0).2;have A:=Ke J;have Q:=Z4 J;have s0:=(Z3 A).1;have t:∀ r∈u.requests,r.items.length<=6:=fun r hr=>by have:=rises_len' (check_items J r hr) (by omega);omega
  have z:=lacksGo_len (land:=land) (day:=day) t u.requests 0 fun r hr=>hr;have Z:=LH.le_trans o K;have R:=(hu.le Z.1).requests;have j1:=R.1;have D:=k.isMap;refine Q1 (fun mm G h'=>Mv m l h'/\Desk h'.get d m f u/\∃ (i:Nat) (p:Option Addr) (n c:Nat) (rs:List Lack),G=[.slice p n c,.int .i64 i]/\i<=f.n6/\mm=f.n6-i/\Growing LackEnc 75 4 (dropM m l).get h'.get p n c rs/\lacks u land day=rs++lacksGo u land day (u.requests.drop i) i)
   ⟨Mv.refl,k,0,none,0,0,[],rfl,Nat.zero_le _,rfl,Growing.nil,rfl⟩ ?_
  rintro Y mm G B hY ⟨mv,k6,i,p,n,c,rs,rfl,hi,rfl,g,hc⟩;refine yJ (fun e1=>?_) (fun e1=>?_)
  ·obtain⟨x,a,hx,ha,e2,e3,q,mq,cq,e4,e5⟩:=R.at (i:=i) (by omega);have e2:=mv.rd D _ _ e2;have e3:=mv.rd D _ _ e3;have e4:=mv.rd D _ _ e4;have U:=List.mem_of_getElem? hx;have S:=Q.2 x U;have m1:=t x U;rw[Jo hx,lacksGo]at hc;refine gZ ?_;have next:∀ h' p n c M,Mv m l h'->Desk h'.get d m f u->Growing LackEnc 75 4 (dropM m l).get h'.get p n c M->M=rs++lacksOf u land day i x->Y [.slice p n c,.int .i64 (wrap .i64 ((i:Int)+1))] h':=by
    rintro h' p n c M o0 k' g' rfl;refine hY (f.n6-(i+1)) _ _ (by omega) ⟨o0,k',i+1,p,n,c,_,?_,by omega,rfl,g',by rw[hc,List.append_assoc]⟩;rw[Qh (by omega) (by omega)];rfl
   refine Jd (fun G h'=>G=[]/\B=h'/\x.land=land/\x.day<=day) ?_ ?_
   ·refine Qp (fun H=>?_) (fun H=>?_)
    ·refine gR ?_;refine yT ?_;refine gZ ?_;refine Qi (next B p n c rs mv k6 g ?_);have:x.land≠land:=by simpa using H
     rw[lacksOf,if_pos (.inl this)];simp
    ·refine t_if (fun b2=>?_) (fun b2=>?_)
     ·refine gR ?_;refine yT ?_;refine gZ ?_;refine Qi (next B p n c rs mv k6 g ?_);rw[lacksOf,if_pos (.inr b2)];simp
     ·exact Qi ⟨rfl,rfl,by simpa using H,by omega⟩
   ·rintro G _ ⟨rfl,rfl,g0,p0⟩;refine gZ ?_;have k0:lacksOf u land day i x=(x.items.filter fun n=>decide (safe u land n x.day≠1)).map fun n=>⟨n,(i:Int),⟨(window u x.day).first,x.day⟩⟩:=by
     rw[lacksOf,if_neg (by omega)]
    have h1:=e5.1;refine Q1 (fun mm G h'=>Mv m l h'/\Desk h'.get d m f u/\∃ (j:Nat) (p:Option Addr) (n c:Nat) (N:List Lack),G=[.slice p n c,.int .i64 j]/\j<=mq/\mm=mq-j/\N.length<=j/\Growing LackEnc 75 4 (dropM m l).get h'.get p n c (rs++N)/\lacksOf u land day i x=N++((x.items.drop j).filter fun n=>decide (safe u land n x.day≠1)).map fun n=>⟨n,(i:Int),⟨(window u x.day).first,x.day⟩⟩)
     ⟨mv,k6,0,p,n,c,[],rfl,Nat.zero_le _,rfl,Nat.le_refl _,by simpa using g,k0⟩ ?_
    rintro Y2 mm G W O ⟨E,k7,j,p,n,c,N,rfl,hj,rfl,l1,g7,s⟩;refine yJ (fun e6=>?_) (fun e6=>?_)
    ·obtain⟨y,b,hy,hb,e7⟩:=(e5.rd IntE.grow (E.rd D)).at (i:=j) (by omega);unfold IntE at e7;rw[Jo hy,List.filter_cons]at s;refine gZ ?_;refine t_de (c60 k7 A land y x.day S) ?_;rintro _ c1 F k8 rfl;have g8:=g7.mv k7.isMap F;refine yI (fun H=>?_) (fun H=>?_)
     ·have I:decide (safe u land y x.day≠1)=true:=by simpa using H
      rw[if_pos I,List.map_cons]at s;refine t_de (c55 k8 (Z3 A).2.2.2 x.day S) ?_;rintro _ X L k9 rfl;have g9:=g8.mv k8.isMap L;have g1:=(F.trans L).rd k7.isMap _ _ e7;refine gZ ?_;refine Zi Ya Yk (by decide) (by decide) (cells:=#[.int .i64 y,.int .i64 i,.int .i64 (window u x.day).first,.int .i64 x.day]) (by kernel_rfl) fun r hr=>?_;have C:X.le _:=Qr (x:=(true,.cells #[.int .i64 y,.int .i64 i,.int .i64 (window u x.day).first,.int .i64 x.day] 75 (0,0))) hr;have j0:=g9.count LackEnc.len (by omega);have u0:rs.length<=u.requests.length*6:=by
       have:=z;unfold lacks at hc;rw[hc,List.length_append]at this;omega
      have w0:N.length<=6:=by have:=e5.1;omega
      rw[List.length_append]at j0;refine gZ ?_;refine t_growD (x:=(⟨y,(i:Int),⟨(window u x.day).first,x.day⟩⟩ : Lack)) (ws:=[.int .i64 y,.int .i64 i,.int .i64 (window u x.day).first,.int .i64 x.day]) k (k9.le C.1) (((E.trans F).trans L).trans (Mv.of_le C)) rfl rfl Ya Ya Yk rfl (by omega) (by omega) (g9.le C.1) rfl rfl ?_ ?_ ?_
      ·intro j w hj;rw[Ql,Nat.zero_add];exact Qu (by simpa using hj)
      ·intro w hw;simp at hw;rcases hw with rfl|rfl|rfl|rfl<;>rfl
      ·intro p' c' V c0 l0 e0;refine gZ ?_;refine Qi (O (mq-(j+1)) _ _ (by omega) ⟨c0,l0,j+1,p',n+1,c',N++[⟨y,(i:Int),⟨(window u x.day).first,x.day⟩⟩],?_,by omega,rfl,by simp;omega,by rw[<- List.append_assoc];exact e0,by rw[s];simp⟩);rw[Qh (by omega) (by omega)];rfl
     ·have I:decide (safe u land y x.day≠1)=false:=by simpa using H
      rw[if_neg (by rw[I];simp)]at s;refine Qi (O (mq-(j+1)) _ _ (by omega) ⟨E.trans F,k8,j+1,p,n,c,N,?_,by omega,rfl,by omega,g8,s⟩);rw[Qh (by omega) (by omega)];rfl
    ·refine gZ ?_;rw[List.drop_eq_nil_of_le (by omega)]at s;refine Qi (next W p n c _ E k7 g7 ?_);rw[s];simp
  ·refine gZ ?_;rw[List.drop_eq_nil_of_le (by omega),lacksGo,List.append_nil]at hc;refine Qg ⟨LH.le_trans o (Mv.le_of K hm mv),.inr ⟨h0,p,n,c,rfl,?_⟩⟩;rw[hc];refine g.sl LackEnc.len (by omega) LackEnc.e ?_;have:rs.length<=u.requests.length*6:=by
    have:=z;unfold lacks at hc;rw[hc]at this;exact this
   omega
def PaperEnc(h₀:Cells)(x:Paper)(ws:List Value):Prop:=∃ q m c,ws=[.int .i64 x.days.first,.int .i64 x.days.last,.int .i64 x.land,.slice q m c]/\Sl IntE 1 h₀ q m x.items
theorem PaperEnc.len:∀ x ws,PaperEnc h₀ x ws->ws.length=4:=by rintro x _ ⟨q,m,c,rfl,_⟩;rfl
theorem PaperEnc.e(hr:Rd h₀ h'):∀ a x ws,PaperEnc h₀ x ws->(∀ (j:Nat) w,ws[j]?=some w->h'.cell? (a.add j)=some w)->PaperE h' a x:=by
 rintro a x _ ⟨q,m,c,rfl,b⟩ hc;exact⟨hc 0 _ rfl,hc 1 _ rfl,hc 2 _ rfl,q,m,c,hc 3 _ rfl,b.rd IntE.grow hr⟩
def enoughB(u:UseFile)(land day:Int)(papers all:List Int):Bool:=decide (checkF (withP u papers)=0)&&coversB all (leftAll (withP u papers) land day)
theorem withP_take{i:Nat}{v:Int}{x:Paper}(hv:pl[i]?=some v)(b:u.papers[v.toNat]?=some x):(pl.take (i+1)).filterMap (fun n=>u.papers[n.toNat]?)=(pl.take i).filterMap (fun n=>u.papers[n.toNat]?)++[x]:=by
 obtain⟨a,rfl⟩:=List.getElem?_eq_some_iff.1 hv;rw[List.take_succ_eq_append_getElem a,List.filterMap_append];simp[b]
theorem c71(hp:Parts h.get)(hu:FileR h.get f u)(land day:Int)(K:Sl IntE 1 h.get pp pn pl)(c0:∀ v∈pl,0<=v/\v<(u.papers.length:Int))(L:pl.length<=8)
 {ap:Option Addr}{an ac:Nat}{all:List Int}(a0:Sl IntE 1 h.get ap an all)(b0:all.length=u.items.toNat):Gr Tryz.prog 80 #[fileV f u,land,day,.slice pp pn pc,.slice ap an ac] h fun r _=>r=.bool (enoughB u land day pl all):=by
 refine w71 Qn ?_;have hn:=K.1;have p0:=hu.papers.1;refine Q1 (fun O P h'=>h.le h'/\∃ (i:Nat) (p:Option Addr) (n c:Nat),P=[.int .i64 i,.int .i64 u.items,.int .i64 u.lands,.int .i64 u.from_,.int .i64 u.idle,.slice f.p4 f.n4 f.c4,.slice p n c,.slice f.p6 f.n6 f.c6]/\i<=pn/\O=pn-i /\
   Growing (PaperEnc h.get) 49 4 h.get h'.get p n c ((pl.take i).filterMap fun n=>u.papers[n.toNat]?)) ⟨LH.le_refl _,0,none,0,0,rfl,Nat.zero_le _,rfl,Growing.nil⟩ ?_
 rintro Y O P C hY ⟨hle,i,p,n,c,rfl,hi,rfl,g⟩;refine yJ (fun e1=>?_) (fun e1=>?_)
 ·obtain⟨v,a,hv,ha,W⟩:=K.at (i:=i) (by omega);unfold IntE at W;have W:=Qd hle.1 W;have w0:=c0 v (List.mem_of_getElem? hv);have u0:((v.toNat:Nat):Int)=v:=by omega
  obtain⟨x,b,hx,hb,e3,e4,e5,q,S,Q,R,X⟩:=hu.papers.at (i:=v.toNat) (by omega);have e3:=Qd hle.1 e3;have e4:=Qd hle.1 e4;have e5:=Qd hle.1 e5;have R:=Qd hle.1 R;have s0:0<=v/\v<(f.n5:Int):=by omega
  refine gZ ?_;refine Zi Ue Uv (by decide) (by decide) (cells:=#[.int .i64 x.days.first,.int .i64 x.days.last,.int .i64 x.land,.slice q S Q]) (by kernel_rfl) fun r hr=>?_;have t:C.le _:=Qr (x:=(true,.cells #[.int .i64 x.days.first,.int .i64 x.days.last,.int .i64 x.land,.slice q S Q] 49 (0,0))) hr;have q0:=g.count PaperEnc.len (by omega);have hlen:((pl.take i).filterMap fun n=>u.papers[n.toNat]?).length<=8:=Nat.le_trans (List.length_filterMap_le _ _) (by rw[List.length_take];omega);refine gZ ?_;refine D1 (x:=x) (ws:=[.int .i64 x.days.first,.int .i64 x.days.last,.int .i64 x.land,.slice q S Q]) rfl rfl Ue Ue Uv rfl (by omega) (by omega) (g.le t.1) (LH.le_trans hle t) ⟨q,S,Q,rfl,X⟩ rfl ?_ ?_ ?_
  ·intro j w hj;rw[Ql,Nat.zero_add];exact Qu (by simpa using hj)
  ·intro w hw;simp at hw;rcases hw with rfl|rfl|rfl|rfl<;>rfl
  ·intro p' c' N I _ g2;refine gZ ?_;refine Qi (hY (pn-(i+1)) _ _ (by omega) ⟨I,i+1,p',n+1,c',?_,by omega,rfl,by rw[withP_take hv hx];exact g2⟩);rw[Qh (by omega) (by omega)];rfl
 ·refine gZ ?_;have e0:pl.take i=pl:=List.take_of_length_le (by omega);rw[e0]at g;have hlen:(pl.filterMap fun n=>u.papers[n.toNat]?).length<=8:=Nat.le_trans (List.length_filterMap_le _ _) L;have g0:=g.sl PaperEnc.len (by omega) (PaperEnc.e (Rd.of_le hle.1)) (by omega);have j0:FileR C.get { f with p5:=p,n5:=n,c5:=c } (withP u pl):=⟨hu.excuses.le SpanE.grow hle.1,g0,hu.requests.le RequestE.grow hle.1⟩
  refine Ji (c53 (f:={ f with p5:=p,n5:=n,c5:=c }) (u:=withP u pl) (l:=[]) (hp.le hle.1) j0 ⟨rfl,by show 0<_;omega,fun i g hg=>by simp at hg⟩) ?_;rintro v N ⟨t,⟨J,rfl⟩|⟨h0,d,m,rfl,hd,hm,k⟩⟩
  ·refine gZ ?_;refine Qp (fun _=>?_) (fun e=>absurd (by simpa using e) J);refine Qg ⟨LH.le_trans hle t,?_⟩;have:checkF (withP u pl)≠0:=by
    intro hc;apply J;rw[openF,if_neg (by simp[hc])];rfl
   unfold enoughB;rw[decide_eq_false this];rfl
  ·refine yF ?_;have G:=(J4 h0).2;refine t_de (c63 k G land day) ?_;rintro _ D mv k3 ⟨p3,n3,c3,rfl,g3⟩;refine gZ ?_;have H:=(Z3 (J4 h0).1).1;have o:(withP u pl).items=u.items:=rfl;rw[o]at H;have n0:(leftAll (withP u pl) land day).length=u.items.toNat:=by unfold leftAll;rw[List.length_map,List.length_range,o]
   have M:=g3.sl IntEnc.len (by omega) IntEnc.e (by omega);have s:=Mv.le_of (LH.le_trans hle t) (by
    cases hx:h.get m with
    | none=>rfl
    | some y=>rw[hle.1 _ _ hx]at hm;cases hm) mv
   have A:=a0.le IntE.grow s.1;have o0:=M.1;have m0:=A.1;refine Q1 (fun O P h'=>D=h'/\∃ j:Nat,P=[.bool false,.int .i64 j]/\j<=n3/\O=n3-j/\coversB all (leftAll (withP u pl) land day)=coversB (all.drop j) ((leftAll (withP u pl) land day).drop j)) ⟨rfl,0,rfl,Nat.zero_le _,rfl,rfl⟩ ?_;rintro Y2 O P _ Z ⟨rfl,j,rfl,hj,rfl,hc⟩;refine gZ ?_;have B:∀ b,coversB all (leftAll (withP u pl) land day)=b->Value.bool b=.bool (enoughB u land day pl all):=by
    intro b hb;unfold enoughB;rw[decide_eq_true G,hb];rfl
   refine t_if (fun R=>?_) (fun R=>?_)
   ·obtain⟨y,a1,hy,k0,X⟩:=M.at (i:=j) (by omega);obtain⟨z,a2,hz,l0,e8⟩:=A.at (i:=j) (by omega);unfold IntE at X e8;rw[Jo hy,Jo hz,coversB]at hc;refine gZ ?_;have next:(!decide (z=1)||decide (y=1))=true->Y2 [.bool false,.int .i64 (wrap .i64 ((j:Int)+1))] D:=by
     intro hh;rw[hh,Bool.true_and]at hc;refine Z (n3-(j+1)) _ _ (by omega) ⟨rfl,j+1,?_,by omega,rfl,hc⟩;rw[Qh (by omega) (by omega)];rfl
    refine Qp (fun U=>?_) (fun U=>?_)
    ·have E:z=1:=by simpa using U
     refine Qp (fun V=>?_) (fun V=>?_)
     ·have F:y≠1:=by simpa using V
      refine gZ ?_;refine Qg ⟨s,B false ?_⟩;rw[hc];simp[E,F]
     ·have F:y=1:=by simpa using V
      exact Qi (next (by simp[F]))
    ·have E:z≠1:=by simpa using U
     exact Qi (next (by simp[E]))
   ·refine gZ ?_;refine Qg ⟨s,B true ?_⟩;rw[hc,List.drop_eq_nil_of_le (show (leftAll (withP u pl) land day).length<=j by omega)];cases all.drop j<;>rfl
theorem c69(a:f.n5=u.papers.length)(d:(u.papers.length:Int)<4611686018427387904){z:Addr}(e:h.get.cell? z=some (.slice p n c))(b:Sl IntE 1 h.get p n l):Gr Tryz.prog 82 #[fileV f u,.pointer (some z)] h fun r _=>r=.int .i64 (risesF l u.papers.length):=by
 refine w69 Qn ?_;refine gL1 e ?_;rw[a];refine t_gr (c70 b (by unfold IsI;omega)) ?_;rintro _ h' hle rfl;refine gZ ?_;exact Qg ⟨hle,rfl⟩
theorem rises_in(h:risesF l b=0):∀ v∈l,0<=v/\v<b:=by
 intro v hv;obtain⟨i,a,rfl⟩:=List.getElem_of_mem hv;have:=rises_len h i a;omega
def enoughQ(u:UseFile)(land day:Int)(papers:List Int):List Int:=[landQ u land,dayQ day,risesF papers u.papers.length]
def enoughR(u:UseFile)(land day:Int)(papers:List Int):Value :=
 if openF u (enoughQ u land day papers)≠0 then .tuple #[.bool false,.int .i64 (openF u (enoughQ u land day papers))] else .tuple #[.bool (enoughB u land day papers (leftAll u land day)),.int .i64 0]
theorem c31(H:Parts h.get)(hu:FileR h.get f u)(land day:Int)(t:Sl IntE 1 h.get pp pn pl):Gr Tryz.prog 28 #[fileV f u,land,day,.slice pp pn pc] h fun r _=>r=enoughR u land day pl:=by
 refine w31 Qn ?_;refine Z1 fun r hr=>?_;have E:h.le _:=Qr (x:=(true,.cells #[.slice pp pn pc] 47 (0,0))) hr;have z0:Cells.cell? (h.get.upd r (true,.cells #[.slice pp pn pc] 47 (0,0))) ⟨r,0,none⟩=some (.slice pp pn pc):=Qu rfl;refine t_gr (c58 u land) ?_;rintro v0 K y ⟨Y,R⟩;refine gZ ?_;refine t_gr (c54 u day) ?_;rintro v1 w l ⟨Z,S⟩;refine gZ ?_;have j:=LH.le_trans (LH.le_trans E y) l;have W:=hu.papers.2.1;have P:=Qd (LH.le_trans y l).1 z0;have U:Asks (.func (.func 82) #[] #[.pointer (some ⟨r,0,none⟩)]) w u (risesF pl u.papers.length):=by
  intro _ f' h' hle D;exact Za Qn (by rfl) (c69 D.papers.1 (by omega) (Qd hle.1 P) (t.le IntE.grow (LH.le_trans j hle).1))
 refine asks3 Y (R.le l) Z S ⟨_,_,_,rfl⟩ U fun r' L A V=>?_;refine gZ ?_;have a:=LH.le_trans j A;refine Ji (c53 (f:=f) (H.le a.1) (hu.le a.1) V) ?_;rintro v M ⟨o,⟨s,rfl⟩|⟨h0,d,m,rfl,hd,hm,k⟩⟩
 ·refine gZ ?_;refine Qp (fun _=>?_) (fun e=>absurd (by simpa using e) s);refine Qg ⟨LH.le_trans a o,?_⟩;show _=enoughR u land day pl;rw[enoughR,if_pos (show openF u (enoughQ u land day pl)≠0 from s)];rfl
 ·refine yF ?_;have z:=LH.le_trans A o;have Q:=Qd z.1 P;refine gL1 Q ?_;have q:=(J4 h0).2;refine t_de (c63 k q land day) ?_;rintro _ N mv k6 ⟨p,n,c,rfl,g⟩;refine gZ ?_;have z6:=mv.rd k.isMap _ _ Q;refine gL1 z6 ?_;refine gZ ?_;have C:h.get m=none:=by
   cases X:h.get m with
   | none=>rfl
   | some x=>rw[a.1 _ _ X]at hm;cases hm
  have i:=Mv.le_of (LH.le_trans a o) C mv;have b:risesF pl u.papers.length=0:=Db h0 _ (by simp);have I:=(Gf q).1;have J:=rises_len' b (by omega);have G:=(Z3 (J4 h0).1).1;have B:(leftAll u land day).length=u.items.toNat:=by unfold leftAll;rw[List.length_map,List.length_range]
  refine t_gr (c71 (H.le i.1) (hu.le i.1) land day (t.le IntE.grow i.1) (rises_in b) (by omega) (g.sl IntEnc.len (by omega) IntEnc.e (by omega)) B) ?_;rintro _ O F rfl;refine gZ ?_;refine Qg ⟨LH.le_trans i F,?_⟩;show _=enoughR u land day pl;rw[enoughR,if_neg (by unfold enoughQ;simpa using h0)]
def cmpI(x y:Int):Int:=if x<y then -1 else if x>y then 1 else 0
def cmpL:List Int->List Int->Int
 | [],[]=>0
 | [],_::_=>-1
 | _::_,[]=>1
 | x::xs,y::ys=>if cmpI x y≠0 then cmpI x y else cmpL xs ys
def fewerF(a b:List Int):Int:=if a.length≠b.length then (a.length:Int)-b.length else cmpL a b
theorem c109(x:Int):Pu Tryz.prog 197 #[x] h (.bool false):=by
 refine w109 Qn ?_;refine Qg ⟨?_,rfl⟩;simp
theorem c105(x y:Int):Pu Tryz.prog 171 #[x,y] h (.int .i64 (cmpI x y)):=by
 refine w105 Qn ?_;refine t_pu (c109 _) ?_;refine gZ ?_;refine t_pu (c109 _) ?_;refine yF ?_;refine yF ?_;refine t_if (fun e=>?_) (fun e=>?_)
 ·refine Qg ⟨?_,rfl⟩;rw[cmpI,if_pos e]
 ·refine t_if (fun a=>?_) (fun a=>?_)<;>refine Qg ⟨?_,rfl⟩<;>simp[cmpI,e,a]
theorem c97{b:List Int}(g:Sl IntE 1 h.get p n a)(hb:Sl IntE 1 h.get q m b):Pu Tryz.prog 142 #[.slice p n c,.slice q m d] h (.int .i64 (cmpL a b)):=by
 refine w97 Qn ?_;have F:=g.1;have hm:=hb.1;have z:=g.2.1;have w:=hb.2.1;refine Q1 (fun k l h'=>h=h'/\∃ i:Nat,l=[.int .i64 0,.int .i64 i]/\i<=n/\i<=m/\k=n-i/\cmpL a b=cmpL (a.drop i) (b.drop i)) ⟨rfl,0,rfl,Nat.zero_le _,Nat.zero_le _,rfl,rfl⟩ ?_;rintro Y k l _ t ⟨rfl,i,rfl,E,A,rfl,hc⟩;refine yJ (fun o=>?_) (fun o=>?_)
 ·obtain⟨x,C,B,u,r⟩:=g.at (i:=i) (by omega);unfold IntE at r;rw[Jo B]at hc;refine yJ (fun e=>?_) (fun e=>?_)
  ·refine gZ ?_;rw[List.drop_eq_nil_of_le (show b.length<=i by omega),cmpL]at hc;exact Qg ⟨by rw[hc],rfl⟩
  ·obtain⟨y,D,j,v,s⟩:=hb.at (i:=i) (by omega);unfold IntE at s;rw[Jo j,cmpL]at hc;refine gZ ?_;refine t_pu (c105 _ _) ?_;refine yI (fun f=>?_) (fun f=>?_)
   ·refine gZ ?_;rw[if_pos (by simpa using f)]at hc;exact Qg ⟨by rw[hc],rfl⟩
   ·rw[if_neg (by simpa using f)]at hc;refine Qi (t (n-(i+1)) _ _ (by omega) ⟨rfl,i+1,?_,by omega,by omega,rfl,hc⟩);rw[Qh (by omega) (by omega)];rfl
 ·refine gZ ?_;rw[List.drop_eq_nil_of_le (show a.length<=i by omega)]at hc;refine t_if (fun e=>?_) (fun e=>?_)
  ·obtain⟨y,j⟩ : ∃ y,b[i]?=some y:=⟨b[i]'(by omega),List.getElem?_eq_getElem (by omega)⟩
   rw[Jo j,cmpL]at hc;exact Qg ⟨by rw[hc],rfl⟩
  ·rw[List.drop_eq_nil_of_le (show b.length<=i by omega),cmpL]at hc;exact Qg ⟨by rw[hc],rfl⟩
theorem c75{b:List Int}(g:Sl IntE 1 h.get p n a)(hb:Sl IntE 1 h.get q m b):Pu Tryz.prog 81 #[.slice p n c,.slice q m d] h (.int .i64 (fewerF a b)):=by
 refine w75 Qn ?_;have k:=g.1;have hm:=hb.1;have j:=g.2.1;have i:=hb.2.1;refine Qp (fun e=>?_) (fun e=>?_)
 ·have f:a.length≠b.length:=by simp at e;omega
  rw[Qh (by omega) (by omega)];refine Qg ⟨?_,rfl⟩;rw[fewerF,if_pos f,k,hm]
 ·have f:¬ a.length≠b.length:=by simp at e;omega
  refine t_pu (c97 g hb) ?_;refine gZ ?_;refine Qg ⟨?_,rfl⟩;rw[fewerF,if_neg f]
end
end Go.Y
section
namespace Go.TM
theorem rises_mem{l:List Int}{b:Int}(h:risesF l b=0){v:Int}(hv:v∈l):0<=v/\v<b:=by
 obtain⟨n,d⟩:=List.mem_iff_getElem?.1 hv;have a:=Gd h n v d;unfold riseF at a;split at a
 ·cases a
 ·rename_i c;simp[isIn]at c;omega
end Go.TM
end
section
namespace Go.TM.Tp
variable {u:UseFile}
theorem paperF_zero{p:Paper}(h:paperF u p=0):isSpan p.days=true/\isIn p.land 0 (u.lands-1)=true/\risesF p.items u.items=0:=by
 unfold paperF at h;cases a:isSpan p.days with
 | false=>rw[a,if_pos rfl]at h;cases h
 | true =>
  cases b:isIn p.land 0 (u.lands-1) with
  | false=>rw[a,b,if_neg (by simp),if_pos rfl]at h;cases h
  | true=>rw[a,b,if_neg (by simp),if_neg (by simp)]at h;exact⟨rfl,rfl,h⟩
theorem requestF_zero{i:Nat}{r:Request}(h:requestF u i r=0):isDay r.day=true/\isIn r.land 0 (u.lands-1)=true/\risesF r.items u.items=0:=by
 unfold requestF at h;cases a:isDay r.day with
 | false=>rw[a,if_pos rfl]at h;cases h
 | true =>
  rw[a,if_neg (by simp)]at h;generalize (decide (r.day<u.from_)||(decide (0<i)&&(match u.requests[i-1]? with|some q=>decide (r.day<q.day)|none=>false)))=b at h;cases b with
  | true=>rw[if_pos rfl]at h;cases h
  | false =>
   rw[if_neg (by simp)]at h;cases c:isIn r.land 0 (u.lands-1) with
   | false=>rw[c,if_pos rfl]at h;cases h
   | true=>rw[c,if_neg (by simp)]at h;exact⟨rfl,rfl,h⟩
structure Sound(u:UseFile):Prop where
 num:(0<=u.items/\u.items<=6)/\(1<=u.lands/\u.lands<=3)/\(0<=u.from_/\u.from_<=2000)/\(1<=u.idle/\u.idle<=2000)
 nx:u.excuses.length<=4
 np:u.papers.length<=8
 nr:u.requests.length<=4
 ex:∀ x∈u.excuses,(0<=x.first/\x.first<=2000)/\(0<=x.last/\x.last<=2000)
 pa:∀ p∈u.papers,((0<=p.days.first/\p.days.first<=2000)/\(0<=p.days.last/\p.days.last<=2000))/\(0<=p.land/\p.land<=2)/\p.items.length<=6/\∀ n∈p.items,0<=n/\n<=5
 re:∀ r∈u.requests,(0<=r.day/\r.day<=2000)/\(0<=r.land/\r.land<=2)/\r.items.length<=6/\∀ n∈r.items,0<=n/\n<=5
theorem sound(h:checkF u=0):Sound u:=by
 have o:=Z3 (Ke h);obtain⟨_,f,g,i⟩:=Wm h;obtain⟨t,f⟩:=Kc f;obtain⟨v,g⟩:=Kc g;obtain⟨w,i⟩:=Kc i;have items:∀ {l:List Int},risesF l u.items=0->l.length<=6/\∀ n∈l,0<=n/\n<=5:=fun {l} m=>by
  have:=Go.Y.rises_len' m (by omega);exact⟨by omega,fun n k=>by have:=rises_mem m k;omega⟩
 refine⟨o,by omega,by omega,by omega,fun x s=>?_,fun p q=>?_,fun r hr=>?_⟩
 ·obtain⟨j,d⟩:=List.mem_iff_getElem?.1 s;have h:=f j x d;cases e:isSpan x with
  | false=>simp only[e]at h;simp at h
  | true =>
   simp only[isSpan,isDay,isIn,Bool.and_eq_true,decide_eq_true_eq]at e;omega
 ·obtain⟨j,d⟩:=List.mem_iff_getElem?.1 q;obtain⟨a,b,c⟩:=paperF_zero (g j p d);simp only[isSpan,isDay,isIn,Bool.and_eq_true,decide_eq_true_eq]at a b;exact⟨by omega,by omega,items c⟩
 ·obtain⟨j,d⟩:=List.mem_iff_getElem?.1 hr;obtain⟨a,b,c⟩:=requestF_zero (i j r d);simp only[isDay,isIn,Bool.and_eq_true,decide_eq_true_eq]at a b;exact⟨by omega,by omega,items c⟩
theorem fits_all(h:checkF u=0):FitsAll u:=by
 have s:=sound h;have n:=s.num;unfold FitsAll Fits;refine⟨by omega,fun x f=>by have:=s.ex x f;omega,fun p e=>?_,fun r hr=>?_⟩
 ·obtain⟨a,b,_,c⟩:=s.pa p e;exact⟨by omega,by omega,by omega,fun n d=>by have:=c n d;omega⟩
 ·obtain⟨a,b,_,c⟩:=s.re r hr;exact⟨by omega,by omega,fun n d=>by have:=c n d;omega⟩
end Go.TM.Tp
end
section
namespace Go.Y
set_option maxHeartbeats 0
set_option linter.unusedVariables false
variable {X:XP} {h:LH} {A:Value->LH->Prop}
variable {a b c d e f g i j k l m:Int}{n o p q r s t u v w x y z:Nat}{B C D E F G H I J K L M:Option Addr}
theorem w15:FX X 7 #[.agg #[a,b,c,d,.slice B n o,.slice C p q,.slice D r s]] h A (.blk (bif decide ((↑n:Int)>20) then .rn [true] else bif decide ((↑p:Int)>20) then .rn [true] else bif decide ((↑r:Int)>20) then .rn [true] else .ag [false]) (fun e=>.popB e fun g e=>.unNil e (.loop [g,.int .i64 0] (fun e=>.popB e fun g e=>.pi e fun f e=>.unNil e (bif decide (f<(↑p:Int)) then .need (0<=f/\f<(↑p:Int)) (.someA C fun i=>.loadS ((i.add (f.toNat*4)).add 3) fun t j m=>bif decide ((↑j:Int)>20) then .rn [true,f] else .ag [g,.int .i64 (wrap .i64 (f+1))]) else .bk [g,f])) (fun e=>.popB e fun g e=>.pi e fun f e=>.unNil e (.loop [g,.int .i64 0] (fun e=>.popB e fun g e=>.pi e fun f e=>.unNil e (bif decide (f<(↑r:Int)) then .need (0<=f/\f<(↑r:Int)) (.someA D fun i=>.loadS ((i.add (f.toNat*3)).add 2) fun t j m=>bif decide ((↑j:Int)>20) then .rn [true,f] else .ag [g,.int .i64 (wrap .i64 (f+1))]) else .bk [g,f])) (fun e=>.popB e fun g e=>.pi e fun f e=>.unNil e (.rt (.bool false))) (fun e=>.popB e fun g e=>.pi e fun f e=>.unNil e (.rt (.bool g))) fun k l=>.fail)) (fun e=>.popB e fun g e=>.pi e fun f e=>.unNil e (.rt (.bool g))) fun k l=>.fail)) (fun e=>.popB e fun g e=>.unNil e (.rt (.bool g))) fun k l=>.fail):=fk [1] [⟨0,[(2,.bool),(3,.int .i64)],[1],[],[],[]⟩,⟨2,[(2,.bool),(4,.int .i64)],[1],[],[],[]⟩] [⟨3,[(2,.bool)],[1],[],[],[]⟩] Tryz.f7
theorem w25:FX X 31 #[.slice B n o,.slice C p q] h A (bif (↑n:Int) != (↑p:Int) then .rt (.bool false) else .loop [false,.int .i64 0] (fun a=>.popB a fun c a=>.pi a fun b a=>.unNil a (bif decide (b<(↑n:Int)) then .need (0<=b/\b<(↑n:Int)) (.someA B fun d=>.li (d.add (b.toNat*1)) fun e=>.need (0<=b/\b<(↑p:Int)) (.someA C fun d=>.li (d.add (b.toNat*1)) fun f=>bif e != f then .rn [false,b] else .ag [c,.int .i64 (wrap .i64 (b+1))])) else .bk [c,b])) (fun a=>.popB a fun c a=>.pi a fun b a=>.unNil a (.rt (.bool true))) (fun a=>.popB a fun c a=>.pi a fun b a=>.unNil a (.rt (.bool c))) fun g i=>.fail):=fk [] [⟨0,[(4,.bool),(5,.int .i64)],[],[],[],[]⟩] [] Tryz.f31
theorem w30:FX X 32 #[.slice B n o,.slice C p q] h A (bif (↑n:Int) != (↑p:Int) then .rt (.bool false) else .loop [false,.int .i64 0] (fun b=>.popB b fun e b=>.pi b fun a b=>.unNil b (bif decide (a<(↑n:Int)) then .need (0<=a/\a<(↑n:Int)) (.someA B fun c=>.li ((c.add (a.toNat*4)).add 0) fun f=>.li ((c.add (a.toNat*4)).add 1) fun g=>.li ((c.add (a.toNat*4)).add 2) fun i=>.li ((c.add (a.toNat*4)).add 3) fun j=>.need (0<=a/\a<(↑p:Int)) (.someA C fun d=>.li ((d.add (a.toNat*4)).add 0) fun k=>.li ((d.add (a.toNat*4)).add 1) fun l=>.li ((d.add (a.toNat*4)).add 2) fun m=>.li ((d.add (a.toNat*4)).add 3) fun r=>.sem false (Sem.bind (eqGuard BinOp.neq 75 (Operand.tmp 20) (Operand.tmp 24) (.agg #[f,g,i,j]) (.agg #[k,l,m,r])) fun w=>binOp BinOp.neq 75 (.agg #[f,g,i,j]) (.agg #[k,l,m,r])) fun v=>.unB v fun u=>.need (0<=a/\a<(↑p:Int)) (.someA C fun s=>.ne (.pointer (some (s.add (a.toNat*4)))) (.pointer (some (d.add (a.toNat*4)))) (.nds [a,.S C p q] (.need (0<=a/\a<(↑n:Int)) (.someA B fun t=>.ne (.pointer (some (t.add (a.toNat*4)))) (.pointer (some (c.add (a.toNat*4)))) (.nds [a,.S B n o] (bif u then .rn [false,a] else .ag [e,.int .i64 (wrap .i64 (a+1))])))))))) else .bk [e,a])) (fun b=>.popB b fun e b=>.pi b fun a b=>.unNil b (.rt (.bool true))) (fun b=>.popB b fun e b=>.pi b fun a b=>.unNil b (.rt (.bool e))) fun x y=>.fail):=fk [] [⟨0,[(4,.bool),(5,.int .i64)],[],[],[],[]⟩] [] Tryz.f32
theorem w42:FX X 29 #[a,b] h A (.rt (.agg #[a,b])):=fk [4] [] [] Tryz.f29
theorem w52  : FX X 21 #[] h A (.cl 29 #[.int .i64 21,.int .i64 23] fun a=>.unAgg a fun c=>.pi c fun d b=>.pi b fun x b=>.unNil b (.sem false (Instr.buildSlice 22 1 #[(0,.agg #[d,x])]) fun a=>.unS a fun e d o=>.cl 29 #[.int .i64 12,.int .i64 14] fun a=>.unAgg a fun c=>.pi c fun H b=>.pi b fun I b=>.unNil b (.sem false (Instr.buildSlice 47 2 #[(0,.int .i64 0),(1,.int .i64 1)]) fun a=>.unS a fun f J p=>.cl 29 #[.int .i64 19,.int .i64 19] fun a=>.unAgg a fun c=>.pi c fun K b=>.pi b fun L b=>.unNil b (.sem false (Instr.buildSlice 47 1 #[(0,.int .i64 0)]) fun a=>.unS a fun g M q=>.cl 29 #[.int .i64 17,.int .i64 26] fun a=>.unAgg a fun c=>.pi c fun N b=>.pi b fun O b=>.unNil b (.sem false (Instr.buildSlice 47 1 #[(0,.int .i64 2)]) fun a=>.unS a fun i y r=>.cl 29 #[.int .i64 18,.int .i64 18] fun a=>.unAgg a fun c=>.pi c fun z b=>.pi b fun B b=>.unNil b (.sem false (Instr.buildSlice 47 2 #[(0,.int .i64 0),(1,.int .i64 1)]) fun a=>.unS a fun j C s=>.sem false (Instr.buildSlice 23 4 #[(0,.agg #[H,I,.int .i64 0,.slice f J p]),(1,.agg #[K,L,.int .i64 0,.slice g M q]),(2,.agg #[N,O,.int .i64 0,.slice i y r]),(3,.agg #[z,B,.int .i64 1,.slice j C s])]) fun a=>.unS a fun k D t=>.sem false (Instr.buildSlice 47 3 #[(0,.int .i64 0),(1,.int .i64 1),(2,.int .i64 2)]) fun a=>.unS a fun l E u=>.sem false (Instr.buildSlice 47 2 #[(0,.int .i64 0),(1,.int .i64 2)]) fun a=>.unS a fun m F v=>.sem false (Instr.buildSlice 24 2 #[(0,.agg #[.int .i64 20,.int .i64 0,.slice l E u]),(1,.agg #[.int .i64 25,.int .i64 0,.slice m F v])]) fun a=>.unS a fun n G w=>.rt (.agg #[.int .i64 3,.int .i64 2,.int .i64 10,.int .i64 5,.slice e d o,.slice k D t,.slice n G w]))))))):=fk [0] [] [] Tryz.f21
end Go.Y
end
section
namespace Go.TM.Tp
open Go.Lib (decDigits)
variable {x:Span}{u:UseFile}{i:Nat}
theorem Zn{n:Int}(h:Fits n):(di n).length<=9:=by
 have:=h.lt;exact dig_len (k:=8) this
theorem Us(c:Fits x.first)(d:Fits x.last):(da x).length<=19:=by
 have a:=Zn c;have b:=Zn d;unfold di at a b;rw[Ur];split
 ·omega
 ·rw[List.length_append,List.length_cons];omega
theorem D7{l:List Int}(h:∀ n∈l,Fits n):(li l).length<=l.length*10:=by
 unfold li listS;have:=Dk (B:=9) (c:=44) (l:=(l.map Int.toNat).map decDigits) fun f a=>by
  rw[List.map_map]at a;obtain⟨n,b,rfl⟩:=List.mem_map.1 a;exact Zn (h n b)
 rw[List.length_map,List.length_map]at this;exact this
theorem H6(bs:List Bs)(b:Bs):text (bs++[b])=text bs++(b++[10]):=by simp[text]
theorem text_len{B:Nat}:∀ {bs:List Bs},(∀ b∈bs,b.length<=B)->(text bs).length<=bs.length*(B+1)
 | [],_=>by simp[text]
 | b::bs,h=>by
  have c:=text_len (B:=B) (bs:=bs) fun x a=>h x (List.mem_cons_of_mem _ a);have d:=h b (by simp);have:text (b::bs)=b++10::text bs:=by simp[text]
  rw[this,List.length_append,List.length_cons,List.length_cons,Nat.succ_mul];omega
def rU(u:UseFile):Bs:=rowS wUse [di u.items,di u.lands,di u.from_,di u.idle]
def rX(x:Span):Bs:=rowS wExcuse [da x]
def rP(p:Paper):Bs:=rowS wPaper [da p.days,di p.land,li p.items]
def rR(r:Request):Bs:=rowS wRequest [di r.day,di r.land,li r.items]
theorem G0(u:UseFile):rowsU u=rU u::(u.excuses.map rX)++(u.papers.map rP)++(u.requests.map rR):=rfl
theorem G1{w:Bs}{a:List Bs}(hw:w.length<=7)(b:∀ f∈a,f.length<=60)(c:a.length<=4):(rowS w a).length<=252:=by
 have:=lineTo_len (B:=60) (w:=w) b;have e:rowS w a=lineTo w a:=rfl;rw[e];have:a.length*(60+1)<=4*61:=Nat.mul_le_mul_right _ c;omega
theorem all1{P:Bs->Prop}{a:Bs}(c:P a):∀ f∈[a],P f:=by
 intro f b;rw[List.mem_singleton]at b;rw[b];exact c
theorem all3{P:Bs->Prop}{a b c:Bs}(e:P a)(g:P b)(h:P c):∀ f∈[a,b,c],P f:=by
 intro f d;simp only[List.mem_cons,List.not_mem_nil,or_false]at d;rcases d with rfl|rfl|rfl<;>assumption
theorem all4{P:Bs->Prop}{a b c d:Bs}(g:P a)(h:P b)(i:P c)(j:P d):∀ f∈[a,b,c,d],P f:=by
 intro f e;simp only[List.mem_cons,List.not_mem_nil,or_false]at e;rcases e with rfl|rfl|rfl|rfl<;>assumption
theorem rows_small(h:checkF u=0):∀ b∈rowsU u,b.length<=252:=by
 obtain⟨⟨f1,f2,f3,f4⟩,e,j,fr⟩:=fits_all h;have s:=sound h;intro b hb;rw[G0,List.mem_append,List.mem_append,List.mem_cons]at hb;rcases hb with((rfl|hb)|hb)|hb
 ·refine G1 (by decide) (all4 ?_ ?_ ?_ ?_) (by simp)<;>refine Nat.le_trans (Zn ?_) (by omega)<;>assumption
 ·obtain⟨x,g,rfl⟩:=List.mem_map.1 hb;have:=Us (e x g).1 (e x g).2;exact G1 (by decide) (all1 (by omega)) (by simp)
 ·obtain⟨p,f,rfl⟩:=List.mem_map.1 hb;obtain⟨a,c,d,i⟩:=j p f;have k:=Us a c;have l:=Zn d;have m:=D7 i;have n:=(s.pa p f).2.2.1;exact G1 (by decide) (all3 (by omega) (by omega) (by omega)) (by simp)
 ·obtain⟨r,hr,rfl⟩:=List.mem_map.1 hb;obtain⟨a,c,d⟩:=fr r hr;have k:=Zn a;have l:=Zn c;have m:=D7 d;have n:=(s.re r hr).2.2.1;exact G1 (by decide) (all3 (by omega) (by omega) (by omega)) (by simp)
theorem rows_few(h:checkF u=0):(rowsU u).length<=17:=by
 have s:=sound h;have:=s.nx;have:=s.np;have:=s.nr;rw[G0];simp;omega
theorem Ha(h:checkF u=0){bs cs:List Bs}(e:bs++cs=rowsU u):(text bs).length<=4301:=by
 have c:=text_len (B:=252) (bs:=bs) fun b hb=>rows_small h b (by rw[<- e];exact List.mem_append_left _ hb);have a:=rows_few h;rw[<- e,List.length_append]at a;have:bs.length*253<=17*253:=Nat.mul_le_mul_right _ (by omega);omega
theorem H7{α:Type}(l:List α)(i:Nat):l=l.take i++l.drop i:=(List.take_append_drop i l).symm
def textX(u:UseFile)(i:Nat):Bs:=text (rU u::(u.excuses.take i).map rX)
def textP(u:UseFile)(i:Nat):Bs:=text (rU u::u.excuses.map rX++(u.papers.take i).map rP)
def textR(u:UseFile)(i:Nat):Bs:=text (rU u::u.excuses.map rX++u.papers.map rP++(u.requests.take i).map rR)
theorem textX_len(h:checkF u=0)(i:Nat):(textX u i).length<=4301 :=
 Ha h (cs:=(u.excuses.drop i).map rX++(u.papers.map rP++u.requests.map rR)) (by
  rw[G0];conv=>rhs;rw[H7 u.excuses i,List.map_append]
  simp only[List.append_assoc,List.cons_append])
theorem textP_len(h:checkF u=0)(i:Nat):(textP u i).length<=4301 :=
 Ha h (cs:=(u.papers.drop i).map rP++u.requests.map rR) (by
  rw[G0];conv=>rhs;rw[H7 u.papers i,List.map_append]
  simp only[List.append_assoc,List.cons_append])
theorem textR_len(h:checkF u=0)(i:Nat):(textR u i).length<=4301 :=
 Ha h (cs:=(u.requests.drop i).map rR) (by
  rw[G0];conv=>rhs;rw[H7 u.requests i,List.map_append]
  simp only[List.append_assoc,List.cons_append])
theorem textX_snoc(h:u.excuses[i]?=some x):textX u (i+1)=textX u i++lineS wExcuse [da x]:=by
 unfold textX;rw[Zq h,List.map_append,<- List.cons_append];show text (_++[rX x])=_;rw[H6,Hu];rfl
theorem textP_snoc{x:Paper}(h:u.papers[i]?=some x):textP u (i+1)=textP u i++lineS wPaper [da x.days,di x.land,li x.items]:=by
 unfold textP;rw[Zq h,List.map_append,<- List.append_assoc];show text (_++[rP x])=_;rw[H6,Hu];rfl
theorem textR_snoc{x:Request}(h:u.requests[i]?=some x):textR u (i+1)=textR u i++lineS wRequest [di x.day,di x.land,li x.items]:=by
 unfold textR;rw[Zq h,List.map_append,<- List.append_assoc];show text (_++[rR x])=_;rw[H6,Hu];rfl
theorem textX_end(h:u.excuses.length<=i):textX u i=textP u 0:=by
 unfold textX textP;rw[List.take_of_length_le h];simp
theorem textP_end(h:u.papers.length<=i):textP u i=textR u 0:=by
 unfold textP textR;rw[List.take_of_length_le h];simp
theorem textR_end(h:u.requests.length<=i):textR u i=textU u:=by
 unfold textR textU;rw[List.take_of_length_le h,G0]
theorem Ui(h:checkF u=0):(textU u).length<=4301:=by rw[<- textR_end (Nat.le_refl _)];exact textR_len h _
theorem print_ok(h:checkF u=0):printU u=(textU u,0):=by
 have:=Ui h;unfold printU;rw[if_neg (by simp[h]),if_neg (by omega)]
theorem print_bad(h:checkF u≠0):printU u=([],checkF u):=by unfold printU;rw[if_pos h]
def printV(x:Bs×Int):Value:=.tuple #[.string (str x.1),.int .i64 x.2]
end Go.TM.Tp
namespace Go.Y.Txt
open Go.TM.Tp
open Go.Lib (decDigits)
attribute [local irreducible] T.wp CV FWK
variable {h:LH}{X:XP}{Q:Leaf->LH->Prop}{K:Value->T}
theorem Um{r:Nat}{l:List Bs}(hb:l.length<4611686018427387904)(hc:∀ (j:Nat) w,(l.map fun x=>Value.string (str x))[j]?=some w->h.get.cell? (Addr.add ⟨r,0,none⟩ j)=some w):BsS h (some ⟨r,0,none⟩) l.length l.length l:=by
 refine⟨Nat.le_refl _,rfl,hb,fun i x a=>⟨_,rfl,?_⟩⟩;unfold BsE;rw[Ug,Nat.mul_one];exact hc i _ (by rw[List.getElem?_map,a];rfl)
theorem t_str1(a:Bs)(c:∀ p h',h.le h'->BsS h' p 1 1 [a]->(K (.slice p 1 1)).wp X Tryz.prog Q h'):(T.sem false (Instr.buildSlice 81 1 #[(0,.string (str a))]) K).wp X Tryz.prog Q h:=by
 refine Zo [.string (str a)] undSs infS (by decide) (by decide) (by kernel_rfl) ?_;intro r h' b _ hr;exact c _ h' b (Um (l:=[a]) (by simp) hr)
theorem t_str3(a b c:Bs)(e:∀ p h',h.le h'->BsS h' p 3 3 [a,b,c]->(K (.slice p 3 3)).wp X Tryz.prog Q h'):(T.sem false (Instr.buildSlice 81 3 #[(0,.string (str a)),(1,.string (str b)),(2,.string (str c))]) K).wp X Tryz.prog Q h:=by
 refine Zo [.string (str a),.string (str b),.string (str c)] undSs infS (by decide) (by decide) (by kernel_rfl) ?_;intro r h' d _ hr;exact e _ h' d (Um (l:=[a,b,c]) (by simp) hr)
theorem t_str4(a b c d:Bs)(f:∀ p h',h.le h'->BsS h' p 4 4 [a,b,c,d]->(K (.slice p 4 4)).wp X Tryz.prog Q h'):(T.sem false (Instr.buildSlice 81 4 #[(0,.string (str a)),(1,.string (str b)),(2,.string (str c)),(3,.string (str d))]) K).wp X Tryz.prog Q h:=by
 refine Zo [.string (str a),.string (str b),.string (str c),.string (str d)] undSs infS (by decide) (by decide) (by kernel_rfl) ?_;intro r h' e _ hr;exact f _ h' e (Um (l:=[a,b,c,d]) (by simp) hr)
end Go.Y.Txt
end
section
namespace Go.Y
attribute [local irreducible] T.wp CV FWK
def Sent(u:UseFile)(land day:Int)(i:Nat)(v:Value)(hv:Cells):Prop :=
 if enoughB u land day (subsetL u.papers.length i) (leftAll u land day) then ∃ a n c,v=.slice (some a) n c/\Sl IntE 1 hv (some a) n (subsetL u.papers.length i)/\n<=c else v=.slice none 0 0
variable {n i j:Nat}
theorem subset_in:∀ v∈subsetL n i,0<=v/\v<(n:Int):=by
 intro v hv;unfold subsetL at hv;obtain⟨j,a,rfl⟩:=List.mem_map.1 hv;have:=List.mem_range.1 (List.mem_filter.1 a).1;omega
theorem subset_len:(subsetL n i).length<=n:=by
 unfold subsetL;rw[List.length_map];exact Nat.le_trans (List.length_filter_le _ _) (by simp)
theorem bit_test(f:i<2^32):(wrap .i64 (((BitVec.ofInt 64 (Int.fdiv (i:Int) (2^min (j:Int).toNat 64)) &&& BitVec.ofInt 64 1).toNat:Nat):Int)==1)=i.testBit j:=by
 have g:∃ q:Nat,Int.fdiv (i:Int) (2^min (j:Int).toNat 64)=(q:Int)/\q<=i/\q%2=(i / 2^j)%2:=by
  by_cases k:j<=64
  ·have hm:min (j:Int).toNat 64=j:=by simp;omega
   refine⟨i / 2^j,?_,Nat.div_le_self _ _,rfl⟩;rw[hm];have:(2^j:Int)=((2^j:Nat):Int):=by simp
   rw[this,<- Int.ofNat_fdiv]
  ·have hm:min (j:Int).toNat 64=64:=by simp;omega
   refine⟨0,?_,Nat.zero_le _,?_⟩
   ·rw[hm];have:(2^64:Int)=((2^64:Nat):Int):=by simp
    rw[this,<- Int.ofNat_fdiv];have:i / 2^64=0:=Nat.div_eq_of_lt (by omega);rw[this]
   ·have:i / 2^j=0:=Nat.div_eq_of_lt (Nat.lt_of_lt_of_le f (Nat.pow_le_pow_right (by omega) (by omega)));rw[this]
 obtain⟨q,c,h,d⟩:=g;rw[c];have a:(BitVec.ofInt 64 (q:Int)).toNat=q:=by rw[BitVec.toNat_ofInt];omega
 have b:(BitVec.ofInt 64 1).toNat=1:=rfl;rw[BitVec.toNat_and,a,b,Nat.and_one_is_mod,Qh (by omega) (by omega),Nat.testBit_eq_decide_div_mod_eq,<- d];by_cases e:q%2=1
 ·rw[e];rfl
 ·have:q%2=0:=by omega
  rw[this];rfl
theorem subset_take(a:j<n):((List.range n).take (j+1)).filter (fun j=>i.testBit j)=((List.range n).take j).filter (fun j=>i.testBit j)++(if i.testBit j then [j] else []):=by
 rw[List.take_succ_eq_append_getElem (by simpa using a),List.filter_append];congr 1;simp[List.filter_cons]
theorem c74{hc:Cells}{q:Nat}{U V W X Z z5:Addr}{f:FileC}{u:UseFile}{land day:Int}(hp:Parts hc)(hu:FileR hc f u)(t:FileAt hc U f u)(P:u.papers.length<=8)(hi:i<2^32)(h1:hc.cell? V=some (.int .i64 (i:Int)))(h2:hc.cell? W=some (.int .i64 land))(h3:hc.cell? X=some (.int .i64 day))
 {ap:Option Addr}{L ac:Nat}(h4:hc.cell? Z=some (.slice ap L ac))(F:Sl IntE 1 hc ap L (leftAll u land day))(h5:hc.cell? z5=some (.chan (some q))) :
  FWK XW Tryz.prog .deferred 79 #[.pointer (some U),.pointer (some V),.pointer (some W),.pointer (some X),.pointer (some Z),.pointer (some z5)] ⟨hc,[],[],[(q,Sent u land day i)]⟩ fun _ _=>False:=by
 refine w74 _ _ _ _ _ _ XW_ok ?_;unfold n74;have a0:=hu.papers.1;refine t_build0 K4 inf3 fun b0 y=>?_;have B:LH.le ⟨hc,[],[],[(q,Sent u land day i)]⟩ _:=Qr (x:=(true,.cells #[] 3 (0,0))) y;refine gZ ?_;have g5:=Qd B.1 t.f5;refine gL1 g5 ?_;refine Q1 (fun R D h'=>LH.le ⟨hc,[],[],[(q,Sent u land day i)]⟩ h'/\∃ (j:Nat) (a:Addr) (n c:Nat),D=[.slice (some a) n c,.int .i64 j]/\j<=f.n5/\R=f.n5-j/\Growing IntEnc 3 1 hc h'.get (some a) n c (((List.range u.papers.length).take j).filter (fun j=>i.testBit j) |>.map fun j:Nat=>(j:Int)))
  ⟨B,0,_,0,0,rfl,Nat.zero_le _,rfl,⟨[],⟨rfl,.inr ⟨b0,#[],rfl,Qk _ _ _,rfl,Nat.le_refl _,fun j v hv=>by simp at hv⟩⟩,.nil⟩,fun a ha=>by cases ha;exact y⟩ ?_
 rintro Y R D A N ⟨hle,j,a,n,c,rfl,O,rfl,g⟩;refine yJ (fun e1=>?_) (fun e1=>?_)
 ·have k1:=Qd hle.1 h1;refine gL0 k1 ?_;refine gZ ?_;rw[bit_test hi];have m:=subset_take (n:=u.papers.length) (i:=i) (j:=j) (by omega);refine Qp (fun b=>?_) (fun b=>?_)
  ·rw[if_pos b]at m;refine Zi K4 inf3 (by decide) (by decide) (cells:=#[.int .i64 (j:Int)]) (by kernel_rfl) fun r hr=>?_;have l:A.le _:=Qr (x:=(true,.cells #[.int .i64 (j:Int)] 3 (0,0))) hr;have H:=g.count IntEnc.len (by omega);have hlen:(((List.range u.papers.length).take j).filter (fun j=>i.testBit j)).length<=8:=Nat.le_trans (List.length_filter_le _ _) (by rw[List.length_take,List.length_range];omega);rw[List.length_map]at H;refine gZ ?_;refine D1 (h₀:=⟨hc,[],[],[(q,Sent u land day i)]⟩) (x:=(j:Int)) (ws:=[.int .i64 (j:Int)]) rfl rfl K4 K4 inf3 rfl (by omega) (by omega) (g.le l.1) (LH.le_trans hle l) rfl rfl ?_ ?_ ?_
   ·intro j w O;rw[Ql,Nat.zero_add];exact Qu (by simpa using O)
   ·intro w hw;simp at hw;subst hw;rfl
   ·intro p' c' d k _ E;refine gZ ?_;obtain⟨a',rfl⟩ : ∃ a',p'=some a':=by
     obtain⟨D,⟨_,h6⟩,_⟩:=E.row;rcases h6 with⟨_,M,_⟩|⟨r,cs,M,_⟩
     ·omega
     ·exact⟨_,M⟩
    refine Qi (N (f.n5-(j+1)) _ _ (by omega) ⟨k,j+1,a',n+1,c',?_,by omega,rfl,by rw[m,List.map_append];exact E⟩);rw[Qh (by omega) (by omega)];rfl
  ·rw[if_neg (by rw[b];simp),List.append_nil]at m;refine Qi (N (f.n5-(j+1)) _ _ (by omega) ⟨hle,j+1,a,n,c,?_,by omega,rfl,by rw[m];exact g⟩);rw[Qh (by omega) (by omega)];rfl
 ·refine gZ ?_;have p:(((List.range u.papers.length).take j).filter (fun j=>i.testBit j) |>.map fun j:Nat=>(j:Int))=subsetL u.papers.length i:=by
   rw[List.take_of_length_le (by simp;omega)];rfl
  rw[p]at g;obtain⟨g0,g1,E,g3,g4,g5,g6⟩:=t.le hle.1;have k2:=Qd hle.1 h2;have k3:=Qd hle.1 h3;have k4:=Qd hle.1 h4;have C:=Qd hle.1 h5;refine gZ ?_;have Q:=subset_len (n:=u.papers.length) (i:=i);have G:(leftAll u land day).length=u.items.toNat:=by unfold leftAll;rw[List.length_map,List.length_range]
  refine t_gr (c71 (hp.le hle.1) (hu.le hle.1) land day (g.sl IntEnc.len (by omega) IntEnc.e (by omega)) subset_in (by omega) (F.le IntE.grow hle.1) G) ?_;rintro _ d l rfl;have C:=Qd l.1 C;refine gZ ?_;have k:=LH.le_trans hle l;refine Qp (fun b=>?_) (fun b=>?_)
  ·refine Du C ?_;refine U2 ?_;refine commW_send (z:=.tuple #[]) (φ:=Sent u land day i) (s:=[]) (hv:=fun _=>none) (hr:=d.get) k.2.2.2 ?_ (fun r=>.inl rfl) (fun r x I=>by cases I) ?_ (fun _=>rfl) (fun h=>absurd rfl h)
   ·funext r;rfl
   ·have b':enoughB u land day (subsetL u.papers.length i) (leftAll u land day)=false:=by simpa using b
    unfold Sent;rw[if_neg (by rw[b'];simp)]
  ·refine Du C ?_;refine U2 ?_;have g7:=g.le l.1;obtain⟨D,⟨o1,o2⟩,rows⟩:=g7.row;rcases o2 with⟨J,_⟩|⟨r,cs,J,K,o5,S,o7⟩
   ·cases J
   ·cases J;refine commW_send (z:=.tuple #[]) (φ:=Sent u land day i) (s:=[]) (hv:=fun b=>if b=r then d.get b else none) (hr:=fun b=>if b=r then none else d.get b) k.2.2.2 ?_ (fun b=>?_) (fun b x I=>?_) ?_ (fun _=>rfl) (fun h=>absurd rfl h)
    ·funext b;unfold Cells.add;by_cases e:b=r
     ·subst e;simp[K]
     ·simp[e]
    ·by_cases e:b=r
     ·right;simp[e]
     ·left;simp[e]
    ·have o:(if b=r then d.get b else none)=some x:=I;split at o
     ·rename_i e;subst e;rw[K]at o;cases o;rfl
     ·cases o
    ·have b':enoughB u land day (subsetL u.papers.length i) (leftAll u land day)=true:=by simpa using b
     unfold Sent;rw[if_pos b'];refine⟨_,_,_,rfl,?_,S⟩;refine rows.sl IntEnc.len (by omega) IntEnc.e (el:=3) ⟨o1,.inr ⟨r,cs,rfl,?_,o5,S,o7⟩⟩ (by omega);show (if r=r then d.get r else none)=_;rw[if_pos rfl];exact K
end Go.Y
end
section
namespace Go.TM
variable {P:Program}
variable {h:LH}
theorem Uk{X:XP}{Q:Leaf->LH->Prop}{e:TypeId}{v₀ v:Value}{k:Nat->T}(d:isOne v=true)(f:∀ r,h.get r=none->(k r).wp X P Q { h with get:=h.get.upd r (true,.cells #[v] e (0,0)) }) :
  (T.new e #[v₀] fun r=>T.store (Addr.add ⟨r,0,none⟩ 0) v (k r)).wp X P Q h:=by
 refine Z1 fun r hr=>?_;have a:(h.get.upd r (true,.cells #[v₀] e (0,0))) r=some (true,.cells #[v₀] e (0,0)):=Qk _ _ _;refine Hp d ⟨_,a⟩ (v₀:=v₀) (by show Cells.cell? _ _=_;exact Qu rfl) (Go.Y.frozen_plain (i:=0) a) ?_;have c:(h.get.upd r (true,.cells #[v₀] e (0,0))).setCell (Addr.add ⟨r,0,none⟩ 0) v=h.get.upd r (true,.cells #[v] e (0,0)):=by
  show Cells.setCell _ ⟨r,0,none⟩ v=_;rw[Go.Y.setCell_upd a];funext b;unfold Cells.upd;by_cases e:b=r<;>simp[e]
 simp only[c];exact f r hr
theorem cell_freeze(F:Nat->Bool)(h:Cells)(a:Addr):(freezeC F h).cell? a=h.cell? a:=by
 unfold Cells.cell? freezeC;cases h a.block with
 | none=>rfl
 | some x=>obtain⟨m,o⟩:=x;cases o<;>rfl
theorem rd_freeze(F:Nat->Bool)(h:Cells):Rd h (freezeC F h):=fun a v hc=>by rw[cell_freeze];exact hc
theorem rd_drop{h:Cells}{c s:Nat}(b:h c=some (true,.chan 0 #[] false s s false)):Rd h (dropC h c):=by
 intro a v hc;unfold Cells.cell? dropC at *;by_cases e:a.block=c
 ·rw[e,b]at hc;cases hc
 ·rw[if_neg e];exact hc
def Hand(c0:Nat)(h:LH):Prop:=(h.chans=[]/\∃ s,h.get c0=some (true,.chan 0 #[] false s s false))\/h.chans=[c0]
theorem spawnW_all{f:FuncId}{cap:Array Value}{Q:LH->Prop}(b:Nat){φ:Value->Cells->Prop}(e:[]∉h.pend)(i:Hand b h)(c:∀ hc,Rd h.get hc->FWK XW P .deferred f cap ⟨hc,[],[],[(b,φ)]⟩ fun _ _=>False)
 (n:∀ h',Rd h.get h'.get->h'.chans=[b]->h'.todo=h.todo->h'.pend=h.pend++[[(b,φ)]]->Q h'):SpawnW XT P (.func (.func f) #[] cap) #[] h Q:=by
 have key:∀ a:LH,Rd h.get a.get->a.chans=[b]->a.todo=h.todo->a.pend=h.pend->SpawnW XT P (.func (.func f) #[] cap) #[] a Q:=by
  intro a m j t1 l;refine spawnW (fun _=>true) (freezeC (fun _=>true) a.get) [(b,φ)] (by simp) (hargs:=cap) (by simp) ?_ (by rw[l];exact e) ?_ (c _ (m.trans (rd_freeze _ _))) ?_
  ·intro r x d;refine⟨?_,d⟩;unfold freezeC at d;cases g:a.get r with
   | none=>rw[g]at d;cases d
   | some y=>rw[g]at d;simp at d;rw[<- d]
  ·intro y g;simp at g;subst g;rw[j];simp
  ·exact n _ (m.trans (rd_freeze _ _)) j t1 (by show a.pend++_=_;rw[l])
 rcases i with⟨a,s,k⟩|a
 ·refine SpawnW.opened e b s k (key _ (rd_drop k) ?_ rfl rfl);show b::h.chans=_;rw[a]
 ·exact key h (Rd.refl _) a rfl rfl
theorem commW_gather{last:Bool}{shape:CommShape}{d:Nat}{z:Value}{φ:Nat->Value->Cells->Prop}{rem:List Nat}{Q:Value->LH->Prop}(D:h.pend=rem.map fun i=>[(d,φ i)])(hc:h.chans=[d])(C:rem≠[])
 (E:∀ i rest v a,i∈rem->(∀ j,j∈rem->j=i\/j∈rest)->(∀ j,j∈rest->j∈rem)->rest.length+1=rem.length->a.todo=h.todo->a.pend=rest.map (fun i=>[(d,φ i)])->((rest≠[]/\a.chans=[d])\/(rest=[]/\a.chans=[]/\∃ s,a.get d=some (true,.chan 0 #[] false s s false))) ->
   (∃ hv,φ i v hv/\hv.le a.get)->h.get.le a.get->Q (commResult #[rcase d z] shape 0 v true) a):CommW XT P last #[rcase d z] shape h Q:=by
 refine CommW.closed (commW_recv ?_ (by rw[D];simpa using C) ?_ ?_)
 ·intro k I t;cases k with
  | zero=>simp at t;subst t;exact⟨d,z,rfl,by rw[hc];simp⟩
  | succ k=>simp at t
 ·intro s l;rw[D]at l;obtain⟨i,F,rfl⟩:=List.mem_map.1 l;exact⟨d,φ i,[],0,z,rfl,rfl⟩
 ·intro pre ψ s post k c v hv K g e H G m;rw[D]at g;obtain⟨p,J,rfl,w,y⟩:=List.map_eq_append_iff.1 g;obtain⟨i,q,rfl,F,A⟩:=List.map_eq_cons_iff.1 y;cases F;have u:k=0:=by
   cases k with
   | zero=>rfl
   | succ k=>simp at e
  subst u;have n:h.get.le (h.get.add hv):=Zm _ _;have o:hv.le (h.get.add hv):=fun r x hr=>Q5 H hr;have b:pre++cons' [] post=(p++q).map fun i=>[(d,φ i)]:=by
   show pre++post=_;rw[<- w,<- A,List.map_append]
  by_cases B:p++q=[]
  ·right;refine⟨d,by show d∈h.chans;rw[hc];simp,by show pre++cons' [] post=[];rw[b,B];rfl,fun s l=>?_⟩;refine E i (p++q) v _ (by simp) (fun j f=>?_) (fun j f=>?_) (by simp;omega) rfl b (.inr ⟨B,?_,s,Qk _ _ _⟩) ⟨hv,m,?_⟩ ?_
   ·simp at f ⊢;grind
   ·simp at f ⊢;grind
   ·show h.chans.filter _=[];rw[hc];simp
   ·exact Cells.le_trans o (Z5 _ l)
   ·exact Cells.le_trans n (Z5 _ l)
  ·left;refine E i (p++q) v _ (by simp) (fun j f=>?_) (fun j f=>?_) (by simp;omega) rfl b (.inl ⟨B,hc⟩) ⟨hv,m,o⟩ n
   ·simp at f ⊢;grind
   ·simp at f ⊢;grind
end Go.TM
namespace Go.Y
attribute [local irreducible] T.wp CV FWK
variable {h h':Cells}{a b:List Int}{u:UseFile}{land day:Int}{rem rest:List Nat}{p:Option Addr}{n i:Nat}
theorem Parts.rd(b:Rd h h')(p:Parts h):Parts h':=fun j a=>b _ _ (p j a)
/-! ### fewerF is c order -/
theorem cmpI_neg(x y:Int):cmpI y x = - cmpI x y:=by unfold cmpI;repeat' split<;>omega
theorem cmpL_neg:∀ a b:List Int,cmpL b a = - cmpL a b:=by
 intro a
 induction a with
 | nil=>intro b;cases b<;>rfl
 | cons x a c =>
  intro b;cases b with
  | nil=>rfl
  | cons y b =>
   simp only[cmpL];rw[cmpI_neg x y,c b];by_cases e:cmpI x y=0
   ·simp[e]
   ·rw[if_pos (by omega),if_pos e]
theorem cmpL_trans:∀ a b c:List Int,cmpL a b<=0->cmpL b c<=0->cmpL a c<=0:=by
 intro a
 induction a with
 | nil=>intro b c _ _;cases c<;>simp[cmpL]
 | cons x a j =>
  intro b c e d;cases b with
  | nil=>simp[cmpL]at e
  | cons y b =>
   cases c with
   | nil=>simp[cmpL]at d
   | cons z c =>
    simp only[cmpL]at e d ⊢;have:=j b c;unfold cmpI at e d ⊢;by_cases h:x<y
    ·by_cases f:y<z
     ·rw[if_pos (by rw[if_pos (show x<z by omega)];omega),if_pos (show x<z by omega)];omega
     ·by_cases g:y=z
      ·subst g;simp[h]
      ·have:y>z:=by omega
       simp[f,this]at d
    ·by_cases i:x=y
     ·subst i;simp at e;by_cases f:x<z
      ·simp[f]
      ·by_cases g:x=z
       ·subst g;simp at d ⊢;exact this e d
       ·have:x>z:=by omega
        simp[f,this]at d
     ·have:x>y:=by omega
      simp[h,this]at e
theorem fewer_neg(a b:List Int):fewerF b a = - fewerF a b:=by
 unfold fewerF;by_cases e:a.length=b.length
 ·rw[if_neg (by omega),if_neg (by omega),cmpL_neg a b]
 ·rw[if_pos (by omega),if_pos (by omega)];omega
theorem fewer_trans{c:List Int}(e:fewerF a b<=0)(d:fewerF b c<=0):fewerF a c<=0:=by
 unfold fewerF at *;by_cases g:a.length=b.length
 ·rw[if_neg (by omega)]at e;by_cases f:b.length=c.length
  ·rw[if_neg (by omega)]at d;rw[if_neg (by omega)];exact cmpL_trans a b c e d
  ·rw[if_pos (by omega)]at d;rw[if_pos (by omega)];omega
 ·rw[if_pos (by omega)]at e;by_cases f:b.length=c.length
  ·rw[if_pos (by omega)];omega
  ·rw[if_pos (by omega)]at d;rw[if_pos (by omega)];omega
theorem fewer_self(a:List Int):fewerF a a<=0:=by
 have:=fewer_neg a a;omega
def okF(u:UseFile)(land day:Int)(i:Nat):Bool:=enoughB u land day (subsetL u.papers.length i) (leftAll u land day)
def BestR(h:Cells)(u:UseFile)(land day:Int)(rem:List Nat)(p:Option Addr)(n:Nat):Prop :=
 (p=none/\n=0/\∀ j,j<2^u.papers.length->j∉rem->okF u land day j=false) \/
 (∃ i a,p=some a/\i<2^u.papers.length/\okF u land day i=true/\Sl IntE 1 h (some a) n (subsetL u.papers.length i)/\∀ j,j<2^u.papers.length->j∉rem->okF u land day j=true->fewerF (subsetL u.papers.length i) (subsetL u.papers.length j)<=0)
def KeepR(h':Cells)(u:UseFile)(land day:Int)(r:Value):Prop :=
 (openF u [landQ u land,dayQ day]≠0/\r=.tuple #[.slice none 0 0,.int .i64 (openF u [landQ u land,dayQ day])]) \/
 (openF u [landQ u land,dayQ day]=0/\∃ p n c,r=.tuple #[.slice p n c,.int .i64 0]/\BestR h' u land day [] p n/\n<=c)
theorem BestR.skip(b:BestR h u land day rem p n)(hr:∀ j,j∈rem->j=i\/j∈rest)(q:okF u land day i=false)(o:Rd h h'):BestR h' u land day rest p n:=by
 rcases b with⟨c,d,f⟩|⟨k,a,c,d,f,r,s⟩
 ·refine .inl ⟨c,d,fun j g l=>?_⟩;by_cases e:j=i
  ·rw[e];exact q
  ·exact f j g fun hm=>(hr j hm).elim e l
 ·refine .inr ⟨k,a,c,d,f,r.rd IntE.grow o,fun j g l m=>?_⟩;by_cases e:j=i
  ·rw[e]at m;exact absurd m (by rw[q];simp)
  ·exact s j g (fun hm=>(hr j hm).elim e l) m
theorem BestR.take{r:Nat}{a:Addr}(b:BestR h u land day rem p n)(hr:∀ j,j∈rem->j=i\/j∈rest)(o:okF u land day i=true)(c:i<2^u.papers.length)(q:Sl IntE 1 h' (some a) r (subsetL u.papers.length i))
 (hb:p=none\/∀ k,okF u land day k=true->Sl IntE 1 h p n (subsetL u.papers.length k)->fewerF (subsetL u.papers.length i) (subsetL u.papers.length k)<=0):BestR h' u land day rest (some a) r:=by
 rcases b with⟨f,s,g⟩|⟨k,a',f,s,g,t,v⟩
 ·refine .inr ⟨i,a,rfl,c,o,q,fun j l m d=>?_⟩;by_cases e:j=i
  ·rw[e];exact fewer_self _
  ·have:=g j l fun hm=>(hr j hm).elim e m;rw[this]at d;cases d
 ·have hle:=hb.resolve_left (by rw[f];simp) k g (by rw[f];exact t);refine .inr ⟨i,a,rfl,c,o,q,fun j l m d=>?_⟩;by_cases e:j=i
  ·rw[e];exact fewer_self _
  ·exact fewer_trans hle (v j l (fun hm=>(hr j hm).elim e m) d)
theorem BestR.stay(b:BestR h u land day rem p n)(hr:∀ j,j∈rem->j=i\/j∈rest)(r:p≠none)(c:Rd h h')
 (hb:∀ k,Sl IntE 1 h p n (subsetL u.papers.length k)->fewerF (subsetL u.papers.length k) (subsetL u.papers.length i)<=0):BestR h' u land day rest p n:=by
 rcases b with⟨a,d,f⟩|⟨k,a',a,d,f,g,l⟩
 ·exact absurd a r
 ·refine .inr ⟨k,a',a,d,f,g.rd IntE.grow c,fun j m o q=>?_⟩;by_cases e:j=i
  ·rw[e];exact hb k (by rw[a];exact g)
  ·exact l j m (fun hm=>(hr j hm).elim e o) q
theorem Sl.same(f:Sl IntE 1 h p n a)(hb:Sl IntE 1 h p n b):a=b:=by
 refine List.ext_getElem (by rw[<- f.1,<- hb.1]) fun i m o=>?_;obtain⟨x,c,g,q,j⟩:=f.at (i:=i) (by rw[f.1];exact m);obtain⟨y,d,k,l,e⟩:=hb.at (i:=i) (by rw[hb.1];exact o);rw[q]at l;cases l;unfold IntE at j e;rw[j]at e;cases e;rw[List.getElem?_eq_getElem m]at g;rw[List.getElem?_eq_getElem o]at k;exact(Option.some.inj g).trans (Option.some.inj k).symm
theorem sets_wrap(c:n<=8):wrap .i64 (1*2^min (Int.toNat (n:Int)) 64)=((2^n:Nat):Int):=by
 have e:min (Int.toNat (n:Int)) 64=n:=by simp;omega
 have b:(2:Nat)^n<=2^8:=Nat.pow_le_pow_right (by omega) c;have a:(1:Int)*2^n=((2^n:Nat):Int):=by simp
 rw[e,a];generalize 2^n=m at b;rw[Qh (by omega) (by omega)]
theorem c33{h:LH}(y0:h.chans=[])(l1:h.pend=[]){f:FileC}(hp:Parts h.get)(hu:FileR h.get f u)(land day:Int) :
  FW XT Tryz.prog 27 #[fileV f u,land,day] h fun r h'=>Rd h.get h'.get/\h'.chans=[]/\h'.pend=[]/\h'.todo=h.todo/\KeepR h'.get u land day r:=by
 refine w33 Yo ?_;refine Z1 fun r hr=>?_;have y1:h.le _:=Qr (x:=(true,.cells #[.int .i64 u.items,.int .i64 u.lands,.int .i64 u.from_,.int .i64 u.idle,.slice f.p4 f.n4 f.c4,.slice f.p5 f.n5 f.c5,.slice f.p6 f.n6 f.c6] 26 (0,0))) hr;have g:FileAt (h.get.upd r (true,.cells #[.int .i64 u.items,.int .i64 u.lands,.int .i64 u.from_,.int .i64 u.idle,.slice f.p4 f.n4 f.c4,.slice f.p5 f.n5 f.c5,.slice f.p6 f.n6 f.c6] 26 (0,0))) ⟨r,0,none⟩ f u :=
  ⟨Qu rfl,Qu rfl,Qu rfl,Qu rfl,Qu rfl,Qu rfl,Qu rfl⟩
 generalize k3:({ h with get:=h.get.upd r (true,.cells #[.int .i64 u.items,.int .i64 u.lands,.int .i64 u.from_,.int .i64 u.idle,.slice f.p4 f.n4 f.c4,.slice f.p5 f.n5 f.c5,.slice f.p6 f.n6 f.c6] 26 (0,0)) }:LH)=h0 at y1 ⊢;have g:FileAt h0.get ⟨r,0,none⟩ f u:=by rw[<- k3];exact g
 refine Z1 fun r1 s3=>?_;have m2:h0.le _:=Qr (x:=(true,.cells #[.int .i64 land] 3 (0,0))) s3;have H:Cells.cell? (h0.get.upd r1 (true,.cells #[.int .i64 land] 3 (0,0))) ⟨r1,0,none⟩=some (.int .i64 land):=Qu rfl;refine Z1 fun r2 u3=>?_;have o0:=Qr (h:={ h0 with get:=h0.get.upd r1 (true,.cells #[.int .i64 land] 3 (0,0)) }) (x:=(true,.cells #[.int .i64 day] 3 (0,0))) u3;have O:Cells.cell? ((h0.get.upd r1 (true,.cells #[.int .i64 land] 3 (0,0))).upd r2 (true,.cells #[.int .i64 day] 3 (0,0))) ⟨r2,0,none⟩=some (.int .i64 day):=Qu rfl;have H:=Qd o0.1 H;have g:=g.le (LH.le_trans m2 o0).1;obtain⟨g0,g1,g2,g3,g4,g5,g6⟩:=id g;have j2:=LH.le_trans y1 (LH.le_trans m2 o0);refine gZ ?_;refine t_gr (c58 u land) ?_;rintro v0 j4 Q ⟨q0,a0⟩;have H:=Qd Q.1 H;have O:=Qd Q.1 O;have g:=g.le Q.1;obtain⟨g0,g1,g2,g3,g4,g5,g6⟩:=id g;refine gZ ?_;refine t_gr (c54 u day) ?_;rintro v1 k4 M ⟨q1,a1⟩;have H:=Qd M.1 H;have O:=Qd M.1 O;have g:=g.le M.1;obtain⟨g0,g1,g2,g3,g4,g5,g6⟩:=id g;refine gZ ?_;refine Yg q0 (a0.le M) q1 a1 fun r' l4 R hs=>?_;have H:=Qd R.1 H;have O:=Qd R.1 O;have g:=g.le R.1;obtain⟨g0,g1,g2,g3,g4,g5,g6⟩:=id g;refine gZ ?_;have z:=LH.le_trans j2 (LH.le_trans (LH.le_trans Q M) R);refine Ji (Hn (c53 (f:=f) (hp.le z.1) (hu.le z.1) hs)) ?_;rintro v m4 ⟨S,⟨B,rfl⟩|⟨ho,d,m,rfl,hd,hm,k⟩⟩
 ·refine gZ ?_;have F:=LH.le_trans z S;refine Qp (fun _=>?_) (fun e=>absurd (by simpa using e) B);exact Qg ⟨Rd.of_le F.1,by rw[F.2.1,y0],by rw[F.2.2.1,l1],F.2.2.2,.inl ⟨B,rfl⟩⟩
 refine yF ?_;have z0:=(J4 ho).2;have q4:=Qd S.1 H;have s4:=Qd S.1 O;refine gZ ?_;refine t_de (c63 k z0 land day) ?_;rintro _ y mv k5 ⟨p0,n0,c0,rfl,gl⟩;have Z:=Mv.le_of S hm mv;have l2:=LH.le_trans z Z;have h4:=(Z3 (J4 ho).1).1;have o4:(leftAll u land day).length=u.items.toNat:=by unfold leftAll;rw[List.length_map,List.length_range]
 have m0:Sl IntE 1 y.get p0 n0 (leftAll u land day):=gl.sl IntEnc.len (by omega) IntEnc.e (by omega);have j1:=(Gf z0).1;have e4:=hu.le l2.1;have n3:=e4.papers.1;refine gZ ?_;refine Uk rfl fun r3 v3=>?_;have n2:=Qr (x:=(true,.cells #[.slice p0 n0 c0] 60 (0,0))) v3;have z3:Cells.cell? (y.get.upd r3 (true,.cells #[.slice p0 n0 c0] 60 (0,0))) ⟨r3,0,none⟩=some (.slice p0 n0 c0):=Qu rfl;refine t_makeChan und104 inf50 fun q hq=>?_;have s0:=Qr (x:=(true,.chan 0 #[] false 0 0 false)) hq;refine t_unC ?_;refine Uk rfl fun r4 x3=>?_;have U:=Qr (x:=(true,.cells #[.chan (some q)] 154 (0,0))) x3;have G:=LH.le_trans Z (LH.le_trans (LH.le_trans n2 s0) U);have H:=Qd G.1 H;have O:=Qd G.1 O;have z3:=Qd (LH.le_trans s0 U).1 z3;have g:=g.le G.1;obtain⟨g0,g1,g2,g3,g4,g5,g6⟩:=id g;have m0:=m0.le IntE.grow (LH.le_trans (LH.le_trans n2 s0) U).1;have w:=LH.le_trans z G;have z4:Cells.cell? (((y.get.upd r3 (true,.cells #[.slice p0 n0 c0] 60 (0,0))).upd q (true,.chan 0 #[] false 0 0 false)).upd r4 (true,.cells #[.chan (some q)] 154 (0,0))) ⟨r4,0,none⟩=some (.chan (some q)):=Qu rfl;have q3:=U.1 q _ (Qk _ _ _);refine gL1 g5 ?_;have w0:2^f.n5<=2^8:=Nat.pow_le_pow_right (by omega) (by omega);have x0:(2:Nat)^f.n5=2^u.papers.length:=by rw[n3]
 rw[sets_wrap (by omega)];generalize hN:(2:Nat)^f.n5=N at w0 x0 ⊢;refine gZ ?_;refine Q1 (fun mm vs h'=>∃ j:Nat,vs=[.int .i64 j]/\j<=N/\mm=N-j/\Rd (((y.get.upd r3 (true,.cells #[.slice p0 n0 c0] 60 (0,0))).upd q (true,.chan 0 #[] false 0 0 false)).upd r4 (true,.cells #[.chan (some q)] 154 (0,0))) h'.get/\h'.todo=h.todo/\h'.pend=(List.range j).map (fun i=>[(q,Sent u land day i)])/\Hand q h'/\(0<j->h'.chans=[q]))
  ⟨0,rfl,Nat.zero_le _,rfl,Rd.refl _,w.2.2.2,by rw[w.2.2.1,l1];rfl,.inl ⟨by rw[w.2.1,y0],0,q3⟩,fun hh=>absurd hh (by omega)⟩ ?_
 rintro Y mm vs E hY ⟨j,rfl,hj,rfl,q2,u2,u0,b0,y2⟩;refine yJ (fun e1=>?_) (fun e1=>?_)
 ·refine Uk rfl fun r5 y3=>?_;have X:=Qr (x:=(true,.cells #[.int .i64 (j:Int)] 3 (0,0))) y3;have z5:Cells.cell? (E.get.upd r5 (true,.cells #[.int .i64 (j:Int)] 3 (0,0))) ⟨r5,0,none⟩=some (.int .i64 (j:Int)):=Qu rfl;have e0:Hand q { E with get:=E.get.upd r5 (true,.cells #[.int .i64 (j:Int)] 3 (0,0)) }:=by
   rcases b0 with⟨a1,s,a2⟩|a1
   ·exact .inl ⟨a1,s,X.1 _ _ a2⟩
   ·exact .inr a1
  have C:=q2.trans (Rd.of_le X.1);refine t_spawn (spawnW_all q (φ:=Sent u land day j) (by show []∉E.pend;rw[u0];simp) e0 (fun hc p1=>?_) (fun l r8 c8 t8 p8=>?_))
  ·have A:=C.trans p1;exact c74 ((hp.le w.1).rd A) ((hu.le w.1).rd A) (g.rd A) j1 (by omega) (p1 _ _ z5) (A _ _ H) (A _ _ O) (A _ _ z3) (m0.rd IntE.grow A) (A _ _ z4)
  ·refine Qi (hY (N-(j+1)) _ _ (by omega) ⟨j+1,?_,by omega,rfl,C.trans r8,t8.trans u2,?_,.inr c8,fun _=>c8⟩)
   ·rw[Qh (by omega) (by omega)];rfl
   ·rw[p8,u0,List.range_succ,List.map_append];rfl
 ·refine gZ ?_;have l3:j=N:=by omega
  subst l3;have n1:0<j:=by rw[x0];exact Nat.pow_pos (by omega)
  refine Q1 (fun mm vs h'=>∃ (k:Nat) (rem:List Nat) (p:Option Addr) (n c:Nat),vs=[.slice p n c,.int .i64 k]/\rem.length+k=j/\mm=j-k/\(∀ i∈rem,i<j)/\Rd (((y.get.upd r3 (true,.cells #[.slice p0 n0 c0] 60 (0,0))).upd q (true,.chan 0 #[] false 0 0 false)).upd r4 (true,.cells #[.chan (some q)] 154 (0,0))) h'.get/\h'.todo=h.todo/\h'.pend=rem.map (fun i=>[(q,Sent u land day i)]) /\
    ((rem≠[]/\h'.chans=[q])\/(rem=[]/\h'.chans=[]/\∃ s,h'.get q=some (true,.chan 0 #[] false s s false)))/\BestR h'.get u land day rem p n/\n<=c)
   ⟨0,List.range j,none,0,0,rfl,by simp,rfl,fun i hi=>List.mem_range.1 hi,q2,u2,u0,.inl ⟨by simp;omega,y2 n1⟩,.inl ⟨rfl,rfl,fun i hi hn=>absurd (List.mem_range.2 (by omega)) hn⟩,Nat.le_refl _⟩ ?_
  rintro Y2 mm vs l a3 ⟨k,rem,p,n,c,rfl,hk,rfl,K,C,x2,o2,V,t,I⟩;refine yJ (fun e2=>?_) (fun e2=>?_)
  ·have B:rem≠[]:=by rintro rfl;simp at hk;omega
   have j0:l.chans=[q]:=by
    rcases V with⟨_,a⟩|⟨a,_⟩
    ·exact a
    ·exact absurd a B
   refine Du (C _ _ z4) ?_;refine U2 (commW_gather (φ:=Sent u land day) o2 j0 B ?_);intro i rest v W hi h1 h2 hlen ht o3 a4 ⟨hv,o,hle⟩ c1;have j3:commResult #[Conc.rcase q (.slice none 0 0)] (CommShape.recv false) 0 v true=v:=rfl;rw[j3];have D:=Rd.of_le c1;have next:∀ p' n' c',BestR W.get u land day rest p' n'->n'<=c'->Y2 [.slice p' n' c',.int .i64 (wrap .i64 ((k:Int)+1))] W:=by
    intro p' n' c' hb k0;refine a3 (j-(k+1)) _ _ (by omega) ⟨k+1,rest,p',n',c',?_,by omega,rfl,fun i hi=>K i (h2 i hi),C.trans D,ht.trans x2,o3,a4,hb,k0⟩;rw[Qh (by omega) (by omega)];rfl
   change (if okF u land day i=true then _ else _)at o;by_cases ok:okF u land day i=true
   ·rw[if_pos ok]at o;obtain⟨a,n',c',rfl,L,J⟩:=o;have L:=L.rd IntE.grow (Rd.of_le hle);refine gZ ?_;refine t_neNil K4 ?_;refine yT ?_;refine t_eqNil K4 ?_;refine yI (fun b=>?_) (fun b=>?_)
    ·exact Qi (next _ _ _ (t.take h1 ok (by have:=K i hi;omega) L (.inl (by simpa using b))) J)
    ·have m1:p≠none:=by rintro rfl;cases b
     obtain⟨k',a',m3,u1⟩ : ∃ k' a',p=some a'/\Sl IntE 1 l.get (some a') n (subsetL u.papers.length k'):=by
      rcases t with⟨b1,_⟩|⟨k',a',b1,_,_,b4,_⟩
      ·exact absurd b1 m1
      ·exact⟨k',a',b1,b4⟩
     subst m3;have x1:=u1.rd IntE.grow D;refine t_pu (c75 L x1) ?_;have same:∀ P,Sl IntE 1 l.get (some a') n (subsetL u.papers.length P)->subsetL u.papers.length P=subsetL u.papers.length k':=by
      intro P h3;exact Sl.same h3 u1
     refine yJ (fun e3=>?_) (fun e3=>?_)
     ·refine Qi (next _ _ _ (t.take h1 ok (by have:=K i hi;omega) L (.inr fun P _ h3=>?_)) J);rw[same P h3];omega
     ·refine Qi (next _ _ _ (t.stay h1 m1 D fun P h3=>?_) I);rw[same P h3,fewer_neg];omega
   ·rw[if_neg ok]at o;subst o;refine gZ ?_;refine t_neNil K4 ?_;refine yF ?_;exact Qi (next _ _ _ (t.skip h1 (by simpa using ok) D) I)
  ·refine gZ ?_;have l0:rem=[]:=List.length_eq_zero_iff.1 (by omega);subst l0;obtain⟨j0,s,o1⟩ : l.chans=[]/\∃ s,l.get q=some (true,.chan 0 #[] false s s false):=by
    rcases V with⟨a,_⟩|⟨_,a,b⟩
    ·exact absurd rfl a
    ·exact⟨a,b⟩
   refine Du (C _ _ z4) ?_;refine t_close o1 ?_;have D:Rd l.get (l.get.upd q (true,.chan 0 #[] true s s false)):=by
    intro a v hc;have B:a.block≠q:=by
     intro e;unfold Cells.cell? at hc;rw[e,o1]at hc;cases hc
    unfold Cells.cell? at hc ⊢;rw[Qm _ _ B];exact hc
   have b9:BestR (l.get.upd q (true,.chan 0 #[] true s s false)) u land day [] p n:=by
    rcases t with b1|⟨P,a,b1,b2,b3,b4,b5⟩
    ·exact .inl b1
    ·exact .inr ⟨P,a,b1,b2,b3,b4.rd IntE.grow D,b5⟩
   exact Qg ⟨((Rd.of_le w.1).trans C).trans D,j0,o2,x2,.inr ⟨ho,p,n,c,rfl,b9,I⟩⟩
end Go.Y
end
namespace Go.Y
section
set_option maxHeartbeats 0
set_option linter.unusedVariables false
variable {X:XP} {h:LH} {A:Value->LH->Prop}
variable {a b c d e f g i j k l m:Int}{n o p q r s t u v w x y z:Nat}{B C D E F G H I J K L M:Option Addr}
theorem w16  : FX X 8 #[] h A (.cl 21 #[] fun e=>.unAgg e fun n=>.pi n fun j b=>.pi b fun s b=>.pi b fun t b=>.pi b fun u b=>.popS b fun l v m b=>.popS b fun o w q b=>.popS b fun p x r b=>.unNil b (.cT 22 #[.agg #[j,s,t,u,.slice l v m,.slice o w q,.slice p x r],.int .i64 20] fun e b=>.unAgg e fun n=>.pi n fun D k0=>.pi k0 fun E l0=>.unNil l0 (.unCons b fun e b=>.ui e fun j0=>.unNil b (.cT 22 #[.agg #[j,s,t,u,.slice l v m,.slice o w q,.slice p x r],.int .i64 25] fun e b=>.unAgg e fun n=>.pi n fun B m0=>.pi m0 fun C o0=>.unNil o0 (.unCons b fun e b=>.ui e fun U=>.unNil b (.cT 23 #[.agg #[j,s,t,u,.slice l v m,.slice o w q,.slice p x r],.int .i64 0,.int .i64 1,.int .i64 16] fun e b=>.ui e fun a=>.unCons b fun e b=>.ui e fun V=>.unNil b (.cT 23 #[.agg #[j,s,t,u,.slice l v m,.slice o w q,.slice p x r],.int .i64 0,.int .i64 1,.int .i64 18] fun e b=>.ui e fun c=>.unCons b fun e b=>.ui e fun W=>.unNil b (.cT 23 #[.agg #[j,s,t,u,.slice l v m,.slice o w q,.slice p x r],.int .i64 0,.int .i64 1,.int .i64 19] fun e b=>.ui e fun f=>.unCons b fun e b=>.ui e fun Y=>.unNil b (.cT 24 #[.agg #[j,s,t,u,.slice l v m,.slice o w q,.slice p x r],.int .i64 0,.int .i64 1] fun e b=>.ui e fun g=>.unCons b fun e b=>.ui e fun Z=>.unNil b (.cT 24 #[.agg #[j,s,t,u,.slice l v m,.slice o w q,.slice p x r],.int .i64 1,.int .i64 2] fun e b=>.ui e fun i=>.unCons b fun e b=>.ui e fun a0=>.unNil b (.cT 25 #[.agg #[j,s,t,u,.slice l v m,.slice o w q,.slice p x r],.int .i64 0,.int .i64 25] fun e b=>.unS e fun J b0 Q=>.unCons b fun e b=>.ui e fun c0=>.unNil b (.cT 26 #[.agg #[j,s,t,u,.slice l v m,.slice o w q,.slice p x r],.int .i64 0,.int .i64 20] fun e b=>.unS e fun K d0 R=>.unCons b fun e b=>.ui e fun e0=>.unNil b (.cT 27 #[.agg #[j,s,t,u,.slice l v m,.slice o w q,.slice p x r],.int .i64 0,.int .i64 25] fun e b=>.unS e fun F H G=>.unCons b fun e b=>.ui e fun f0=>.unNil b (.sem false (Instr.buildSlice 47 2 #[(0,.int .i64 0),(1,.int .i64 2)]) fun e=>.unS e fun L g0 S=>.cT 28 #[.agg #[j,s,t,u,.slice l v m,.slice o w q,.slice p x r],.int .i64 0,.int .i64 25,.slice L g0 S] fun e b=>.unB e fun k=>.unCons b fun e b=>.ui e fun j=>.unNil b (.blk (bif j0 != 0 then .rn [false] else bif U != 0 then .rn [false] else bif V != 0 then .rn [false] else bif W != 0 then .rn [false] else bif Y != 0 then .rn [false] else bif Z != 0 then .rn [false] else bif a0 != 0 then .rn [false] else bif c0 != 0 then .rn [false] else bif e0 != 0 then .rn [false] else bif f0 != 0 then .rn [false] else bif j != 0 then .rn [false] else .ag [false]) (fun b=>.popB b fun M b=>.unNil b (.blk (.cl 29 #[.int .i64 16,.int .i64 20] fun e=>.unAgg e fun n=>.pi n fun j b=>.pi b fun y b=>.unNil b (.nd (.agg #[D,E]) (.sem false (Sem.bind (eqGuard BinOp.neq 46 (Operand.tmp 123) (Operand.tmp 124) (.agg #[D,E]) (.agg #[j,y])) fun I=>binOp BinOp.neq 46 (.agg #[D,E]) (.agg #[j,y])) fun e=>.unB e fun N=>bif N then .nds [.U,true,true,true,true,true,true,true,true,true,true,true,true,true,true,true,.U,true,.U,true,true,true,true,true,true,true,true,.U,true,true] (.nds [true,true,true,true,true,true,.U,true,true,true,true,true,true,true] (.rn [false])) else .cl 29 #[.int .i64 18,.int .i64 25] fun e=>.unAgg e fun n=>.pi n fun j b=>.pi b fun z b=>.unNil b (.nd (.agg #[B,C]) (.sem false (Sem.bind (eqGuard BinOp.neq 46 (Operand.tmp 127) (Operand.tmp 128) (.agg #[B,C]) (.agg #[j,z])) fun I=>binOp BinOp.neq 46 (.agg #[B,C]) (.agg #[j,z])) fun e=>.unB e fun d=>bif d then .nds [d,true,d,true,true,d,true,true,true,d,true,true,true,true,d,.U,true,.U,true,true,true,true,true,true,d,true,.U,true,true,true] (.nds [true,true,true,d,true,.U,true,true,true,true,true,true,d] (.rn [false])) else bif a != 1 then .nds [.B (a != 1),.B (a != 1),a] (.nf d false (.nds [d,true,.B (a != 1),.B (a != 1),a] (.nf d false (.nds [d,true,true,.B (a != 1),.B (a != 1),a] (.nf d false (.nds [d,true,true,true,.B (a != 1),.B (a != 1),a] (.nf d false (.nds [d,.U,true,.U,true,true,true,true,true,.B (a != 1),.B (a != 1),a] (.nf d false (.nds [d,true,.U,true,true,true,true,true,.B (a != 1),.B (a != 1),a] (.nf d false (.nds [d,true,.U,true,true,true,true,true,.B (a != 1),.B (a != 1),a] (.nf d false (.nd d (.rn [false]))))))))))))))) else bif c != 0 then .nds [.B (c != 0),.B (c != 0),c] (.nf (a != 1) false (.nds [.B (a != 1),.B (a != 1),a] (.nf d false (.nds [d,true,.B (c != 0),.B (c != 0),c] (.nf (a != 1) false (.nds [.B (a != 1),.B (a != 1),a] (.nf d false (.nds [d,true,true,.B (c != 0),.B (c != 0),c] (.nf (a != 1) false (.nds [.B (a != 1),.B (a != 1),a] (.nf d false (.nds [d,.U,true,.U,true,true,true,true,.B (c != 0),.B (c != 0),c] (.nf (a != 1) false (.nds [.B (a != 1),.B (a != 1),a] (.nf d false (.nds [d,true,.U,true,true,true,true,.B (c != 0),.B (c != 0),c] (.nf (a != 1) false (.nds [.B (a != 1),.B (a != 1),a] (.nf d false (.nds [d,true,.U,true,true,true,true,.B (c != 0),.B (c != 0),c] (.nf (a != 1) false (.nds [.B (a != 1),.B (a != 1),a] (.nf d false (.nd d (.rn [false]))))))))))))))))))))))))) else bif f != 2 then .nds [.B (f != 2),.B (f != 2),f] (.nf (c != 0) false (.nds [.B (c != 0),.B (c != 0),c] (.nf (a != 1) false (.nds [.B (a != 1),.B (a != 1),a] (.nf d false (.nds [d,true,.B (f != 2),.B (f != 2),f] (.nf (c != 0) false (.nds [.B (c != 0),.B (c != 0),c] (.nf (a != 1) false (.nds [.B (a != 1),.B (a != 1),a] (.nf d false (.nds [d,.U,true,.U,true,true,true,.B (f != 2),.B (f != 2),f] (.nf (c != 0) false (.nds [.B (c != 0),.B (c != 0),c] (.nf (a != 1) false (.nds [.B (a != 1),.B (a != 1),a] (.nf d false (.nds [d,true,.U,true,true,true,.B (f != 2),.B (f != 2),f] (.nf (c != 0) false (.nds [.B (c != 0),.B (c != 0),c] (.nf (a != 1) false (.nds [.B (a != 1),.B (a != 1),a] (.nf d false (.nds [d,true,.U,true,true,true,.B (f != 2),.B (f != 2),f] (.nf (c != 0) false (.nds [.B (c != 0),.B (c != 0),c] (.nf (a != 1) false (.nds [.B (a != 1),.B (a != 1),a] (.nf d false (.nd d (.rn [false]))))))))))))))))))))))))))))))) else bif g != 17 then .nds [.B (g != 17),.B (g != 17),g] (.nf (f != 2) false (.nds [.B (f != 2),.B (f != 2),f] (.nf (c != 0) false (.nds [.B (c != 0),.B (c != 0),c] (.nf (a != 1) false (.nds [.B (a != 1),.B (a != 1),a] (.nf d false (.nds [d,.U,true,.U,true,true,.B (g != 17),.B (g != 17),g] (.nf (f != 2) false (.nds [.B (f != 2),.B (f != 2),f] (.nf (c != 0) false (.nds [.B (c != 0),.B (c != 0),c] (.nf (a != 1) false (.nds [.B (a != 1),.B (a != 1),a] (.nf d false (.nds [d,true,.U,true,true,.B (g != 17),.B (g != 17),g] (.nf (f != 2) false (.nds [.B (f != 2),.B (f != 2),f] (.nf (c != 0) false (.nds [.B (c != 0),.B (c != 0),c] (.nf (a != 1) false (.nds [.B (a != 1),.B (a != 1),a] (.nf d false (.nds [d,true,.U,true,true,.B (g != 17),.B (g != 17),g] (.nf (f != 2) false (.nds [.B (f != 2),.B (f != 2),f] (.nf (c != 0) false (.nds [.B (c != 0),.B (c != 0),c] (.nf (a != 1) false (.nds [.B (a != 1),.B (a != 1),a] (.nf d false (.nd d (.rn [false]))))))))))))))))))))))))))))))))) else bif i != 15 then .nds [.U,true,.U] (.nf (i != 15) true (.nds [.B (i != 15),.B (i != 15),i] (.nf (g != 17) false (.nds [.B (g != 17),.B (g != 17),g] (.nf (f != 2) false (.nds [.B (f != 2),.B (f != 2),f] (.nf (c != 0) false (.nds [.B (c != 0),.B (c != 0),c] (.nf (a != 1) false (.nds [.B (a != 1),.B (a != 1),a] (.nf d false (.nds [d,true,.U] (.nf (i != 15) true (.nds [.B (i != 15),.B (i != 15),i] (.nf (g != 17) false (.nds [.B (g != 17),.B (g != 17),g] (.nf (f != 2) false (.nds [.B (f != 2),.B (f != 2),f] (.nf (c != 0) false (.nds [.B (c != 0),.B (c != 0),c] (.nf (a != 1) false (.nds [.B (a != 1),.B (a != 1),a] (.nf d false (.nds [d,true,.U] (.nf (i != 15) true (.nds [.B (i != 15),.B (i != 15),i] (.nf (g != 17) false (.nds [.B (g != 17),.B (g != 17),g] (.nf (f != 2) false (.nds [.B (f != 2),.B (f != 2),f] (.nf (c != 0) false (.nds [.B (c != 0),.B (c != 0),c] (.nf (a != 1) false (.nds [.B (a != 1),.B (a != 1),a] (.nf d false (.nd d (.rn [false]))))))))))))))))))))))))))))))))))))) else bif k then .nds [.U,k,k] (.nf (i != 15) false (.nds [.B (i != 15),.B (i != 15),i] (.nf (g != 17) false (.nds [.B (g != 17),.B (g != 17),g] (.nf (f != 2) false (.nds [.B (f != 2),.B (f != 2),f] (.nf (c != 0) false (.nds [.B (c != 0),.B (c != 0),c] (.nf (a != 1) false (.nds [.B (a != 1),.B (a != 1),a] (.nf d false (.nds [d,k,k] (.nf (i != 15) false (.nds [.B (i != 15),.B (i != 15),i] (.nf (g != 17) false (.nds [.B (g != 17),.B (g != 17),g] (.nf (f != 2) false (.nds [.B (f != 2),.B (f != 2),f] (.nf (c != 0) false (.nds [.B (c != 0),.B (c != 0),c] (.nf (a != 1) false (.nds [.B (a != 1),.B (a != 1),a] (.nf d false (.nds [d,k,k] (.nf (i != 15) false (.nds [.B (i != 15),.B (i != 15),i] (.nf (g != 17) false (.nds [.B (g != 17),.B (g != 17),g] (.nf (f != 2) false (.nds [.B (f != 2),.B (f != 2),f] (.nf (c != 0) false (.nds [.B (c != 0),.B (c != 0),c] (.nf (a != 1) false (.nds [.B (a != 1),.B (a != 1),a] (.nf d false (.nd d (.rn [false]))))))))))))))))))))))))))))))))))))) else .sem false (Instr.buildSlice 47 1 #[(0,.int .i64 1)]) fun e=>.unS e fun l j m=>.nds [.S F H G,k,k] (.nf (i != 15) false (.nds [.B (i != 15),.B (i != 15),i] (.nf (g != 17) false (.nds [.B (g != 17),.B (g != 17),g] (.nf (f != 2) false (.nds [.B (f != 2),.B (f != 2),f] (.nf (c != 0) false (.nds [.B (c != 0),.B (c != 0),c] (.nf (a != 1) false (.nds [.B (a != 1),.B (a != 1),a] (.nf d false (.nd d (.cB 30 #[.slice F H G,.slice l j m] fun O=>.nds [k,k] (.nf (i != 15) false (.nds [.B (i != 15),.B (i != 15),i] (.nf (g != 17) false (.nds [.B (g != 17),.B (g != 17),g] (.nf (f != 2) false (.nds [.B (f != 2),.B (f != 2),f] (.nf (c != 0) false (.nds [.B (c != 0),.B (c != 0),c] (.nf (a != 1) false (.nds [.B (a != 1),.B (a != 1),a] (.nf d false (.nd d (bif !O then .rn [false] else .ag [M]))))))))))))))))))))))))))))))) (fun b=>.popB b fun k b=>.unNil b (.sem false (Instr.buildSlice 60 3 #[(0,.int .i64 1),(1,.int .i64 2),(2,.int .i64 0)]) fun e=>.unS e fun l j m=>.cB 31 #[.slice J b0 Q,.slice l j m] fun k=>bif k then .cl 29 #[.int .i64 16,.int .i64 20] fun e=>.unAgg e fun n=>.pi n fun j b=>.pi b fun y b=>.unNil b (.cl 29 #[.int .i64 16,.int .i64 20] fun e=>.unAgg e fun n=>.pi n fun z b=>.pi b fun i0 b=>.unNil b (.sem false (Instr.buildSlice 63 2 #[(0,.agg #[.int .i64 1,.int .i64 0,j,y]),(1,.agg #[.int .i64 2,.int .i64 0,z,i0])]) fun e=>.unS e fun l j m=>.cB 32 #[.slice K d0 R,.slice l j m] fun k=>.rt (.bool k))) else .rt (.bool false))) (fun b=>.popB b fun k b=>.unNil b (.rt (.bool k))) fun p0 q0=>.fail)) (fun b=>.popB b fun k b=>.unNil b (.rt (.bool k))) fun p0 q0=>.fail))))))))))))))):=fk [1,2,4] [] [⟨17,[(0,.bool)],[1,2,4],[],[],[]⟩,⟨15,[(0,.bool)],[1,2,4],[],[],[]⟩] Tryz.f8
end
section
attribute [local irreducible] T.wp CV FWK
def exU:UseFile:=⟨3,2,10,5,[⟨21,23⟩],[⟨⟨12,14⟩,0,[0,1]⟩,⟨⟨19,19⟩,0,[0]⟩,⟨⟨17,26⟩,0,[2]⟩,⟨⟨18,18⟩,1,[0,1]⟩],[⟨20,0,[0,1,2]⟩,⟨25,0,[0,2]⟩]⟩
variable {h:LH}{p q:Option Addr}{n c m d:Nat}{a b:List Int}
theorem c42(a b:Int):Pu Tryz.prog 29 #[a,b] h (.agg #[a,b]):=by
 refine w42 Qn ?_;exact Qg ⟨rfl,rfl⟩
theorem c35(g:Sl IntE 1 h.get p n a)(hb:Sl IntE 1 h.get q m b):Pu Tryz.prog 30 #[.slice p n c,.slice q m d] h (.bool (decide (a=b))):=by
 refine w35 Qn ?_;have F:=g.1;have hm:=hb.1;have A:=g.2.1;have z:=hb.2.1;refine Qp (fun e=>?_) (fun e=>?_)
 ·have:a≠b:=by rintro rfl;simp at e;omega
  exact Qg ⟨by simp[this],rfl⟩
 have B:n=m:=by simp at e;omega
 refine Q1 (fun l o h'=>h=h'/\∃ i:Nat,o=[.bool false,.int .i64 i]/\i<=n/\l=n-i/\a.take i=b.take i) ⟨rfl,0,rfl,Nat.zero_le _,rfl,rfl⟩ ?_;rintro Y l o _ u ⟨rfl,i,rfl,E,rfl,hc⟩;refine yJ (fun e=>?_) (fun e=>?_)
 ·obtain⟨x,C,k,v,s⟩:=g.at (i:=i) (by omega);obtain⟨y,D,j,w,t⟩:=hb.at (i:=i) (by omega);unfold IntE at s t;refine yI (fun f=>?_) (fun f=>?_)
  ·refine gZ ?_;have:a≠b:=by rintro rfl;rw[k]at j;cases j;simp at f
   exact Qg ⟨by simp[this],rfl⟩
  ·have r:x=y:=by simpa using f
   refine Qi (u (n-(i+1)) _ _ (by omega) ⟨rfl,i+1,?_,by omega,rfl,?_⟩)
   ·rw[Qh (by omega) (by omega)];rfl
   ·rw[List.take_add_one,List.take_add_one,hc,k,j,r]
 ·refine gZ ?_;rw[List.take_of_length_le (by omega),List.take_of_length_le (by omega)]at hc;exact Qg ⟨by simp[hc],rfl⟩
theorem c25(g:Sl IntE 1 h.get p n a)(hb:Sl IntE 1 h.get q m b):Pu Tryz.prog 31 #[.slice p n c,.slice q m d] h (.bool (decide (a=b))):=by
 refine w25 Qn ?_;have F:=g.1;have hm:=hb.1;have A:=g.2.1;have z:=hb.2.1;refine Qp (fun e=>?_) (fun e=>?_)
 ·have:a≠b:=by rintro rfl;simp at e;omega
  exact Qg ⟨by simp[this],rfl⟩
 have B:n=m:=by simp at e;omega
 refine Q1 (fun l o h'=>h=h'/\∃ i:Nat,o=[.bool false,.int .i64 i]/\i<=n/\l=n-i/\a.take i=b.take i) ⟨rfl,0,rfl,Nat.zero_le _,rfl,rfl⟩ ?_;rintro Y l o _ u ⟨rfl,i,rfl,E,rfl,hc⟩;refine yJ (fun e=>?_) (fun e=>?_)
 ·obtain⟨x,C,k,v,s⟩:=g.at (i:=i) (by omega);obtain⟨y,D,j,w,t⟩:=hb.at (i:=i) (by omega);unfold IntE at s t;refine yI (fun f=>?_) (fun f=>?_)
  ·refine gZ ?_;have:a≠b:=by rintro rfl;rw[k]at j;cases j;simp at f
   exact Qg ⟨by simp[this],rfl⟩
  ·have r:x=y:=by simpa using f
   refine Qi (u (n-(i+1)) _ _ (by omega) ⟨rfl,i+1,?_,by omega,rfl,?_⟩)
   ·rw[Qh (by omega) (by omega)];rfl
   ·rw[List.take_add_one,List.take_add_one,hc,k,j,r]
 ·refine gZ ?_;rw[List.take_of_length_le (by omega),List.take_of_length_le (by omega)]at hc;exact Qg ⟨by simp[hc],rfl⟩
end
section
attribute [local irreducible] T.wp CV FWK
variable {h:Cells}{el:TypeId}{r:Nat}{m:Bool}{cs:Array Value}
theorem J2{X:XP}{Q:Leaf->LH->Prop}{h:LH}{k:Value->T}{t:TypeId}{n s b:Nat}{parts:Array (Nat×Value)}{z:Value}{cells:Array Value}(hu:Tryz.prog.underlying t=some (.slice el))(d:(Tryz.prog.info? el).map (fun i=>(i.size,i.bytes,i.zero))=some (s,b,some z))(f:n*s<=2^24)(a:n*s≠0)
 (c:Instr.fill (fun i=>some (i*s,s)) ((Array.range (n*s)).map (z.cells[·%z.cells.size]!)) parts.toList=some cells)
 (e:∀ r h',h.le h'->h.get r=none->h'.get r=some (true,.cells cells el (0,0))->(k (.slice (some ⟨r,0,none⟩) n n)).wp X Tryz.prog Q h'):(T.sem false (Instr.buildSlice t n parts) k).wp X Tryz.prog Q h :=
 Zi hu d f a c fun r hr=>e r _ (Qr hr) hr (Qk _ _ _)
theorem Kr{l:List Int}(a:cs=(l.map (Value.int .i64)).toArray)(hr:h r=some (m,.cells cs el (0,0)))(hb:l.length<4611686018427387904):Sl IntE 1 h (some ⟨r,0,none⟩) l.length l:=by
 refine⟨rfl,hb,fun i x b=>⟨_,rfl,?_⟩⟩;unfold IntE;rw[Ql,Ql];subst a;simp[Cells.cell?,hr,b]
theorem cell_row{i:Nat}{v:Value}(hr:h r=some (m,.cells cs el (0,0)))(hv:cs[i]?=some v):h.cell? ⟨r,i,none⟩=some v:=by
 simp[Cells.cell?,hr,hv]
theorem exRep{f g k n o p q s t:Nat}(e:h f=some (true,.cells #[.int .i64 21,.int .i64 23] 46 (0,0)))(u:h g=some (true,.cells #[.int .i64 0,.int .i64 1] 3 (0,0)))(w:h k=some (true,.cells #[.int .i64 0] 3 (0,0)))(y:h n=some (true,.cells #[.int .i64 2] 3 (0,0)))(z:h o=some (true,.cells #[.int .i64 0,.int .i64 1] 3 (0,0)))
 (c:h p=some (true,.cells #[.int .i64 12,.int .i64 14,.int .i64 0,.slice (some ⟨g,0,none⟩) 2 2,.int .i64 19,.int .i64 19,.int .i64 0,.slice (some ⟨k,0,none⟩) 1 1,.int .i64 17,.int .i64 26,.int .i64 0,.slice (some ⟨n,0,none⟩) 1 1,.int .i64 18,.int .i64 18,.int .i64 1,.slice (some ⟨o,0,none⟩) 2 2] 49 (0,0)))
 (A:h q=some (true,.cells #[.int .i64 0,.int .i64 1,.int .i64 2] 3 (0,0)))(B:h s=some (true,.cells #[.int .i64 0,.int .i64 2] 3 (0,0)))(d:h t=some (true,.cells #[.int .i64 20,.int .i64 0,.slice (some ⟨q,0,none⟩) 3 3,.int .i64 25,.int .i64 0,.slice (some ⟨s,0,none⟩) 2 2] 51 (0,0))) :
  FileR h ⟨some ⟨f,0,none⟩,1,1,some ⟨p,0,none⟩,4,4,some ⟨t,0,none⟩,2,2⟩ exU:=by
 have b:∀ {r i j:Nat} {m:Bool} {cs:Array Value} {el:TypeId} {v:Value},h r=some (m,.cells cs el (0,0))->cs[i+j]?=some v->h.cell? (Addr.add (Addr.add ⟨r,0,none⟩ i) j)=some v:=by
  intro r i j m cs el v hr hv;rw[Ql,Ql,Nat.zero_add];exact cell_row hr hv
 refine⟨⟨rfl,by show (1:Nat)<_;omega,?_⟩,⟨rfl,by show (4:Nat)<_;omega,?_⟩,⟨rfl,by show (2:Nat)<_;omega,?_⟩⟩
 ·intro i x a
  match i,a with
  | 0,a=>cases a;exact⟨_,rfl,b e rfl,b e rfl⟩
  | i+1,a=>simp[exU]at a
 ·intro i x a
  match i,a with
  | 0,a=>cases a;exact⟨_,rfl,b c rfl,b c rfl,b c rfl,_,_,_,b c rfl,Kr (l:=[0,1]) rfl u (by show (2:Nat)<_;omega)⟩
  | 1,a=>cases a;exact⟨_,rfl,b c rfl,b c rfl,b c rfl,_,_,_,b c rfl,Kr (l:=[0]) rfl w (by show (1:Nat)<_;omega)⟩
  | 2,a=>cases a;exact⟨_,rfl,b c rfl,b c rfl,b c rfl,_,_,_,b c rfl,Kr (l:=[2]) rfl y (by show (1:Nat)<_;omega)⟩
  | 3,a=>cases a;exact⟨_,rfl,b c rfl,b c rfl,b c rfl,_,_,_,b c rfl,Kr (l:=[0,1]) rfl z (by show (2:Nat)<_;omega)⟩
  | i+4,a=>simp[exU]at a
 ·intro i x a
  match i,a with
  | 0,a=>cases a;exact⟨_,rfl,b d rfl,b d rfl,_,_,_,b d rfl,Kr (l:=[0,1,2]) rfl A (by show (3:Nat)<_;omega)⟩
  | 1,a=>cases a;exact⟨_,rfl,b d rfl,b d rfl,_,_,_,b d rfl,Kr (l:=[0,2]) rfl B (by show (2:Nat)<_;omega)⟩
  | i+2,a=>simp[exU]at a
theorem c52{h:LH}:Gr Tryz.prog 21 #[] h fun r h'=>∃ f,r=fileV f exU/\FileR h'.get f exU:=by
 refine w52 Qn ?_;refine t_pu (c42 _ _) ?_;refine gZ ?_;refine J2 Yh Ux (by decide) (by decide) (cells:=#[.int .i64 21,.int .i64 23]) (by kernel_rfl) fun D M t _ k=>?_;refine gZ ?_;refine t_pu (c42 _ _) ?_;refine gZ ?_;refine J2 K4 inf3 (by decide) (by decide) (cells:=#[.int .i64 0,.int .i64 1]) (by kernel_rfl) fun E N u _ l=>?_;refine gZ ?_;refine t_pu (c42 _ _) ?_;refine gZ ?_;refine J2 K4 inf3 (by decide) (by decide) (cells:=#[.int .i64 0]) (by kernel_rfl) fun F O v _ m=>?_;refine gZ ?_;refine t_pu (c42 _ _) ?_;refine gZ ?_;refine J2 K4 inf3 (by decide) (by decide) (cells:=#[.int .i64 2]) (by kernel_rfl) fun G P w _ n=>?_;refine gZ ?_;refine t_pu (c42 _ _) ?_;refine gZ ?_;refine J2 K4 inf3 (by decide) (by decide) (cells:=#[.int .i64 0,.int .i64 1]) (by kernel_rfl) fun H Q x _ o=>?_;refine gZ ?_;refine J2 Ue Uv (by decide) (by decide) (cells:=#[.int .i64 12,.int .i64 14,.int .i64 0,.slice (some ⟨E,0,none⟩) 2 2,.int .i64 19,.int .i64 19,.int .i64 0,.slice (some ⟨F,0,none⟩) 1 1,.int .i64 17,.int .i64 26,.int .i64 0,.slice (some ⟨G,0,none⟩) 1 1,.int .i64 18,.int .i64 18,.int .i64 1,.slice (some ⟨H,0,none⟩) 2 2]) (by kernel_rfl) fun I R y _ p=>?_;refine gZ ?_;refine J2 K4 inf3 (by decide) (by decide) (cells:=#[.int .i64 0,.int .i64 1,.int .i64 2]) (by kernel_rfl) fun J S z _ q=>?_;refine gZ ?_;refine J2 K4 inf3 (by decide) (by decide) (cells:=#[.int .i64 0,.int .i64 2]) (by kernel_rfl) fun K U A _ s=>?_;refine gZ ?_;refine J2 und24 Uw (by decide) (by decide) (cells:=#[.int .i64 20,.int .i64 0,.slice (some ⟨J,0,none⟩) 3 3,.int .i64 25,.int .i64 0,.slice (some ⟨K,0,none⟩) 2 2]) (by kernel_rfl) fun L V B _ C=>?_;refine gZ ?_;have j:=B;have i:=LH.le_trans A j;have g:=LH.le_trans z i;have e:=LH.le_trans y g;have d:=LH.le_trans x e;have c:=LH.le_trans w d;have b:=LH.le_trans v c;have a:=LH.le_trans u b;have k:=a.1 _ _ k;have l:=b.1 _ _ l;have m:=c.1 _ _ m;have n:=d.1 _ _ n;have o:=e.1 _ _ o;have p:=g.1 _ _ p;have q:=i.1 _ _ q;have s:=j.1 _ _ s;refine Qg ⟨LH.le_trans t a,⟨some ⟨D,0,none⟩,1,1,some ⟨I,0,none⟩,4,4,some ⟨L,0,none⟩,2,2⟩,rfl,?_⟩;exact exRep k l m n o p q s C
end
end Go.Y
section
namespace Go.TM
variable {P:Program} {E:Halt->Cells->Prop} {h:Cells}
variable {t:TypeId}{a b c d a' b' c' d':Int}
theorem lwp_equalIn2{Q:Bool->Cells->Prop}{k:Nat}(p:twoInts P t=true)(l:Q (decide (a=c/\b=d)) h):Qc P (Op.equalIn (k+1+1) t (.agg #[a,b]) (.agg #[c,d])) Q E h:=by
 obtain⟨f,g,hu,q,r,i1,i2,m,n,o⟩:=Zh p;rw[Op.equalIn];rw[lwp_bind,Qa hu];simp only[lwp_bind,Jh,o,Bool.false_eq_true,if_false,List.forIn_toArray,List.forIn_cons,List.forIn_nil,q,r,ne_eq,not_false_eq_true,if_true];refine Jn i1 (v:=.int .i64 a) (by rw[m];rfl) ?_;refine Jn i1 (v:=.int .i64 c) (by rw[m];rfl) ?_;refine Z9 i1 ?_;by_cases e:a=c
 ·subst e;simp only[beq_self_eq_true,Bool.not_true,Bool.false_eq_true,if_false,Qe,lwp_bind];refine Jn i2 (v:=.int .i64 b) (by rw[n];rfl) ?_;refine Jn i2 (v:=.int .i64 d) (by rw[n];rfl) ?_;refine Z9 i2 ?_;by_cases i:b=d
  ·subst i;simpa[Qe] using l
  ·have j:(b==d)=false:=by simpa using i
   simpa[Qe,i,j] using l
 ·have j:(a==c)=false:=by simpa using e
  simpa[Qe,e,j] using l
def Gx(P:Program)(t:TypeId):Bool:=match P.underlying t with
 | some (.struct fs)=>(match fs.toList with
  | [a, b, w] => a.name != "_" && b.name != "_" && w.name != "_" && Wj P a.type && Wj P b.type && twoInts P w.type && Nat.beq a.offset 0 && Nat.beq b.offset 1 && Nat.beq w.offset 2 && (match P.info? w.type with | some i => Nat.beq i.size 2 | none => false)
  | _=>false)&&!P.stoodInHeld t
 | _=>false
theorem twoInts_agg(a:twoInts P t=true):isAggT P t=true:=by
 obtain⟨f,g,hu,_⟩:=Zh a;unfold isAggT;rw[hu]
theorem lwp_part2{Q:Value->Cells->Prop}{cs:Array Value}{o:Nat}{i:TypeInfo}(d:twoInts P t=true)(a:P.info? t=some i)(c:i.size=2)(b:Q (.agg (cs.extract o (o+2))) h):Qc P (part t cs o) Q E h:=by
 unfold part;rw[lwp_bind,K9 (twoInts_agg d)];simp only[if_true,lwp_bind,Qx a,c,Qe];exact b
theorem lwp_equal4{Q:Bool->Cells->Prop}(i:Gx P t=true)(l:Q (decide (a=a'/\b=b'/\c=c'/\d=d')) h):Qc P (Op.equal t (.agg #[a,b,c,d]) (.agg #[a',b',c',d'])) Q E h:=by
 unfold Gx at i;split at i
 next u hu =>
  simp only[Bool.and_eq_true,Bool.not_eq_true']at i;obtain⟨j,z⟩:=i;split at j
  next x y w q =>
   simp only[Bool.and_eq_true,bne_iff_ne]at j;obtain⟨⟨⟨⟨⟨⟨⟨⟨⟨A,B⟩,C⟩,i1⟩,i2⟩,i3⟩,m⟩,n⟩,s⟩,e⟩:=j;have g:u=#[x,y,w]:=by rw[<- q]
   subst g;have m:=Q3 m;have n:=Q3 n;have s:=Q3 s;cases k:P.info? w.type with
   | none=>rw[k]at e;cases e
   | some inf =>
    rw[k]at e;have e:=Q3 e;unfold Op.equal;have r:Op.maxDepth=9997+1+1+1:=rfl;rw[r,Op.equalIn];rw[lwp_bind,Qa hu];simp only[lwp_bind,Jh,z,Bool.false_eq_true,if_false,List.forIn_toArray,List.forIn_cons,List.forIn_nil,A,B,C,ne_eq,not_false_eq_true,if_true];refine Jn i1 (v:=.int .i64 a) (by rw[m];rfl) ?_;refine Jn i1 (v:=.int .i64 a') (by rw[m];rfl) ?_;refine Z9 i1 ?_;by_cases o:a=a'
    ·subst o;simp only[beq_self_eq_true,Bool.not_true,Bool.false_eq_true,if_false,Qe,lwp_bind];refine Jn i2 (v:=.int .i64 b) (by rw[n];rfl) ?_;refine Jn i2 (v:=.int .i64 b') (by rw[n];rfl) ?_;refine Z9 i2 ?_;by_cases p:b=b'
     ·subst p;simp only[beq_self_eq_true,Bool.not_true,Bool.false_eq_true,if_false,Qe,lwp_bind];refine lwp_part2 i3 k e ?_;refine lwp_part2 i3 k e ?_;rw[s];refine lwp_equalIn2 (a:=c) (b:=d) (c:=c') (d:=d') i3 ?_;by_cases f:c=c'/\d=d'
      ·simpa[Qe,f] using l
      ·simpa[Qe,f] using l
     ·have f:(b==b')=false:=by simpa using p
      simpa[Qe,p,f] using l
    ·have f:(a==a')=false:=by simpa using o
     simpa[Qe,o,f] using l
  next=>cases j
 next=>cases i
variable {X:XP} {Q:Leaf->LH->Prop}
theorem t_ne4{h:LH}{K:Value->T}{x y:Operand}(g:Gx P t=true)(e:P.eqGuardType P.depth t=false)(f:(K (.bool (!decide (a=a'/\b=b'/\c=c'/\d=d')))).wp X P Q h) :
  (T.sem false (Sem.bind (eqGuard .neq t x y (.agg #[a,b,c,d]) (.agg #[a',b',c',d'])) fun _=>binOp .neq t (.agg #[a,b,c,d]) (.agg #[a',b',c',d'])) K).wp X P Q h:=by
 refine Q6 (A:=fun w h'=>w=.bool (!decide (a=a'/\b=b'/\c=c'/\d=d'))/\h'=h.get) (Qt _ _ ?_) (by rintro w h' ⟨rfl,rfl⟩;exact f);unfold eqGuard;simp only[Bool.not_true,Bool.false_eq_true,if_false,lwp_bind,Jh,e,Bool.not_false,if_true,Qe];unfold binOp;rw[lwp_bind];exact lwp_equal4 g ⟨rfl,rfl⟩
end Go.TM
end
namespace Go.Y
section
attribute [local irreducible] T.wp CV FWK
theorem two79:Gx Tryz.prog 75=true:=by kernel_rfl
theorem g79:Tryz.prog.eqGuardType Tryz.prog.depth 75=false:=by kernel_rfl
theorem c30{h:LH}{p q:Option Addr}{n c m d:Nat}{a b:List Lack}(g:Sl LackE 4 h.get p n a)(hb:Sl LackE 4 h.get q m b):Pu Tryz.prog 32 #[.slice p n c,.slice q m d] h (.bool (decide (a=b))):=by
 refine w30 Qn ?_;have H:=g.1;have hm:=hb.1;have w:=g.2.1;have v:=hb.2.1;refine Qp (fun e=>?_) (fun e=>?_)
 ·have:a≠b:=by rintro rfl;simp at e;omega
  exact Qg ⟨by simp[this],rfl⟩
 have z:n=m:=by simp at e;omega
 refine Q1 (fun l o h'=>h=h'/\∃ i:Nat,o=[.bool false,.int .i64 i]/\i<=n/\l=n-i/\a.take i=b.take i) ⟨rfl,0,rfl,Nat.zero_le _,rfl,rfl⟩ ?_;rintro Y l o _ s ⟨rfl,i,rfl,G,rfl,hc⟩;refine yJ (fun e=>?_) (fun e=>?_)
 ·obtain⟨x,A,k,t,C,D,E,F⟩:=g.at (i:=i) (by omega);obtain⟨y,B,j,u,f1,f2,f3,f4⟩:=hb.at (i:=i) (by omega);refine gZ ?_;refine t_ne4 two79 g79 ?_;refine yI (fun f=>?_) (fun f=>?_)
  ·refine gZ ?_;have:a≠b:=by rintro rfl;rw[k]at j;cases j;simp at f
   exact Qg ⟨by simp[this],rfl⟩
  ·have r:x=y:=by
    obtain⟨I,J,K,L⟩:=x;obtain⟨M,N,O,P⟩:=y;simp at f;obtain⟨rfl,rfl,rfl,rfl⟩:=f;rfl
   refine Qi (s (n-(i+1)) _ _ (by omega) ⟨rfl,i+1,?_,by omega,rfl,?_⟩)
   ·rw[Qh (by omega) (by omega)];rfl
   ·rw[List.take_add_one,List.take_add_one,hc,k,j,r]
 ·refine gZ ?_;rw[List.take_of_length_le (by omega),List.take_of_length_le (by omega)]at hc;exact Qg ⟨by simp[hc],rfl⟩
theorem c15{h:LH}{f:FileC}{u:UseFile}(hu:FileR h.get f u):FW X0 Tryz.prog 7 #[fileV f u] h fun r h'=>h=h'/\∃ b:Bool,r=.bool b/\(b=false->u.excuses.length<=20/\u.papers.length<=20/\u.requests.length<=20):=by
 refine w15 Qn ?_;have G:=hu.excuses.1;have D:=hu.papers.1;have r0:=hu.requests.1;have E:=hu.papers.2.1;have F:=hu.requests.2.1;refine Jd (fun a h'=>a=[.bool false]/\h=h'/\u.excuses.length<=20/\u.papers.length<=20/\u.requests.length<=20) ?_ ?_
 ·refine t_if (fun g=>?_) (fun g=>?_)
  ·refine gZ ?_;exact Qg ⟨rfl,true,rfl,fun e=>by cases e⟩
  refine t_if (fun j=>?_) (fun j=>?_)
  ·refine gZ ?_;exact Qg ⟨rfl,true,rfl,fun e=>by cases e⟩
  refine t_if (fun o=>?_) (fun o=>?_)
  ·refine gZ ?_;exact Qg ⟨rfl,true,rfl,fun e=>by cases e⟩
  exact Qi ⟨rfl,rfl,by omega,by omega,by omega⟩
 rintro a _ ⟨rfl,rfl,v,w,y⟩;refine gZ ?_;refine Q1 (fun d a h'=>h=h'/\∃ i:Nat,a=[.bool false,.int .i64 i]/\i<=f.n5/\d=f.n5-i) ⟨rfl,0,rfl,Nat.zero_le _,rfl⟩ ?_;rintro Y d a _ z ⟨rfl,i,rfl,A,rfl⟩;refine yJ (fun e=>?_) (fun e=>?_)
 ·obtain⟨x,p,B,n,g,j,o,q,m,c,s,t⟩:=hu.papers.at (i:=i) (by omega);refine yJ (fun k=>?_) (fun k=>?_)
  ·refine gZ ?_;exact Qg ⟨rfl,true,rfl,fun e=>by cases e⟩
  ·refine Qi (z (f.n5-(i+1)) _ _ (by omega) ⟨rfl,i+1,?_,by omega,rfl⟩);rw[Qh (by omega) (by omega)];rfl
 ·refine gZ ?_;refine Q1 (fun d a h'=>h=h'/\∃ i:Nat,a=[.bool false,.int .i64 i]/\i<=f.n6/\d=f.n6-i) ⟨rfl,0,rfl,Nat.zero_le _,rfl⟩ ?_;rintro C d a _ l ⟨rfl,i,rfl,A,rfl⟩;refine yJ (fun e=>?_) (fun e=>?_)
  ·obtain⟨x,p,B,n,g,j,q,m,c,s,t⟩:=hu.requests.at (i:=i) (by omega);refine yJ (fun k=>?_) (fun k=>?_)
   ·refine gZ ?_;exact Qg ⟨rfl,true,rfl,fun e=>by cases e⟩
   ·refine Qi (l (f.n6-(i+1)) _ _ (by omega) ⟨rfl,i+1,?_,by omega,rfl⟩);rw[Qh (by omega) (by omega)];rfl
  ·refine gZ ?_;exact Qg ⟨rfl,false,rfl,fun _=>⟨v,w,y⟩⟩
end
section
theorem G3:Grow LackE:=fun _ _ _ _ a h=>⟨a _ _ h.1,a _ _ h.2.1,a _ _ h.2.2.1,a _ _ h.2.2.2⟩
theorem ev1:window exU 20=⟨16,20⟩:=by decide +kernel
theorem ev2:window exU 25=⟨18,25⟩:=by decide +kernel
theorem ev3:safe exU 0 1 16=1:=by decide +kernel
theorem ev4:safe exU 0 1 18=0:=by decide +kernel
theorem ev5:safe exU 0 1 19=2:=by decide +kernel
theorem ev6:weak exU 0 1=17:=by decide +kernel
theorem ev7:weak exU 1 2=15:=by decide +kernel
theorem ev8:leftAll exU 0 25=[1,2,0]:=by decide +kernel
theorem ev9:lacks exU 0 20=[⟨1,0,⟨16,20⟩⟩,⟨2,0,⟨16,20⟩⟩]:=by decide +kernel
theorem ev10:enoughB exU 0 25 [0,2] (leftAll exU 0 25)=false:=by decide +kernel
theorem ev11:∀ i,i<16->okF exU 0 25 i=true->(∀ j,j<16->okF exU 0 25 j=true->fewerF (subsetL 4 i) (subsetL 4 j)<=0)->subsetL 4 i=[1]:=by decide +kernel
theorem ev12:okF exU 0 25 2=true:=by decide +kernel
theorem exWindow20:windowR exU 20=.tuple #[.agg #[.int .i64 16,.int .i64 20],.int .i64 0]:=by rw[windowR,if_neg (by decide +kernel),ev1]
theorem exWindow25:windowR exU 25=.tuple #[.agg #[.int .i64 18,.int .i64 25],.int .i64 0]:=by rw[windowR,if_neg (by decide +kernel),ev2]
theorem exSafe16:safeR exU 0 1 16=.tuple #[.int .i64 1,.int .i64 0]:=by rw[safeR,if_neg (by decide +kernel),ev3]
theorem exSafe18:safeR exU 0 1 18=.tuple #[.int .i64 0,.int .i64 0]:=by rw[safeR,if_neg (by decide +kernel),ev4]
theorem exSafe19:safeR exU 0 1 19=.tuple #[.int .i64 2,.int .i64 0]:=by rw[safeR,if_neg (by decide +kernel),ev5]
theorem exWeak1:weakR exU 0 1=.tuple #[.int .i64 17,.int .i64 0]:=by rw[weakR,if_neg (by decide +kernel),ev6]
theorem exWeak2:weakR exU 1 2=.tuple #[.int .i64 15,.int .i64 0]:=by rw[weakR,if_neg (by decide +kernel),ev7]
theorem exEnough:enoughR exU 0 25 [0,2]=.tuple #[.bool false,.int .i64 0]:=by rw[enoughR,if_neg (by decide +kernel),ev10]
theorem exOpen25:openF exU [landQ exU 0,dayQ 25]=0:=by decide +kernel
theorem exOpen20:openF exU [landQ exU 0,dayQ 20]=0:=by decide +kernel
attribute [local irreducible] T.wp CV FWK
theorem c16{h:LH}(Z:h.chans=[])(e0:h.pend=[])(c:Parts h.get):FW XT Tryz.prog 8 #[] h fun r h'=>r=.bool true/\Rd h.get h'.get/\h'.chans=[]/\h'.pend=[]/\h'.todo=h.todo:=by
 refine w16 Yo ?_;refine t_gr c52 ?_;rintro _ h1 M ⟨f,rfl,hu⟩;have c:=c.le M.1;refine gZ ?_;refine t_gr (c17 c hu 20) ?_;rintro _ h2 B rfl;rw[exWindow20];refine gZ ?_;have c:=c.le B.1;have hu:=hu.le B.1;refine t_gr (c17 c hu 25) ?_;rintro _ h3 C rfl;rw[exWindow25];refine gZ ?_;have c:=c.le C.1;have hu:=hu.le C.1;refine t_gr (c19 c hu 0 1 16) ?_;rintro _ h4 D rfl;rw[exSafe16];refine gZ ?_;have c:=c.le D.1;have hu:=hu.le D.1;refine t_gr (c19 c hu 0 1 18) ?_;rintro _ h5 E rfl;rw[exSafe18];refine gZ ?_;have c:=c.le E.1;have hu:=hu.le E.1;refine t_gr (c19 c hu 0 1 19) ?_;rintro _ h6 F rfl;rw[exSafe19];refine gZ ?_;have c:=c.le F.1;have hu:=hu.le F.1;refine t_gr (c21 c hu 0 1) ?_;rintro _ h7 G rfl;rw[exWeak1];refine gZ ?_;have c:=c.le G.1;have hu:=hu.le G.1;refine t_gr (c21 c hu 1 2) ?_;rintro _ h8 H rfl;rw[exWeak2];refine gZ ?_;have c:=c.le H.1;have hu:=hu.le H.1;refine t_gr (c23 c hu 0 25) ?_;rintro _ h9 I (⟨n,_⟩|⟨_,lp,ln,lc,rfl,q⟩)
 ·exact absurd exOpen25 n
 rw[ev8]at q;refine gZ ?_;have c:=c.le I.1;have hu:=hu.le I.1;refine t_gr (c28 c hu 0 20) ?_;rintro _ j0 k (⟨n,_⟩|⟨_,kp,kn,kc,rfl,u⟩)
 ·exact absurd exOpen20 n
 rw[ev9]at u;refine gZ ?_;have c:=c.le k.1;have hu:=hu.le k.1;have q:=q.le IntE.grow k.1;have le:=LH.le_trans (LH.le_trans (LH.le_trans (LH.le_trans (LH.le_trans (LH.le_trans (LH.le_trans (LH.le_trans (LH.le_trans M B) C) D) E) F) G) H) I) k;refine Ji (c33 (by rw[le.2.1,Z]) (by rw[le.2.2.1,e0]) c hu 0 25) ?_;rintro _ X ⟨g,J,P,Q,⟨n,_⟩|⟨_,pp,pn,pc,rfl,hb,_⟩⟩
 ·exact absurd exOpen25 n
 have z:Sl IntE 1 X.get pp pn [1]:=by
  rcases hb with⟨_,_,b0⟩|⟨i,a,rfl,hi,c0,hs,L⟩
  ·have:=b0 2 (by decide) (by simp);rw[ev12]at this;cases this
  ·have e:=ev11 i hi c0 fun j hj a0=>L j hj (by simp) a0;rw[<- e];exact hs
 refine gZ ?_;have c:=c.rd g;have hu:=hu.rd g;have q:=q.rd IntE.grow g;have u:=u.rd G3 g;refine J2 K4 inf3 (by decide) (by decide) (cells:=#[.int .i64 0,.int .i64 2]) (by kernel_rfl) fun o0 k0 o _ S=>?_;refine gZ ?_;have c:=c.le o.1;have hu:=hu.le o.1;refine t_gr (c31 c hu 0 25 (pl:=[0,2]) (Kr (l:=[0,2]) rfl S (by show (2:Nat)<_;omega))) ?_;rintro _ K N rfl;rw[exEnough];refine gZ ?_;have d:=LH.le_trans o N;have q:=q.le IntE.grow d.1;have u:=u.le G3 d.1;have z:=z.le IntE.grow d.1;refine Jd (fun R h'=>R=[.bool false]/\K=h') ?_ ?_
 ·iterate 11 refine Qp (fun e=>absurd e (by decide)) (fun _=>?_)
  exact Qi ⟨rfl,rfl⟩
 rintro R _ ⟨rfl,rfl⟩;refine gZ ?_;refine Jd (fun R h'=>R=[.bool false]/\K.le h') ?_ ?_
 ·refine t_pu (c42 _ _) ?_;refine gZ ?_;refine Yc Yi g30 ?_;refine gZ ?_;refine Qp (fun e=>absurd e (by decide)) (fun _=>?_);refine t_pu (c42 _ _) ?_;refine gZ ?_;refine Yc Yi g30 ?_;refine gZ ?_;refine Qp (fun e=>absurd e (by decide)) (fun _=>?_);refine gZ ?_;refine Qp (fun e=>absurd e (by decide)) (fun _=>?_);refine gZ ?_;refine Qp (fun e=>absurd e (by decide)) (fun _=>?_);refine gZ ?_;refine Qp (fun e=>absurd e (by decide)) (fun _=>?_);refine gZ ?_;refine Qp (fun e=>absurd e (by decide)) (fun _=>?_);refine gZ ?_;refine Qp (fun e=>absurd e (by decide)) (fun _=>?_);refine gZ ?_;refine Qp (fun e=>absurd e (by decide)) (fun _=>?_);refine gZ ?_;refine J2 K4 inf3 (by decide) (by decide) (cells:=#[.int .i64 1]) (by kernel_rfl) fun p0 l0 w _ U=>?_;refine gZ ?_;refine t_pu (c35 (z.le IntE.grow w.1) (Kr (l:=[1]) rfl U (by show (1:Nat)<_;omega))) ?_;refine gZ ?_;refine Qp (fun e=>absurd e (by decide)) (fun _=>?_);exact Qi ⟨rfl,w⟩
 rintro R m0 ⟨rfl,p⟩;have q:=q.le IntE.grow p.1;have u:=u.le G3 p.1;refine gZ ?_;refine J2 Yb Yl (by decide) (by decide) (cells:=#[.int .i64 1,.int .i64 2,.int .i64 0]) (by kernel_rfl) fun q0 n0 y _ V=>?_;refine gZ ?_;refine t_pu (c25 (q.le IntE.grow y.1) (Kr (l:=[1,2,0]) rfl V (by show (3:Nat)<_;omega))) ?_;refine gZ ?_;refine Qp (fun _=>?_) (fun e=>absurd e (by decide));refine gZ ?_;refine t_pu (c42 _ _) ?_;refine gZ ?_;refine t_pu (c42 _ _) ?_;refine gZ ?_;refine J2 Ya Yk (by decide) (by decide) (cells:=#[.int .i64 1,.int .i64 0,.int .i64 16,.int .i64 20,.int .i64 2,.int .i64 0,.int .i64 16,.int .i64 20]) (by kernel_rfl) fun g0 Y O _ W=>?_;refine gZ ?_;have m:=LH.le_trans y O;refine t_pu (c30 (u.le G3 m.1) (b:=[⟨1,0,⟨16,20⟩⟩,⟨2,0,⟨16,20⟩⟩]) ?_) ?_
 ·refine⟨rfl,by show (2:Nat)<_;omega,?_⟩;have t:∀ {i j:Nat} {v:Value},(#[.int .i64 1,.int .i64 0,.int .i64 16,.int .i64 20,.int .i64 2,.int .i64 0,.int .i64 16,.int .i64 20]:Array Value)[i+j]?=some v->Y.get.cell? (Addr.add (Addr.add ⟨g0,0,none⟩ i) j)=some v:=by
   intro i j v hv;rw[Ql,Ql,Nat.zero_add];exact cell_row W hv
  intro i x A
  match i,A with
  | 0,A=>cases A;exact⟨_,rfl,t rfl,t rfl,t rfl,t rfl⟩
  | 1,A=>cases A;exact⟨_,rfl,t rfl,t rfl,t rfl,t rfl⟩
  | i+2,A=>simp at A
 refine gZ ?_;have s:=LH.le_trans (LH.le_trans d p) m;refine Qg ⟨by simp,(Rd.of_le le.1).trans (g.trans (Rd.of_le s.1)),by rw[s.2.1,J],by rw[s.2.2.1,P],by rw[s.2.2.2,Q,le.2.2.2]⟩
end
section
attribute [local irreducible] T.wp CV FWK
def Fin(h:LH):Value->LH->Prop:=fun r h'=>r=.bool true/\h'.chans=[]/\h'.pend=[]/\h'.todo=h.todo
theorem fin_shown{h h':LH}(a:h.chans=[])(b:h.pend=[])(i:Parts h.get)(hle:h.le h'):FW XT Tryz.prog 8 #[] h' (Fin h):=by
 refine FW.mono (c16 (by rw[hle.2.1,a]) (by rw[hle.2.2.1,b]) (i.le hle.1)) ?_;rintro v c ⟨d,_,e,f,g⟩;exact⟨d,e,f,by rw[g,hle.2.2.2]⟩
theorem Uj{h h':LH}{k:Bool->T}{Q:Leaf->LH->Prop}(b:h.chans=[])(c:h.pend=[])(f:Parts h.get)(hle:h.le h')(e:∀ a,a.chans=[]/\a.pend=[]/\a.todo=h.todo->(k true).wp XT Tryz.prog Q a) :
  (T.call false 8 #[] fun v=>T.unB v k).wp XT Tryz.prog Q h':=by
 refine Ji (fin_shown b c f hle) ?_;rintro _ a ⟨rfl,d⟩;exact gC (e a d)
end
section
attribute [local irreducible] T.wp CV FWK
def SpanEnc(x:Span)(ws:List Value):Prop:=ws=[.int .i64 x.first,.int .i64 x.last]
theorem SpanEnc.len:∀ x ws,SpanEnc x ws->ws.length=2:=by rintro x _ rfl;rfl
theorem SpanEnc.e{h':Cells}:∀ a x ws,SpanEnc x ws->(∀ (j:Nat) w,ws[j]?=some w->h'.cell? (a.add j)=some w)->SpanE h' a x:=by
 rintro a x _ rfl hc;exact⟨hc 0 _ rfl,hc 1 _ rfl⟩
section
variable {X:XP} {Q:Leaf->LH->Prop}
end
end
end Go.Y
section
namespace Go.TM.Tp
def spanO(o:Option (Nat×Nat)):Span:=match o with
 | some p=>⟨p.1,p.2⟩
 | none=>⟨0,0⟩
def numO(o:Option Nat):Int:=match o with
 | some n=>n
 | none=>0
def listO(o:Option (List Nat)):List Int:=match o with
 | some l=>ints l
 | none=>[]
def useO(o:Option (List Nat)):Option LU:=match o with
 | some [a,b,c,d]=>some (.use a b c d)
 | _=>none
theorem itemU_use(f:List Bs):itemU wUse f=useO (numsL f):=by
 unfold itemU;rw[if_pos rfl];cases numsL f with
 | none=>rfl
 | some m =>
  match m with
  | []=>rfl
  | [_]=>rfl
  | [_,_]=>rfl
  | [_,_,_]=>rfl
  | [_,_,_,_]=>rfl
  | _::_::_::_::_::_=>rfl
theorem itemU_excuse(x:Bs):itemU wExcuse [x]=(rangeL x).map fun p=>.excuse p.1 p.2:=by
 unfold itemU;rw[if_neg (by decide),if_pos rfl]
theorem itemU_excuse'{f:List Bs}(h:f.length≠1):itemU wExcuse f=none:=by
 unfold itemU;rw[if_neg (by decide),if_pos rfl]
 match f,h with
 | [],_=>rfl
 | [x],h=>exact absurd rfl h
 | x::y::f,_=>rfl
theorem itemU_paper(x y z:Bs):itemU wPaper [x,y,z]=(rangeL x).bind fun p=>(numL y).bind fun l=>(listL z).map fun m=>.paper p.1 p.2 l m:=by
 unfold itemU;rw[if_neg (by decide),if_neg (by decide),if_pos rfl]
theorem itemU_request(x y z:Bs):itemU wRequest [x,y,z]=(numL x).bind fun d=>(numL y).bind fun l=>(listL z).map fun m=>.request d l m:=by
 unfold itemU;rw[if_neg (by decide),if_neg (by decide),if_neg (by decide),if_pos rfl]
theorem itemU_paper'{f:List Bs}(h:f.length≠3):itemU wPaper f=none:=by
 unfold itemU;rw[if_neg (by decide),if_neg (by decide),if_pos rfl]
 match f,h with
 | [],_=>rfl
 | [x],_=>rfl
 | [x,y],_=>rfl
 | [x,y,z],h=>exact absurd rfl h
 | x::y::z::w::f,_=>rfl
theorem itemU_request'{f:List Bs}(h:f.length≠3):itemU wRequest f=none:=by
 unfold itemU;rw[if_neg (by decide),if_neg (by decide),if_neg (by decide),if_pos rfl]
 match f,h with
 | [],_=>rfl
 | [x],_=>rfl
 | [x,y],_=>rfl
 | [x,y,z],h=>exact absurd rfl h
 | x::y::z::w::f,_=>rfl
def putX(u:UseFile)(x:Span):UseFile:={ u with excuses:=u.excuses++[x] }
def putP(u:UseFile)(x:Paper):UseFile:={ u with papers:=u.papers++[x] }
def putR(u:UseFile)(x:Request):UseFile:={ u with requests:=u.requests++[x] }
end Go.TM.Tp
namespace Go.Y.Txt
open Go.TM.Tp
open Go.Lib (decDigits)
attribute [local irreducible] T.wp CV FWK
def Few(u:UseFile):Prop:=u.excuses.length<=2^20/\u.papers.length<=2^20/\u.requests.length<=2^20
end Go.Y.Txt
end
section
namespace Go.TM.Tp
variable {n p:Nat}{u:UseFile}
theorem go_fail{b:Bs}{bs:List Bs}(h:∀ x,lineU b=some x->x.place<p\/(x.place=0↔n≠0)):goU n p u (b::bs)=(u,some (n+1)):=by
 rw[goU];cases e:lineU b with
 | none=>rfl
 | some x=>simp only[];rw[if_pos (h x e)]
theorem go_next{b:Bs}{bs:List Bs}{x:LU}(e:lineU b=some x)(h:¬ (x.place<p\/(x.place=0↔n≠0))):goU n p u (b::bs)=goU (n+1) x.place (x.put u) bs:=by
 rw[goU,e];simp only[];rw[if_neg h]
theorem put_len(u:UseFile)(x:LU):(x.put u).excuses.length<=u.excuses.length+1/\(x.put u).papers.length<=u.papers.length+1/\(x.put u).requests.length<=u.requests.length+1:=by
 cases x<;>simp[LU.put]
def ParseA(x:UseFile×Nat×Int)(r:Value)(h:LH):Prop:=∃ f,r=.tuple #[fileV f x.1,.int .i64 (x.2.1:Int),.int .i64 x.2.2]/\FileR h.get f x.1
theorem ParseA.none{n:Nat}{f:Int}{h:LH}:ParseA (noFile,n,f) (.tuple #[.agg #[.int .i64 0,.int .i64 0,.int .i64 0,.int .i64 0,.slice none 0 0,.slice none 0 0,.slice none 0 0],.int .i64 (n:Int),f]) h :=
 ⟨⟨.none,0,0,.none,0,0,.none,0,0⟩,rfl,⟨rfl,by simp[noFile],fun i x a=>by simp[noFile]at a⟩,⟨rfl,by simp[noFile],fun i x a=>by simp[noFile]at a⟩,⟨rfl,by simp[noFile],fun i x a=>by simp[noFile]at a⟩⟩
theorem parse_wrong{t:Bs}(h:¬ 60000<t.length)(e:goU 0 0 noFile (linesL t)=(u,some n)):parseU t=(noFile,n,3):=by
 unfold parseU;rw[if_neg h,e]
theorem parse_right{t:Bs}(h:¬ 60000<t.length)(e:goU 0 0 noFile (linesL t)=(u,none)):parseU t=if linesL t=[] then (noFile,0,3) else if checkF u≠0 then (noFile,0,checkF u) else (u,0,0):=by
 unfold parseU;rw[if_neg h,e]
end Go.TM.Tp
namespace Go.Y.Txt
open Go.TM.Tp
open Go.Lib (decDigits)
attribute [local irreducible] T.wp CV FWK
end Go.Y.Txt
end
section
namespace Go.Y
set_option maxHeartbeats 0
set_option linter.unusedVariables false
variable {X:XP} {h:LH} {A:Value->LH->Prop}
variable {a b c d e f g i j k l m:Int}{n o p q r s t u v w x y z:Nat}{B C D E F G H I J K L M:Option Addr}
theorem w2025:FX X 55 #[.slice B n o,.slice C p q] h A (bif (↑n:Int) != (↑p:Int) then .rt (.bool false) else .loop [false,.int .i64 0] (fun b=>.popB b fun c b=>.pi b fun a b=>.unNil b (bif decide (a<(↑n:Int)) then .need (0<=a/\a<(↑n:Int)) (.someA B fun d=>.li ((d.add (a.toNat*2)).add 0) fun f=>.li ((d.add (a.toNat*2)).add 1) fun g=>.need (0<=a/\a<(↑p:Int)) (.someA C fun e=>.li ((e.add (a.toNat*2)).add 0) fun i=>.li ((e.add (a.toNat*2)).add 1) fun j=>.sem false (Sem.bind (eqGuard BinOp.neq 46 (Operand.tmp 20) (Operand.tmp 24) (.agg #[f,g]) (.agg #[i,j])) fun s=>binOp BinOp.neq 46 (.agg #[f,g]) (.agg #[i,j])) fun r=>.unB r fun m=>.need (0<=a/\a<(↑p:Int)) (.someA C fun k=>.ne (.pointer (some (k.add (a.toNat*2)))) (.pointer (some (e.add (a.toNat*2)))) (.nds [a,.S C p q] (.need (0<=a/\a<(↑n:Int)) (.someA B fun l=>.ne (.pointer (some (l.add (a.toNat*2)))) (.pointer (some (d.add (a.toNat*2)))) (.nds [a,.S B n o] (bif m then .rn [false,a] else .ag [c,.int .i64 (wrap .i64 (a+1))])))))))) else .bk [c,a])) (fun b=>.popB b fun c b=>.pi b fun a b=>.unNil b (.rt (.bool true))) (fun b=>.popB b fun c b=>.pi b fun a b=>.unNil b (.rt (.bool c))) fun t u=>.fail):=fk [] [⟨0,[(4,.bool),(5,.int .i64)],[],[],[],[]⟩] [] Tryz.f55
end Go.Y
end
section
namespace Go.Y.Txt
open Go.TM.Tp
attribute [local irreducible] T.wp CV FWK
theorem two30':twoInts Tryz.prog 46=true:=by kernel_rfl
theorem g30':Tryz.prog.eqGuardType Tryz.prog.depth 46=false:=by kernel_rfl
theorem c2025s{h:LH}{p q:Option Addr}{n c m d:Nat}{a:List Span}(b:Sl SpanE 2 h.get p n a)(hb:Sl SpanE 2 h.get q m a):Pu Tryz.prog 55 #[.slice p n c,.slice q m d] h (.bool true):=by
 refine w2025 Qn ?_;have D:=b.1;have hm:=hb.1;have s:=b.2.1;refine Qp (fun e=>?_) (fun e=>?_)
 ·have:n=m:=by omega
  subst this;simp at e
 refine Q1 (fun j k h'=>h=h'/\∃ i:Nat,k=[.bool false,.int .i64 i]/\i<=n/\j=n-i) ⟨rfl,0,rfl,Nat.zero_le _,rfl⟩ ?_;rintro Y j k _ l ⟨rfl,i,rfl,C,rfl⟩;refine yJ (fun e=>?_) (fun e=>?_)
 ·obtain⟨x,u,t,o,w,A⟩:=b.at (i:=i) (by omega);obtain⟨y,v,g,r,z,B⟩:=hb.at (i:=i) (by omega);rw[t]at g;cases g;refine gZ ?_;refine Yc two30' g30' ?_;refine yI (fun f=>?_) (fun f=>?_)
  ·simp at f
  ·refine Qi (l (n-(i+1)) _ _ (by omega) ⟨rfl,i+1,?_,by omega,rfl⟩);rw[Qh (by omega) (by omega)];rfl
 ·refine gZ ?_;exact Qg ⟨rfl,rfl⟩
theorem c3708{h:LH}{f g:FileC}{u:UseFile}(c:FileR h.get f u)(j:FileR h.get g u):Pu Tryz.prog 13 #[fileV f u,fileV g u] h (.bool true):=by
 refine w3708 Qn ?_;have n5:f.n5=g.n5:=by have:=c.papers.1;have:=j.papers.1;omega
 have n6:f.n6=g.n6:=by have:=c.requests.1;have:=j.requests.1;omega
 refine Jd (fun a h'=>a=[.bool false]/\h=h') ?_ ?_
 ·refine Qp (fun e=>by simp at e) (fun _=>?_);refine Qp (fun e=>by simp at e) (fun _=>?_);refine Qp (fun e=>by simp at e) (fun _=>?_);refine Qp (fun e=>by simp at e) (fun _=>?_);refine t_pu (c2025s c.excuses j.excuses) ?_;refine gZ ?_;refine Qp (fun e=>by simp at e) (fun _=>?_);refine Qp (fun e=>by rw[n5]at e;simp at e) (fun _=>?_);refine Qp (fun e=>by rw[n6]at e;simp at e) (fun _=>?_);exact Qi ⟨rfl,rfl⟩
 rintro a _ ⟨rfl,rfl⟩;refine gZ ?_;refine J9 (fun n a h'=>h=h'/\∃ i:Nat,a=[.bool false,.int .i64 i]/\i<=f.n5/\n=f.n5-i) (fun a h'=>h=h'/\∃ i:Int,a=[.bool false,.int .i64 i]) ⟨rfl,0,rfl,Nat.zero_le _,rfl⟩ ?_ ?_
 ·rintro Y n a _ p ⟨rfl,i,rfl,F,rfl⟩;have G:=c.papers.1;have t:=c.papers.2.1;have hm:=j.papers.1;refine yJ (fun e=>?_) (fun e=>?_)
  ·obtain⟨x,D,w,r,H,I,N,q,m,o,J,B⟩:=c.papers.at (i:=i) (by omega);obtain⟨y,E,l,s,K,L,O,A,z,d,M,C⟩:=j.papers.at (i:=i) (by omega);rw[w]at l;cases l;have v:0<=(i:Int)/\(i:Int)<(f.n5:Int):=by omega
   have k:0<=(i:Int)/\(i:Int)<(g.n5:Int):=by omega
   refine Jd (fun a h'=>a=[.int .i64 x.days.first,.int .i64 x.days.last,.int .i64 x.land,.slice q m o,.int .i64 x.days.first,.int .i64 x.days.last,.int .i64 x.land,.slice A z d]/\h=h') ?_ ?_
   ·refine gZ ?_;refine Zt ?_ ?_<;>refine gZ ?_<;>exact Qi ⟨rfl,rfl⟩
   rintro a _ ⟨rfl,rfl⟩;refine gZ ?_;refine Yc two30' g30' ?_;refine gZ ?_;refine Qp (fun b=>by simp at b) (fun _=>?_);refine Qp (fun b=>by simp at b) (fun _=>?_);refine t_pu (c35 B C) ?_;refine gZ ?_;refine Qp (fun b=>by simp at b) (fun _=>?_);refine Qi (p (f.n5-(i+1)) _ _ (by omega) ⟨rfl,i+1,?_,by omega,rfl⟩);rw[Qh (by omega) (by omega)];rfl
  ·exact gH ⟨rfl,_,rfl⟩
 rintro a _ ⟨rfl,i0,rfl⟩;refine gZ ?_;refine J9 (fun n a h'=>h=h'/\∃ i:Nat,a=[.bool false,.int .i64 i]/\i<=f.n6/\n=f.n6-i) (fun a h'=>h=h'/\∃ i:Int,a=[.bool false,.int .i64 i]) ⟨rfl,0,rfl,Nat.zero_le _,rfl⟩ ?_ ?_
 ·rintro Y n a _ p ⟨rfl,i,rfl,F,rfl⟩;have G:=c.requests.1;have t:=c.requests.2.1;have hm:=j.requests.1;refine yJ (fun e=>?_) (fun e=>?_)
  ·obtain⟨x,D,w,r,H,I,q,m,o,J,B⟩:=c.requests.at (i:=i) (by omega);obtain⟨y,E,l,s,K,L,A,z,d,M,C⟩:=j.requests.at (i:=i) (by omega);rw[w]at l;cases l;have v:0<=(i:Int)/\(i:Int)<(f.n6:Int):=by omega
   have k:0<=(i:Int)/\(i:Int)<(g.n6:Int):=by omega
   refine Jd (fun a h'=>a=[.int .i64 x.day,.int .i64 x.land,.slice q m o,.int .i64 x.day,.int .i64 x.land,.slice A z d]/\h=h') ?_ ?_
   ·refine gZ ?_;refine Zt ?_ ?_<;>refine gZ ?_<;>exact Qi ⟨rfl,rfl⟩
   rintro a _ ⟨rfl,rfl⟩;refine gZ ?_;refine Qp (fun b=>by simp at b) (fun _=>?_);refine Qp (fun b=>by simp at b) (fun _=>?_);refine t_pu (c35 B C) ?_;refine gZ ?_;refine Qp (fun b=>by simp at b) (fun _=>?_);refine Qi (p (f.n6-(i+1)) _ _ (by omega) ⟨rfl,i+1,?_,by omega,rfl⟩);rw[Qh (by omega) (by omega)];rfl
  ·exact gH ⟨rfl,_,rfl⟩
 rintro a _ ⟨rfl,i0,rfl⟩;refine gZ ?_;exact Qg ⟨rfl,rfl⟩
end Go.Y.Txt
end
section
namespace Go.TM.Tp
theorem Di{l:Bs}(h:1<=l.length):∃ x,l.getLast?=some x/\l.drop (l.length-1)=[x]/\l.take (l.length-1)=l.dropLast:=by
 have a:=List.getElem?_eq_getElem (show l.length-1<l.length by omega);refine⟨l[l.length-1],by rw[List.getLast?_eq_getElem?,a],?_,List.dropLast_eq_take.symm⟩;rw[List.drop_eq_getElem_cons (show l.length-1<l.length by omega),List.drop_eq_nil_of_le (by omega)]
def trimS(c:UInt8)(l:Bs):Bs:=if l.getLast?=some c then l.dropLast else l
end Go.TM.Tp
namespace Go.Y.Txt
open Go.TM.Tp
attribute [local irreducible] T.wp CV FWK
variable {h:LH}
theorem c3772(l:Bs)(c:UInt8)(g:l.length<=2^40):Pu Tryz.prog 157 #[.string (str l),.string (str [c])] h (.bool (decide (l.getLast?=some c))):=by
 refine w3772 Qn ?_;refine Ja undS ?_;refine gZ ?_;refine Ja undS ?_;refine yJ (fun e=>?_) (fun e=>?_)
 ·have b:1<=l.length:=by simp at e;omega
  obtain⟨x,f,d,_⟩:=Di b;refine Ja undS ?_;refine gZ ?_;refine Ja undS ?_;refine gZ ?_;have w1:wrap .i64 ((l.length:Int)-([c].length:Int))=((l.length-1:Nat):Int):=by
   rw[show ([c].length:Int)=1 from rfl,Qh (by omega) (by omega)];omega
  rw[w1];refine W5 undS (by omega) ?_;refine Qq ?_;refine gZ ?_;rw[d];refine Gj undS ?_;refine gZ ?_;refine Qg ⟨?_,rfl⟩;rw[f];simp
 ·have:l=[]:=by
   cases l with
   | nil=>rfl
   | cons a l=>simp at e;omega
  subst this;exact Qg ⟨by simp,rfl⟩
theorem c3752(l:Bs)(c:UInt8)(f:l.length<=2^40):Pu Tryz.prog 103 #[.string (str l),.string (str [c])] h (.string (str (trimS c l))):=by
 refine w3752 Qn ?_;refine t_pu (c3772 l c f) ?_;refine gZ ?_;unfold trimS;refine Qp (fun e=>?_) (fun e=>?_)
 ·have b:l.getLast?=some c:=by simpa using e
  have d:1<=l.length:=by cases l with
   | nil=>simp at b
   | cons a l=>simp
  obtain⟨x,j,i,g⟩:=Di d;refine Ja undS ?_;refine gZ ?_;refine Ja undS ?_;refine gZ ?_;have w1:wrap .i64 ((l.length:Int)-([c].length:Int))=((l.length-1:Nat):Int):=by
   rw[show ([c].length:Int)=1 from rfl,Qh (by omega) (by omega)];omega
  rw[w1];refine Wg undS (by omega) ?_;refine Qq ?_;refine gZ ?_;rw[g,if_pos b];exact Qg ⟨rfl,rfl⟩
 ·rw[if_neg (by simpa using e)];exact Qg ⟨rfl,rfl⟩
theorem c3728(l:Bs)(c:UInt8)(a:l.length<=2^40):Pu Tryz.prog 49 #[.string (str l),.string (str [c])] h (.string (str (trimS c l))):=by
 refine w3728 Qn ?_;refine t_pu (c3752 l c a) ?_;refine Qq ?_;refine gZ ?_;exact Qg ⟨rfl,rfl⟩
theorem c3769(l:Bs)(c:UInt8)(f:l.length<=2^40):Pu Tryz.prog 153 #[.string (str l),.string (str [c])] h (.tuple #[.string (str (trimS c l)),.bool (decide (l.getLast?=some c))]):=by
 refine w3769 Qn ?_;refine t_pu (c3772 l c f) ?_;refine gZ ?_;unfold trimS;refine Qp (fun e=>?_) (fun e=>?_)
 ·have b:¬ l.getLast?=some c:=by simpa using e
  rw[if_neg b,decide_eq_false b];exact Qg ⟨rfl,rfl⟩
 ·have b:l.getLast?=some c:=by simpa using e
  have d:1<=l.length:=by cases l with
   | nil=>simp at b
   | cons a l=>simp
  obtain⟨x,j,i,g⟩:=Di d;refine Ja undS ?_;refine gZ ?_;refine Ja undS ?_;refine gZ ?_;have w1:wrap .i64 ((l.length:Int)-([c].length:Int))=((l.length-1:Nat):Int):=by
   rw[show ([c].length:Int)=1 from rfl,Qh (by omega) (by omega)];omega
  rw[w1];refine Wg undS (by omega) ?_;refine Qq ?_;refine gZ ?_;rw[g,if_pos b,decide_eq_true b];exact Qg ⟨rfl,rfl⟩
theorem c3745(l:Bs)(c:UInt8)(a:l.length<=2^40):Pu Tryz.prog 96 #[.string (str l),.string (str [c])] h (.tuple #[.string (str (trimS c l)),.bool (decide (l.getLast?=some c))]):=by
 refine w3745 Qn ?_;refine t_pu (c3769 l c a) ?_;refine gZ ?_;refine Qq ?_;refine gZ ?_;exact Qg ⟨rfl,rfl⟩
end Go.Y.Txt
end
section
namespace Go.Y
set_option maxHeartbeats 0
set_option linter.unusedVariables false
variable {X:XP} {h:LH} {A:Value->LH->Prop}
variable {a b c d e f g i j k l m:Int}{n o p q r s t u v w x y z:Nat}{B C D E F G H I J K L M:Option Addr}
theorem w3573{b:ByteArray}:FX X 151 #[.string b,.int .u8 a] h A (.callv false (.func (Fn.func 174) #[] #[]) #[.string b,.int .u8 a] fun d=>.ui d fun c=>.rt (.int .i64 c)):=fk [] [] [] Tryz.f151
theorem w3569{b:ByteArray}:FX X 94 #[.string b,.int .u8 a] h A (.cI 151 #[.string b,.int .u8 a] fun c=>.rt (.int .i64 c)):=fk [] [] [] Tryz.f94
end Go.Y
end
section
namespace Go.Y.Txt
open Go.TM.Tp
attribute [local irreducible] T.wp CV FWK
variable {h:LH}
theorem cv_indexByte{X:XP}(l:Bs)(c:UInt8):CV X Tryz.prog (.func (.func 174) #[] #[]) #[.string (str l),.int .u8 (c.toNat:Int)] h (fun r h'=>r=.int .i64 (firstI c l)/\h'=h):=by
 refine K0 (e:=Extern.BytealgIndexByte.indexByte) (fd:=Tryz.f174) (by kernel_rfl) (by kernel_rfl) (by kernel_rfl) (by kernel_rfl) (by kernel_rfl) ?_;exact lwp_indexByte ⟨rfl,rfl⟩
theorem c3573(l:Bs)(c:UInt8):Pu Tryz.prog 151 #[.string (str l),.int .u8 (c.toNat:Int)] h (.int .i64 (firstI c l)):=by
 refine w3573 Qn ?_;refine Q7 (cv_indexByte l c) ?_;rintro _ _ ⟨rfl,rfl⟩;refine gZ ?_;exact Qg ⟨rfl,rfl⟩
theorem c3569(l:Bs)(c:UInt8):Pu Tryz.prog 94 #[.string (str l),.int .u8 (c.toNat:Int)] h (.int .i64 (firstI c l)):=by
 refine w3569 Qn ?_;refine t_pu (c3573 l c) ?_;refine gZ ?_;exact Qg ⟨rfl,rfl⟩
theorem c3776(l:Bs)(c:UInt8):Pu Tryz.prog 175 #[.string (str l),.string (str [c])] h (.int .i64 (firstI c l)):=by
 refine w3776 Qn ?_;refine Ja undS ?_;refine gZ ?_;refine Jd (fun b h'=>False) ?_ (fun _ _ d=>d.elim);refine Jd (fun b h'=>b=[.bool (decide ([c]=l))]/\h=h') ?_ ?_
 ·refine Qp (fun e=>by simp at e) (fun _=>?_);refine Gj undS ?_;refine gZ ?_;exact Qi ⟨rfl,rfl⟩
 rintro b _ ⟨rfl,rfl⟩;refine yI (fun e=>?_) (fun e=>?_)
 ·have:[c]=l:=by simpa using e
  subst this;refine gZ ?_;refine Qg ⟨?_,rfl⟩;have:=Wb (c:=c) (a:=[]) (r:=[]) (by simp);simp at this;rw[this]
 ·refine Qp (fun _=>?_) (fun e=>by simp at e);refine Z2 (i:=0) undS (c:=c) rfl ?_;refine gZ ?_;refine t_pu (c3573 l c) ?_;refine gZ ?_;exact Qg ⟨rfl,rfl⟩
theorem c3779(l:Bs)(c:UInt8):Pu Tryz.prog 178 #[.string (str l),.string (str [c])] h (.int .i64 (firstI c l)):=by
 refine w3779 Qn ?_;refine t_pu (c3776 l c) ?_;refine gZ ?_;exact Qg ⟨rfl,rfl⟩
end Go.Y.Txt
end
section
namespace Go.TM.Tp
def cutV(c:UInt8)(l:Bs):Bs×Bs×Bool:=match cut c l with
 | a::_::_=>(a,l.drop (a.length+1),true)
 | _=>(l,[],false)
theorem Dp{c:UInt8}{l:Bs}(h:c∉l):cutV c l=(l,[],false):=by unfold cutV;rw[Zg h]
theorem Do{c:UInt8}{a r:Bs}(h:c∉a):cutV c (a++c::r)=(a,r,true):=by
 unfold cutV;rw[Zr h];have:=Kq c r;cases e:cut c r with
 | nil=>exact absurd e this
 | cons x y=>simp
end Go.TM.Tp
namespace Go.Y.Txt
open Go.TM.Tp
attribute [local irreducible] T.wp CV FWK
theorem c3768{h:LH}(l:Bs)(c:UInt8)(i:l.length<=2^40):Pu Tryz.prog 152 #[.string (str l),.string (str [c])] h (.tuple #[.string (str (cutV c l).1),.string (str (cutV c l).2.1),.bool (cutV c l).2.2]):=by
 refine w3768 Qn ?_;refine t_pu (c3776 l c) ?_;rcases Zp c l with b|⟨a,r,rfl,b⟩
 ·rw[Hh b,Dp b];refine gZ ?_;refine t_if (fun e=>by omega) (fun _=>?_);exact Qg ⟨rfl,rfl⟩
 ·rw[Wb b,Do b];have hlen:(a++c::r).length=a.length+r.length+1:=by simp;omega
  have g:(a++c::r).take a.length=a:=by simp
  have f:(a++c::r).drop (a.length+1)=r:=by simp
  have w1:wrap .i64 ((a.length:Int)+([c].length:Int))=((a.length+1:Nat):Int):=by
   rw[show ([c].length:Int)=1 from rfl,Qh (by omega) (by omega)];rfl
  have hle:a.length<=(a++c::r).length:=by omega
  have d:a.length+1<=(a++c::r).length:=by omega
  refine gZ ?_;refine t_if (fun _=>?_) (fun e=>by omega)
  repeat' (first|(with_reducible first|apply Zt|refine Wg undS hle ?_|refine Ja undS ?_|refine W5 undS d ?_|apply Qq|exact Qg ⟨rfl,rfl⟩)|rw[w1]|rw[g]|rw[f]|refine gZ ?_)
theorem c3744{h:LH}(l:Bs)(c:UInt8)(a:l.length<=2^40):Pu Tryz.prog 95 #[.string (str l),.string (str [c])] h (.tuple #[.string (str (cutV c l).1),.string (str (cutV c l).2.1),.bool (cutV c l).2.2]):=by
 refine w3744 Qn ?_;refine t_pu (c3768 l c a) ?_;refine gZ ?_;refine Qq ?_;refine gZ ?_;refine Qq ?_;refine gZ ?_;exact Qg ⟨rfl,rfl⟩
end Go.Y.Txt
end
section
namespace Go.TM.Tp
variable {P:Program}{h h0:LH}{el:TypeId}{n r:Nat}
theorem cut_count(c:UInt8):∀ l:Bs,(cut c l).length=l.countP (fun b=>b==c)+1
 | []=>rfl
 | b::l=>by
  have d:=cut_count c l;have a:=Kq c l;unfold cut;split
  ·rename_i h;rw[List.length_cons,d,List.countP_cons_of_pos (by simp[h])]
  ·rename_i h;rw[List.countP_cons_of_neg (by simpa using h)];cases e:cut c l with
   | nil=>exact absurd e a
   | cons x y=>rw[e]at d;simpa using d
theorem fold_count(c:UInt8)(l:Bs)(n:Int):l.foldl (fun (n:Int) x=>if (x==c)=true then n+1 else n) n=n+(l.countP (fun b=>b==c):Nat):=by
 induction l generalizing n with
 | nil=>simp
 | cons b l a =>
  rw[List.foldl_cons,a];by_cases h:(b==c)=true
  ·rw[if_pos h,List.countP_cons_of_pos (p:=fun b=>b==c) h];omega
  ·rw[if_neg h,List.countP_cons_of_neg (p:=fun b=>b==c) h]
theorem lwp_count{l:Bs}{c:UInt8}{Q:Value->Cells->Prop}{E:Halt->Cells->Prop}{h:Cells}(a:Q (.int .i64 (l.countP (fun b=>b==c):Nat)) h):Qc P (Extern.BytealgCount.count #[.string (str l),.int .u8 (c.toNat:Int)]) Q E h:=by
 show Qc P (do
  let b <- Extern.Bytes.bytesOf (.string (str l));let c <- Extern.Bytes.asByte (.int .u8 (c.toNat:Int))
  pure (goInt (b.foldl (fun (n:Int) x=>if x==c then n+1 else n) 0))) Q E h
 simp only[Extern.Bytes.bytesOf,Extern.Bytes.asByte,lwp_bind,Qe];have hc:((c.toNat:Int)).toNat.toUInt8=c:=by simp
 rw[hc,Go.Lib.foldl_data,str_data,fold_count,Int.zero_add];exact a
structure StrsR(el:TypeId)(n:Nat)(h0 h:LH)(r:Nat)(acc:List Bs):Prop where
 cells:∃ cs,h.get r=some (true,.cells cs el (0,0))/\cs.size=n/\∀ (j:Nat) x,acc[j]?=some x->cs[j]?=some (.string (str x))
 new:h0.get r=none
 le:h0.le h
theorem t_stS{X:XP}{Q:Leaf->LH->Prop}{i:Nat}{acc:List Bs}{a:Addr}{x:Bs}{k:T}(s:StrsR el n h0 h r acc)(u:acc.length=i)(v:i<n)(p:a=⟨r,i,none⟩)(t:∀ d,StrsR el n h0 d r (acc++[x])->k.wp X P Q d):(T.store a (.string (str x)) k).wp X P Q h:=by
 obtain⟨cs,d,m,o⟩:=s.cells;rw[p];refine Z0 d rfl (Array.getElem?_eq_getElem (by omega:i<cs.size)) fun f b hb=>?_;refine t f ⟨⟨_,hb,by simpa using m,fun j y c=>?_⟩,s.new,⟨fun q x l=>?_,b.2.1.trans s.le.2.1,b.2.2.1.trans s.le.2.2.1,b.2.2.2.trans s.le.2.2.2⟩⟩
 ·by_cases e:j=i
  ·subst e;rw[List.getElem?_append_right (by omega),u,Nat.sub_self]at c;simp at c;subst c;rw[Array.getElem?_setIfInBounds_self_of_lt (by omega)]
  ·rw[Array.getElem?_setIfInBounds_ne (Ne.symm e)];have g:j<(acc++[x]).length:=(List.getElem?_eq_some_iff.1 c).1;rw[List.length_append,List.length_singleton]at g;rw[List.getElem?_append_left (by omega)]at c;exact o j y c
 ·rw[b.1 q (fun e=>by rw[e,s.new]at l;cases l)];exact s.le.1 q x l
theorem StrsR.sl{c:Nat}{acc:List Bs}(s:StrsR el n h0 h r acc)(hb:acc.length<4611686018427387904)(hc:acc.length<=c):BsS h (some ⟨r,0,none⟩) acc.length c acc:=by
 obtain⟨cs,a,e,b⟩:=s.cells;refine⟨hc,rfl,hb,fun i x d=>⟨_,rfl,?_⟩⟩;unfold BsE;rw[Ql,Ql,Nat.zero_add,Nat.mul_one,Nat.add_zero];exact Jx a (b i x d)
end Go.TM.Tp
end
section
namespace Go.TM.Tp
def isNilI:Value->Bool
 | .nilIface=>true
 | _=>false
def IsI(v:Value):Prop:=v=.nilIface\/∃ t w,v=.iface t w
def isConst:Operand->Bool
 | .const _=>true
 | _=>false
section
variable {P:Program} {E:Halt->Cells->Prop} {h:Cells}
variable {t tx ty:TypeId}{v w:Value}
theorem W8{Q:Bool->Cells->Prop}{ms:Array (String×TypeId)}(hu:P.underlying t=some (.interface ms))(hv:IsI v)(b:Q (isNilI v) h):Qc P (Op.equal t v .nilIface) Q E h:=by
 unfold Op.equal;have a:Op.maxDepth=9999+1:=rfl;rw[a,Op.equalIn,lwp_bind,Qa hu];rcases hv with rfl|⟨u,w,rfl⟩
 ·exact b
 ·exact b
theorem lwp_eqOther{Q:Bool->Cells->Prop}{ms:Array (String×TypeId)}(hu:P.underlying t=some (.interface ms))(b:tx≠ty)(c:Q false h):Qc P (Op.equal t (.iface tx v) (.iface ty w)) Q E h:=by
 unfold Op.equal;have a:Op.maxDepth=9999+1:=rfl;rw[a,Op.equalIn,lwp_bind,Qa hu];simp only[];rw[if_pos b];exact c
theorem lwp_eqNilL{Q:Bool->Cells->Prop}{ms:Array (String×TypeId)}(hu:P.underlying t=some (.interface ms))(b:Q false h):Qc P (Op.equal t .nilIface (.iface ty w)) Q E h:=by
 unfold Op.equal;have a:Op.maxDepth=9999+1:=rfl;rw[a,Op.equalIn,lwp_bind,Qa hu];exact b
theorem lwp_eqSelf{Q:Bool->Cells->Prop}{b:TypeId}{ms:Array (String×TypeId)}{i j:TypeInfo}{p:Option Addr}(hu:P.underlying t=some (.interface ms))(f:P.underlying tx=some (.pointer b))(c:P.info? tx=some i)(hc:i.comparable=true)(d:P.info? b=some j)(h0:j.size≠0)(e:Q true h):Qc P (Op.equal t (.iface tx (.pointer p)) (.iface tx (.pointer p))) Q E h:=by
 unfold Op.equal;have a:Op.maxDepth=9998+1+1:=rfl;rw[a,Op.equalIn,lwp_bind,Qa hu];simp only[];rw[if_neg (fun h=>h rfl),lwp_bind,Jl c,hc];simp only[Bool.not_true,Bool.false_eq_true,if_false];exact Dh f d h0 (.inr (.inr rfl)) (by rw[decide_eq_true rfl];exact e)
end
section
variable {X:XP} {P:Program} {Q:Leaf->LH->Prop}
variable {h:LH}{K:Value->T}{t:TypeId}{x y:Operand}{v:Value}
theorem D2{ms:Array (String×TypeId)}(hu:P.underlying t=some (.interface ms))(hv:IsI v)(b:isConst y=true)(a:(K (.bool (isNilI v))).wp X P Q h) :
  (T.sem false (Sem.bind (eqGuard .eql t x y v .nilIface) fun _=>binOp .eql t v .nilIface) K).wp X P Q h:=by
 refine Q6 (A:=fun w h'=>w=.bool (isNilI v)/\h'=h.get) (Qt _ _ ?_) (by rintro w h' ⟨rfl,rfl⟩;exact a);cases y with
 | const c =>
  rcases hv with rfl|⟨u,w,rfl⟩
  ·unfold eqGuard;simp only[Bool.not_true,Bool.false_eq_true,if_false,Bool.or_true,if_true,Qe];unfold binOp;simp only[lwp_bind];exact W8 hu (.inl rfl) ⟨rfl,rfl⟩
  ·unfold eqGuard;simp only[Bool.not_true,Bool.false_eq_true,if_false,Qe];unfold binOp;simp only[lwp_bind];exact W8 hu (.inr ⟨_,_,rfl⟩) ⟨rfl,rfl⟩
 | _=>cases b
theorem J1{ms:Array (String×TypeId)}(hu:P.underlying t=some (.interface ms))(hv:IsI v)(b:isConst y=true)(a:(K (.bool (!isNilI v))).wp X P Q h) :
  (T.sem false (Sem.bind (eqGuard .neq t x y v .nilIface) fun _=>binOp .neq t v .nilIface) K).wp X P Q h:=by
 refine Q6 (A:=fun w h'=>w=.bool (!isNilI v)/\h'=h.get) (Qt _ _ ?_) (by rintro w h' ⟨rfl,rfl⟩;exact a);cases y with
 | const c =>
  rcases hv with rfl|⟨u,w,rfl⟩
  ·unfold eqGuard;simp only[Bool.not_true,Bool.not_false,Bool.false_eq_true,if_false,Bool.or_true,if_true,Qe];unfold binOp;simp only[lwp_bind];exact W8 hu (.inl rfl) ⟨rfl,rfl⟩
  ·unfold eqGuard;simp only[Bool.not_true,Bool.not_false,Bool.false_eq_true,if_false,Qe];unfold binOp;simp only[lwp_bind];exact W8 hu (.inr ⟨_,_,rfl⟩) ⟨rfl,rfl⟩
 | _=>cases b
theorem Yj{ty:TypeId}{w:Value}{c:Bool}(hc:Qc P (Op.equal t v (.iface ty w)) (fun b h'=>b=c/\h'=h.get) (fun _ _=>False) h.get)(hv:IsI v)(f:(K (.bool c)).wp X P Q h) :
  (T.sem false (Sem.bind (eqGuard .eql t x y v (.iface ty w)) fun _=>binOp .eql t v (.iface ty w)) K).wp X P Q h:=by
 refine Q6 (A:=fun w h'=>w=.bool c/\h'=h.get) (Qt _ _ ?_) (by rintro w h' ⟨rfl,rfl⟩;exact f);have a:=Q2 (Q':=fun b h'=>(Value.bool b)=.bool c/\h'=h.get) _ hc (fun b h' d=>⟨by rw[d.1],d.2⟩) fun _ _ e=>e;rcases hv with rfl|⟨u,w',rfl⟩
 ·unfold eqGuard;simp only[Bool.not_true,Bool.false_eq_true,if_false,Qe];unfold binOp;simp only[lwp_bind];exact a
 ·unfold eqGuard;simp only[Bool.not_true,Bool.false_eq_true,if_false,Qe];unfold binOp;simp only[lwp_bind];exact a
end
end Go.TM.Tp
end
section
namespace Go.TM.Tp
variable {el:TypeId}{r n:Nat}{h h':LH}
theorem Hm{k:Nat}{p:Option Addr}{c:Nat}{f:List Value}(s:∀ a,p=some a->a.block≠r)(b:But r h h')(o:OwnRow el k h.get p n c f):OwnRow el k h'.get p n c f:=by
 obtain⟨e,m|⟨q,cs,d,g,i,j,l⟩⟩:=o
 ·exact⟨e,.inl m⟩
 ·refine⟨e,.inr ⟨q,cs,d,?_,i,j,l⟩⟩;rw[b.1 q (s _ d)];exact g
structure Bld(B U:TypeId)(h0 h:LH)(r:Nat)(l:Bs):Prop where
 cells:∃ p q c,h.get r=some (true,.cells #[.pointer p,.slice q l.length c] B (0,0))/\(p=none\/p=some ⟨r,0,none⟩)/\OwnRow U 1 h.get q l.length c (l.map u8V)/\NewIn h0.get q/\∀ a,q=some a->a.block≠r
 new:h0.get r=none
 le:h0.le h
theorem Bld.grow{B U:TypeId}{h0:LH}{l:Bs}(b:Bld B U h0 h r l)(a:h.le h'):Bld B U h0 h' r l:=by
 obtain⟨p,q,c,d,e,f,g,i⟩:=b.cells;exact⟨⟨p,q,c,a.1 _ _ d,e,f.le a.1,g,i⟩,b.new,LH.le_trans b.le a⟩
section
variable {P:Program} {X:XP} {Q:Leaf->LH->Prop}
variable {h:LH}{K:Value->T}{t el ty:TypeId}{p:Option Addr}{c:Nat}
theorem t_capS{n:Nat}(hu:P.underlying t=some (.slice el))(a:(K (.int .i64 (c:Int))).wp X P Q h):(T.sem false (Builtin.cap_ #[t] ty #[.slice p n c]) K).wp X P Q h:=by
 refine Q6 (A:=fun v h'=>v=.int .i64 (c:Int)/\h'=h.get) ?_ (by rintro v h' ⟨rfl,rfl⟩;exact a);unfold Builtin.cap_;simp only[List.getElem?_toArray,List.getElem?_cons_zero,lwp_bind,Qa hu,Qe]
 first|exact⟨rfl,rfl⟩|exact⟨rfl,trivial⟩
theorem t_copyNone{t2:TypeId}{inf:TypeInfo}(hu:P.underlying t=some (.slice el))(b:P.info? el=some inf)(d:(K (.int .i64 0)).wp X P Q h):(T.sem false (Builtin.copy_ #[t,t2] ty #[.slice p 0 c,.slice none 0 0]) K).wp X P Q h:=by
 refine Q6 (A:=fun v h'=>v=.int .i64 0/\h'=h.get) ?_ (by rintro v h' ⟨rfl,rfl⟩;exact d);unfold Builtin.copy_;simp only[List.getElem?_toArray,List.getElem?_cons_zero,List.getElem?_cons_succ,lwp_bind,Qa hu,Qe,Builtin.lenOf,Qx b,Builtin.firstCells];cases p with
 | none=>exact⟨rfl,rfl⟩
 | some a=>exact⟨rfl,rfl⟩
end
theorem digits_size:∀ (n t:Nat) (acc:Array Value),(Extern.BytealgMakeNoZero.digits n t acc).size=acc.size+n
 | 0,_,_=>rfl
 | n+1,t,acc=>by
  unfold Extern.BytealgMakeNoZero.digits;rw[digits_size n,Array.size_push];omega
theorem lwp_makeNoZero{P:Program}{E:Halt->Cells->Prop}{h:Cells}{Q:Value->Cells->Prop}{ps:Array TypeId}{t:TypeId}(hu:P.underlying t=some (.slice el))(hn:n<=2^40)
 (hq:∀ r cs,h r=none->n<=cs.size->Q (.slice (some ⟨r,0,none⟩) n cs.size) (h.upd r (true,.cells cs el (0,0)))):Qc P (Extern.BytealgMakeNoZero.makeNoZero ps #[t] #[.int .i64 (n:Int)]) Q E h:=by
 show Qc P (underlying t >>= _) _ _ _;rw[lwp_bind,Qa hu];dsimp only;have hnb:¬ ((decide ((n:Int)<0)||decide ((n:Int)>2^48))=true):=by simp;omega
 rw[if_neg hnb];simp only[Qe,lwp_bind,Int.toNat_natCast];have hch:∀ {K:Nat->Cells->Prop},(∀ a,n<=a->K a h)->Qc P (choose (Question.appendCap n 0 el)) K E h:=by
  intro K hK;show (if _ then _ else _);split
  ·rename_i hf;simp[Question.forced]at hf
  ·intro t;exact hK _ (Nat.le_add_right _ _)
 refine hch fun a ha=>?_;have hroom':∀ {K:Unit->Cells->Prop},K () h->Qc P (askRoom a) K E h:=by
  intro K hK;unfold askRoom;split
  ·exact⟨.inl rfl,hK⟩
  ·exact hK
 refine hroom' ?_
 have hch2 : ∀ {K : Nat -> Cells -> Prop}, (∀ a, K a h) -> Qc P (choose (Question.extern "internal/bytealg.MakeNoZero.bytes" 0)) K E h := by
  intro K hK;show (if _ then _ else _);split
  ·exact hK _
  ·intro t;exact hK _
 refine hch2 fun b=>?_;refine J7 fun r hr=>?_;have hs:(Extern.BytealgMakeNoZero.digits a b #[]).size=a:=by rw[digits_size];simp
 have:=hq r (Extern.BytealgMakeNoZero.digits a b #[]) hr (by rw[hs];exact ha);rw[hs]at this;exact this
end Go.TM.Tp
namespace Go.Y.Txt
open Go.TM.Tp
attribute [local irreducible] T.wp CV FWK
abbrev BldR(h0 h:LH)(r:Nat)(l:Bs):Prop:=Bld 80 5 h0 h r l
variable {h0 h:LH}{r n:Nat}
theorem undBp:Tryz.prog.underlying 162=some (.pointer 5):=by kernel_rfl
theorem depth0:Tryz.prog.depth≠0:=of_decide_eq_true (by kernel_rfl)
theorem cellsU:Tryz.prog.cellsOf 5=1:=by kernel_rfl
theorem c3715{l s:Bs}(b:BldR h0 h r l)(C:l.length+s.length<=2^30) :
  FW X0 Tryz.prog 35 #[.pointer (some ⟨r,0,none⟩),.string (str s)] h fun v h'=>v=.tuple #[.int .i64 (s.length:Int),.nilIface]/\BldR h0 h' r (l++s):=by
 obtain⟨p,q,c,y,z,A,B,n⟩:=b.cells;refine w3715 Qn ?_;refine Ji (c3739 y z) ?_;rintro _ k ⟨rfl,t,d⟩;have j:h0.le k:=Ov.le_of b.le (t.ov b.new);have F:k.get.cell? ((⟨r,0,none⟩ : Addr).add 1)=some (.slice q l.length c):=Jx (i:=1) d rfl;refine gZ ?_;refine t_appStr rfl rfl undBy undS infU rfl (by omega) C (Hm n t A) fun x c' h' own kept f=>?_;have o:h' r=some (true,.cells #[.pointer (some ⟨r,0,none⟩),.slice q l.length c] 80 (0,0)):=kept r _ d n;have e:∀ a,x=some a->a.block≠r:=by
  intro a w;rcases f with rfl|⟨H,rfl,g⟩
  ·exact n a w
  ·cases w;rintro rfl;rw[d]at g;cases g
 obtain⟨D,E⟩:=after_append j.1 B kept f;refine gZ ?_;refine Z0 (h:={ k with get:=h' }) (i:=1) o rfl (by rfl) fun G u m=>?_;refine Ja undS ?_;refine gZ ?_;refine Qg ⟨rfl,⟨some ⟨r,0,none⟩,x,c',?_,.inr rfl,?_,E,e⟩,b.new,?_⟩
 ·rw[m,List.length_append];rfl
 ·rw[List.length_append,List.map_append];exact Hm e u own
 ·have:h0.le { k with get:=h' }:=⟨D,j.2⟩
  exact Ov.le_of this (u.ov b.new)
theorem c3721{l:Bs}(b:BldR h0 h r l)(H:l.length<=2^30) :
  FW X0 Tryz.prog 41 #[.pointer (some ⟨r,0,none⟩)] h fun v h'=>v=.string (str l)/\h0.le h':=by
 obtain⟨p,q,c,w,D,o,x,y⟩:=b.cells;refine w3721 Qn ?_;have z:h.get.cell? ((⟨r,0,none⟩ : Addr).add 1)=some (.slice q l.length c):=Jx (i:=1) w rfl;refine gZ ?_;refine t_sliceData undBp (fun a m=>?_) fun I h' hle t=>?_
 ·rcases o.2 with⟨g,_⟩|⟨u,cs,g,d,_⟩
  ·rw[g]at m;cases m
  ·rw[g]at m;cases m;exact⟨_,_,_,_,d⟩
 have e:=Qd hle.1 z;have k:=o.le hle.1;refine gZ ?_;have B:=o.le_cap;refine t_unsafeStr rfl undBp depth0 cellsU (by omega) (fun s=>?_) fun d n C=>?_
 ·have hlen:=List.length_pos_iff.2 s;rcases k.2 with⟨_,g,_⟩|⟨u,cs,g,d,F,G,A⟩
  ·omega
  ·have f:c≠0:=by omega
   exact⟨u,cs,_,(t f).trans g,d,by omega,A⟩
 have j:h0.le d/\d.get r=h'.get r:=by
  by_cases f:c=0
  ·rw[C (List.eq_nil_of_length_eq_zero (by omega))];exact⟨LH.le_trans b.le hle,rfl⟩
  ·rw[t f]at n;exact⟨n.le (LH.le_trans b.le hle) x,n.1 r y⟩
 have E:d.get.cell? ((⟨r,0,none⟩ : Addr).add 1)=some (.slice q l.length c):=by
  rw[Ql]at e ⊢;unfold Cells.cell? at e ⊢;rw[show d.get (Addr.block ⟨r,0+1,none⟩)=h'.get (Addr.block ⟨r,0+1,none⟩) from j.2];exact e
 refine gZ ?_;refine Qq ?_;refine gZ ?_;exact Qg ⟨rfl,j.1⟩
theorem noNoZero:Tryz.f172.resultTypes=#[78]:=by kernel_rfl
theorem cv_makeNoZero{X:XP}(n:Nat)(a:n<=2^40):CV X Tryz.prog (.func (.func 172) #[] #[]) #[.int .i64 (n:Int)] h (fun v h'=>∃ r cs,v=.slice (some ⟨r,0,none⟩) n cs.size/\h.get r=none/\n<=cs.size/\h'={ h with get:=h.get.upd r (true,.cells cs 5 (0,0)) }):=by
 refine K0 (e:=Extern.BytealgMakeNoZero.makeNoZero Tryz.f172.params Tryz.f172.resultTypes) (fd:=Tryz.f172) (by kernel_rfl) (by kernel_rfl) (by kernel_rfl) (by kernel_rfl) (by kernel_rfl) ?_;rw[noNoZero];exact lwp_makeNoZero undBy a fun r cs hr hc=>⟨r,cs,rfl,hr,hc,rfl⟩
theorem c3766{p:Option Addr}(hb:h.get r=some (true,.cells #[.pointer p,.slice none 0 0] 80 (0,0)))(y:p=none\/p=some ⟨r,0,none⟩)(e:h0.get r=none)(hle:h0.le h)(C:n<=2^30) :
  FW X0 Tryz.prog 147 #[.pointer (some ⟨r,0,none⟩),.int .i64 (n:Int)] h fun v h'=>v=.tuple #[]/\BldR h0 h' r []:=by
 refine w3766 Qn ?_;have s:h.get.cell? ((⟨r,0,none⟩ : Addr).add 1)=some (.slice none 0 0):=Jx (i:=1) hb rfl;refine gZ ?_;refine t_capS undBy ?_;have w1:wrap .i64 (wrap .i64 (2*((0:Nat):Int))+(n:Int))=(n:Int):=by
  rw[Qh (n:=2*((0:Nat):Int)) (by omega) (by omega),Qh (by omega) (by omega)];omega
 refine gZ ?_;rw[w1];refine Q7 (cv_makeNoZero n (by omega)) ?_;rintro _ t ⟨d,cs,rfl,b,u,rfl⟩;have c:h.le { h with get:=h.get.upd d (true,.cells cs 5 (0,0)) }:=Qr b;have m:({ h with get:=h.get.upd d (true,.cells cs 5 (0,0)) }:LH).get d=some (true,.cells cs 5 (0,0)):=Qk _ _ _;revert c m;generalize ({ h with get:=h.get.upd d (true,.cells cs 5 (0,0)) }:LH)=t;intro c m;have A:=Qd c.1 s;have k:=c.1 _ _ hb;have f:d≠r:=by rintro rfl;rw[hb]at b;cases b
 refine gZ ?_;refine Gi undBy infU (i:=0) (Nat.zero_le _) ?_;obtain⟨D,l,_⟩:=Zj infU;refine gZ ?_;refine t_copyNone undBy l ?_;refine gZ ?_;refine Z0 (i:=1) k rfl (by rfl) fun B o q=>?_;refine Qg ⟨rfl,⟨p,some ⟨d,0,none⟩,cs.size,q,y,⟨rfl,.inr ⟨d,cs,rfl,?_,(Nat.mul_one _).symm,Nat.zero_le _,fun j v w=>by simp at w⟩⟩,?_,?_⟩,e,Ov.le_of (LH.le_trans hle c) (o.ov e)⟩
 ·rw[o.1 d f];exact m
 ·intro a g;cases g;cases z:h0.get d with
  | none=>rfl
  | some x=>rw[hle.1 _ _ z]at b;cases b
 ·intro a g;cases g;exact f
theorem c3740(hb:h.get r=some (true,.cells #[.pointer none,.slice none 0 0] 80 (0,0)))(b:h0.get r=none)(hle:h0.le h)(m:n<=2^30) :
  FW X0 Tryz.prog 85 #[.pointer (some ⟨r,0,none⟩),.int .i64 (n:Int)] h fun v h'=>v=.tuple #[]/\BldR h0 h' r []:=by
 refine w3740 Qn ?_;refine Ji (c3739 hb (.inl rfl)) ?_;rintro _ f ⟨rfl,j,d⟩;have c:h0.le f:=Ov.le_of hle (j.ov b);refine gZ ?_;refine Jd (fun g h'=>g=[]/\f=h') ?_ ?_
 ·refine t_if (fun e=>by omega) (fun _=>?_);exact Qi ⟨rfl,rfl⟩
 rintro g _ ⟨rfl,rfl⟩;have o:f.get.cell? ((⟨r,0,none⟩ : Addr).add 1)=some (.slice none 0 0):=Jx (i:=1) d rfl;refine gZ ?_;refine t_capS undBy ?_;refine yJ (fun _=>?_) (fun e=>?_)
 ·refine Ji (c3766 d (.inr rfl) b c m) ?_;rintro _ p ⟨rfl,k⟩;refine gZ ?_;exact Qg ⟨rfl,k⟩
 ·exact Qg ⟨rfl,⟨_,none,0,d,.inr rfl,OwnRow.nil,NewIn.none,fun a l=>by cases l⟩,b,c⟩
end Go.Y.Txt
end
section
namespace Go.TM.Tp
theorem G4(c:UInt8):∀ l:List Bs,(joinS c l).length=(l.map List.length).sum+(l.length-1)
 | []=>rfl
 | [a]=>by simp[joinS]
 | a::b::l=>by
  have d:=G4 c (b::l);show (a++c::joinS c (b::l)).length=_;rw[List.length_append,List.length_cons,d];simp;omega
theorem Hq:∀ (l:List Nat) (i:Nat),(l.take i).sum<=l.sum
 | [],i=>by simp
 | a::l,0=>by simp
 | a::l,i+1=>by
  have:=Hq l i;simp only[List.take_succ_cons,List.sum_cons];omega
theorem joinS_take(c:UInt8)(l:List Bs)(i:Nat):(joinS c (l.take i)).length<=(joinS c l).length:=by
 rw[G4,G4,List.map_take,List.length_take];have:=Hq (l.map List.length) i;omega
theorem sum_snoc{l:List Bs}{i:Nat}{x:Bs}(h:l[i]?=some x):((l.take (i+1)).map List.length).sum=((l.take i).map List.length).sum+x.length:=by
 rw[Zq h,List.map_append,List.sum_append];simp
end Go.TM.Tp
namespace Go.Y.Txt
open Go.TM.Tp
attribute [local irreducible] T.wp CV FWK
theorem c3716{h:LH}{p:Option Addr}{n k:Nat}{b:List Bs}(s:BsS h p n k b)(c:UInt8)(hl:b.length<=2^20)(ht:(joinS c b).length<=2^29):Gr Tryz.prog 36 #[.slice p n k,.string (str [c])] h fun r _=>r=.string (str (joinS c b)):=by
 refine w3716 Qn ?_;have u:=s.2.1;refine Qp (fun e=>?_) (fun e=>?_)
 ·have:b=[]:=List.eq_nil_of_length_eq_zero (by
   have:(n:Int)=0:=by simpa using e
   omega)
  subst this;exact Qg ⟨LH.le_refl _,rfl⟩
 have Z:n≠0:=by intro h0;subst h0;simp at e
 refine Qp (fun B=>?_) (fun B=>?_)
 ·have R:n=1:=by
   have:(n:Int)=1:=by simpa using B
   omega
  match b,u with
  | [x],_ =>
   obtain⟨a,j,q⟩:=s.at (i:=0) (x:=x) rfl;refine gT ⟨by omega,by omega⟩ (gS2 j (Q9 q ?_));exact Qg ⟨LH.le_refl _,rfl⟩
  | [],u=>exact absurd u Z
  | _::_::_,u=>simp at u;omega
 have n1:n≠1:=by intro h0;subst h0;simp at B
 have w:=G4 c b;have hw:wrap .i64 ((n:Int)-1)=((b.length-1:Nat):Int):=by rw[Qh (by omega) (by omega)];omega
 have g:(([c]:Bs).length:Int)=1:=rfl;refine Jd (fun f h'=>f=[.int .i64 ((b.length-1:Nat):Int)]/\h=h') ?_ ?_
 ·refine Ja undS ?_;rw[g];refine gZ ?_;refine t_if (fun _=>?_) (fun e=>absurd (by decide) e);refine Ja undS ?_;rw[g];refine gZ ?_;rw[hw]
  try refine gT (by omega) ?_
  have hq:(2:Int)<=Int.tdiv 9223372036854775807 ((b.length-1:Nat):Int)/\Int.tdiv 9223372036854775807 ((b.length-1:Nat):Int)<=9223372036854775807:=by
   rw[Int.tdiv_eq_ediv_of_nonneg (by omega)];refine⟨(Int.le_ediv_iff_mul_le (by omega)).2 (by omega),Int.ediv_le_self _ (by omega)⟩
  rw[Qh (n:=Int.tdiv 9223372036854775807 ((b.length-1:Nat):Int)) (by omega) (by omega)];refine t_if (fun e=>by omega) (fun _=>?_);refine Ja undS ?_;rw[g];refine gZ ?_;refine Qi ⟨?_,rfl⟩;rw[Qh (n:=1*((b.length-1:Nat):Int)) (by omega) (by omega),Qh (by omega) (by omega)];congr 2;omega
 rintro f _ ⟨rfl,rfl⟩;refine gZ ?_;refine J9 (fun A f h'=>h=h'/\∃ i:Nat,f=[.int .i64 (((b.length-1)+((b.take i).map List.length).sum:Nat):Int),.int .i64 i]/\i<=n/\A=n-i)
  (fun f h'=>h=h'/\∃ i:Int,f=[.int .i64 ((joinS c b).length:Int),.int .i64 i]) ⟨rfl,0,by simp,Nat.zero_le _,rfl⟩ ?_ ?_
 ·rintro Y A f _ C ⟨rfl,i,rfl,V,rfl⟩;have F:=Hq (b.map List.length) i;rw[<- List.map_take]at F;refine yJ (fun q=>?_) (fun q=>?_)
  ·have m:=List.getElem?_eq_getElem (show i<b.length by omega);generalize b[i]=x at m;obtain⟨a,j,t⟩:=s.at m;have G:=sum_snoc m;have v:=Hq (b.map List.length) (i+1);rw[<- List.map_take]at v;refine gT ⟨by omega,by omega⟩ (gS2 j (Q9 (by rw[Int.toNat_natCast];exact t) ?_));refine Ja undS ?_;refine gZ ?_;rw[Qh (n:=9223372036854775807-(((b.length-1)+((b.take i).map List.length).sum:Nat):Int)) (by omega) (by omega)];refine t_if (fun e=>by omega) (fun _=>?_);refine Ja undS ?_;refine gZ ?_;refine Qi (C (n-(i+1)) _ _ (by omega) ⟨rfl,i+1,?_,by omega,rfl⟩);rw[Qh (by omega) (by omega),Qh (by omega) (by omega),G];congr 2
   ·congr 1;omega
  ·have W:i=n:=by omega
   refine gH ⟨rfl,(i:Int),?_⟩;rw[w,List.take_of_length_le (by omega)];congr 2;congr 1;omega
 rintro f _ ⟨rfl,i,rfl⟩;refine gZ ?_;refine H8 fun r R J E hr=>?_;refine Ji (c3740 (h0:=h) hr E J (by omega)) ?_;rintro _ M ⟨rfl,L⟩;refine gZ ?_;have m:=List.getElem?_eq_getElem (show 0<b.length by omega);generalize X:b[0]=x at m;obtain⟨a,j,t⟩:=(s.le L.le).at m;have z:b.take 1=[x]:=by
  have:=Zq m;rw[this];rfl
 have d:=joinS_take c b 1;rw[z]at d;have d:x.length<=(joinS c b).length:=d;refine gS2 j (Q9 t ?_);refine Ji (c3715 L (by simp;omega)) ?_;rintro _ h3 ⟨rfl,O⟩;refine gZ ?_;refine t_sliceLow undSs infS (i:=1) (by omega) ?_;have st:Sl BsE 1 h.get (if k=1 then p else p.map (·.add (1*1))) (n-1) (b.drop 1):=s.2.drop s.1;revert st;generalize (if k=1 then p else p.map (·.add (1*1)))=p1;intro st;have st:BsS h p1 (n-1) (k-1) (b.drop 1):=⟨by have:=s.1;omega,st⟩
 refine gZ ?_;refine J9 (fun A f h'=>∃ i:Nat,f=[.int .i64 i]/\i<=n-1/\A=n-1-i/\BldR h h' r (joinS c (b.take (i+1))))
  (fun f h'=>(∃ i:Int,f=[.int .i64 i])/\BldR h h' r (joinS c b)) ⟨0,rfl,Nat.zero_le _,rfl,by rw[Nat.zero_add,z];exact O⟩ ?_ ?_
 ·rintro Y A f S C ⟨i,rfl,V,rfl,o⟩;refine yJ (fun q=>?_) (fun q=>?_)
  ·have H:=List.getElem?_eq_getElem (show i+1<b.length by omega);generalize b[i+1]=y at H;have I:(b.drop 1)[i]?=some y:=by rw[List.getElem?_drop,Nat.add_comm];exact H
   obtain⟨a,j,t⟩:=(st.le o.le).at I;have D:b.take (i+1)≠[]:=fun e=>by
    have M:(b.take (i+1)).length=0:=by rw[e];rfl
    rw[List.length_take]at M;omega
   have N:joinS c (b.take (i+1+1))=joinS c (b.take (i+1))++[c]++y:=by
    rw[Zq H,join_snoc D,List.append_assoc];rfl
   have l:=joinS_take c b (i+1+1);rw[N,List.length_append,List.length_append,List.length_singleton]at l;refine gT ⟨by omega,by omega⟩ (gS2 j (Q9 (by rw[Int.toNat_natCast];exact t) ?_));refine Ji (c3715 o (by rw[List.length_singleton];omega)) ?_;rintro _ U ⟨rfl,P⟩;refine gZ ?_;refine Ji (c3715 P (by rw[List.length_append,List.length_singleton];omega)) ?_;rintro _ h6 ⟨rfl,Q⟩;refine gZ ?_;refine Qi (C (n-1-(i+1)) _ _ (by omega) ⟨i+1,?_,by omega,rfl,by rw[N];exact Q⟩);rw[Qh (by omega) (by omega)];rfl
  ·rw[List.take_of_length_le (by omega)]at o;exact gH ⟨⟨_,rfl⟩,o⟩
 ·rintro f S ⟨⟨i,rfl⟩,o⟩;refine gZ ?_;refine Ji (c3721 o (by omega)) ?_;rintro _ U ⟨rfl,K⟩;refine Qq ?_;exact Qg ⟨K,rfl⟩
end Go.Y.Txt
end
