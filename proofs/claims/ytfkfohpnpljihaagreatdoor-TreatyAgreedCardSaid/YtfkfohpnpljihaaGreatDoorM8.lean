/- TreatyAgreed: every claim of the row at every input. -/
import Derived.Test.YtfkfohpnpljihaaGreatDoorM7
set_option linter.all false
noncomputable section
open Go Go.Conc Go.TM Go.Proofs
set_option maxRecDepth 100000
open Go.IntKind (wrap)
section
namespace Go.TM
open Go.TM.Ma
def encI(n:Int):Value:=.int .i64 n
variable {y:Int}{es:Array MapEntry}{c:Nat}
theorem Db:∀ a b,encI a=encI b->a=b:=fun a b h=>by unfold encI at h;cases h;rfl
def ownM(ow:Ow):Int->Option Value:=fun y=>(ow y).map (Value.int .i64)
def seenM(sn:Sn):Int->Option Value:=fun y=>if sn y then some (.bool true) else none
theorem ownM_set(ow:Ow)(y x:Int):updO (ownM ow) y (.int .i64 x)=ownM (setO ow y x):=by
 funext z;unfold updO ownM setO;by_cases e:z=y<;>simp[e]
theorem seenM_set(sn:Sn)(y:Int):updO (seenM sn) y (.bool true)=seenM (setS sn y):=by
 funext z;unfold updO seenM setS;by_cases e:z=y<;>simp[e]
structure GSt(b₀:LH)(mo ms:Nat)(ow:Ow)(sn:Sn)(h:LH):Prop where
 le:b₀.le h
 only:∀ r,r≠mo->r≠ms->h.get r=b₀.get r
 ne:mo≠ms
 no:b₀.get mo=none
 ns:b₀.get ms=none
 own:∃ es c,h.get mo=some (true,.map es c)/\MapO encI es (ownM ow)
 seen:∃ es c,h.get ms=some (true,.map es c)/\MapO encI es (seenM sn)
variable {b₀ h:LH} {mo ms:Nat} {ow:Ow} {sn:Sn}
theorem GSt.see(g:GSt b₀ mo ms ow sn h)(M:MapO encI es (updO (seenM sn) y (.bool true))):GSt b₀ mo ms ow (setS sn y) { h with get:=h.get.upd ms (true,.map es c) }:=by
 refine⟨⟨fun r x b=>?_,g.le.2⟩,fun r h1 h2=>?_,g.ne,g.no,g.ns,?_,es,c,Qd _ _ _,by rw[<- seenM_set];exact M⟩
 ·have:r≠ms:=by rintro rfl;rw[g.ns]at b;cases b
  show h.get.upd ms _ r=_;rw[Qk _ _ this];exact g.le.1 r x b
 ·show h.get.upd ms _ r=_;rw[Qk _ _ h2];exact g.only r h1 h2
 ·obtain⟨a,d,h1,h2⟩:=g.own;exact⟨a,d,by show h.get.upd ms _ mo=_;rw[Qk _ _ g.ne];exact h1,h2⟩
theorem GSt.give(g:GSt b₀ mo ms ow sn h){x:Int}(M:MapO encI es (updO (ownM ow) y (.int .i64 x))):GSt b₀ mo ms (setO ow y x) sn { h with get:=h.get.upd mo (true,.map es c) }:=by
 refine⟨⟨fun r x b=>?_,g.le.2⟩,fun r h1 h2=>?_,g.ne,g.no,g.ns,⟨es,c,Qd _ _ _,by rw[<- ownM_set];exact M⟩,?_⟩
 ·have:r≠mo:=by rintro rfl;rw[g.no]at b;cases b
  show h.get.upd mo _ r=_;rw[Qk _ _ this];exact g.le.1 r x b
 ·show h.get.upd mo _ r=_;rw[Qk _ _ h1];exact g.only r h1 h2
 ·obtain⟨a,d,h1,h2⟩:=g.seen;exact⟨a,d,by show h.get.upd mo _ ms=_;rw[Qk _ _ (Ne.symm g.ne)];exact h1,h2⟩
def toSee(G:Ed)(sn:Sn):Nat:=(G.filter fun p=>!sn p.2).length
theorem toSee_le{G:Ed}{s a:Sn}(h:∀ y,s y=true->a y=true):toSee G a<=toSee G s:=by
 unfold toSee
 induction G with
 | nil=>simp
 | cons p G b =>
  rw[List.filter_cons,List.filter_cons];cases e:s p.2 with
  | true=>rw[h _ e];simpa using b
  | false =>
   simp only[Bool.not_false,if_true,List.length_cons];split
   ·simp only[List.length_cons];omega
   ·omega
theorem toSee_lt{G:Ed}{s:Sn}{p:Int×Int}(a:p∈G)(c:s p.2=false):toSee G (setS s p.2)<toSee G s:=by
 have up:∀ y,s y=true->setS s p.2 y=true:=fun y d=>Uf d
 induction G with
 | nil=>simp at a
 | cons q G b =>
  have hle:=toSee_le (G:=G) up;unfold toSee at b hle ⊢;rw[List.filter_cons,List.filter_cons];rcases List.mem_cons.1 a with rfl|a
  ·rw[c,show setS s p.2 p.2=true by simp[setS]];simp only[Bool.not_false,if_true,Bool.not_true,Bool.false_eq_true,if_false,List.length_cons];omega
  ·have:=b a;cases e:s q.2 with
   | true=>rw[up _ e];simpa using this
   | false =>
    simp only[Bool.not_false,if_true,List.length_cons];split
    ·simp only[List.length_cons];omega
    ·omega
def without(h:LH)(mo ms:Nat):LH:={ h with get:=fun r=>if r=mo\/r=ms then none else h.get r }
theorem without_le(h:LH)(mo ms:Nat):(without h mo ms).le h:=⟨fun r x a=>by
 unfold without at a;simp only at a;split at a
 ·cases a
 ·exact a,rfl,rfl,rfl⟩
theorem Wa{h:LH}{mo ms r:Nat}(h1:r≠mo)(h2:r≠ms):(without h mo ms).get r=h.get r:=by
 unfold without;simp[h1,h2]
end Go.TM
namespace Go.Y
open Go.TM.Ma
attribute [local irreducible] T.wp CV FWK
theorem Yu:Tryz.prog.underlying 218=some (.map 3 3):=by kernel_rfl
theorem fkeyI(x:Int):FKey Tryz.prog 3 (encI x):=.inl (.inl ⟨und3,x,rfl⟩)
theorem c3213{b₀:LH}{mo ms:Nat}{I J K L:Addr}{p:Option Addr}{n c:Nat}{G:Ed}(h0:b₀.get.cell? I=some (.slice p n c))(h1:b₀.get.cell? J=some (.map (some ms)))(h2:b₀.get.cell? K=some (.map (some mo)))
 (h3:b₀.get.cell? L=some (.func (.func 126) #[] #[.pointer (some I),.pointer (some J),.pointer (some K),.pointer (some L)]))(P:Sl PairE 2 b₀.get p n G):∀ (N:Nat) {ow:Ow} {sn:Sn} {h:LH} (one:Int),toSee G sn=N->GSt b₀ mo ms ow sn h ->
  FW X0 Tryz.prog 126 #[.int .i64 one,.pointer (some I),.pointer (some J),.pointer (some K),.pointer (some L)] h fun r h'=>∃ b y z,r=.bool b/\GSt b₀ mo ms y z h'/\Srch G one ow sn y z b:=by
 intro N
 induction N using Nat.strongRecOn with
 | ind N ih =>
  intro ow sn h one hN g;refine w3213 Qn ?_;have hn:=P.1;have l0:=P.2.1;have y0:=Qc g.le.1 h0;refine gZ ?_;refine Qq (fun X vs h'=>∃ (k:Nat) (m:Sn),vs=[.bool false,.int .i64 k]/\k<=n/\X=n-k/\GSt b₀ mo ms ow m h'/\Half G one ow sn k m) ⟨0,sn,rfl,Nat.zero_le _,rfl,g,Half.start⟩ ?_;rintro Y X vs h₁ hY ⟨k,m,rfl,hk,rfl,j,u⟩;have next:∀ {h':LH} {s:Sn},GSt b₀ mo ms ow s h'->k+1<=n->Half G one ow sn (k+1) s->Y [.bool false,.int .i64 (wrap .i64 ((k:Int)+1))] h':=fun g' S w=>by
   refine hY (n-(k+1)) _ _ (by omega) ⟨k+1,_,?_,S,rfl,g',w⟩;rw[Qj (by omega) (by omega)];rfl
  refine yJ (fun e1=>?_) (fun e1=>?_)
  ·obtain⟨q,a,B,ha,e2,e3⟩:=(P.le PairE.grow j.le.1).at (i:=k) (by omega);have o0:0<=(k:Int)/\(k:Int)<(n:Int):=by omega
   refine gZ ?_;refine Jw (fun vs h'=>vs=[]/\h₁=h'/\q.1=one/\m q.2=false) ?_ ?_
   ·refine Qt (fun b1=>?_) (fun b1=>?_)
    ·refine yT ?_;refine gZ ?_;exact Qa (next j (by omega) (u.skip B fun e=>by simp[e]at b1))
    have d:q.1=one:=by simpa using b1
    have y1:=Qc j.le.1 h1;obtain⟨es,cc,hm,Q⟩:=j.seen;refine gZ ?_;refine t_getO (enc:=encI) q.2 rfl Db und138 inf4 hm Q fkeyI (fun v hv=>?_) fun hv=>?_
    ·have l:m q.2=true/\v=.bool true:=by
      unfold seenM at hv;split at hv
      ·rename_i e;cases hv;exact⟨e,rfl⟩
      ·cases hv
     rw[l.2];simp only[Bool.false_eq_true,if_false];refine yT ?_;refine yT ?_;refine gZ ?_;exact Qa (next j (by omega) (u.skip B fun _=>l.1))
    ·have l:m q.2=false:=by
      unfold seenM at hv;split at hv
      ·cases hv
      ·rename_i e;simpa using e
     simp only[Bool.false_eq_true,if_false];refine yF ?_;exact Qa ⟨rfl,rfl,d,l⟩
   rintro vs _ ⟨rfl,rfl,d,l⟩;have y1:=Qc j.le.1 h1;obtain⟨es,cc,hm,Q⟩:=j.seen;refine gZ ?_;refine t_putO (enc:=encI) q.2 rfl Db und138 hm Q fkeyI fun t A f=>?_;have C:=j.see (c:=A) f;generalize m0:({ h₁ with get:=h₁.get.upd ms (true,.map t A) }:LH)=V at *;have y2:=Qc C.le.1 h2;obtain⟨j0,a0,E,D⟩:=C.own;refine gZ ?_;refine t_getO (enc:=encI) q.2 rfl Db Yu inf3 E D fkeyI (fun v hv=>?_) fun hv=>?_
   ·obtain⟨o,H,rfl⟩ : ∃ o,ow q.2=some o/\v=.int .i64 o:=by
     unfold ownM at hv;obtain⟨o,h1,h2⟩:=Option.map_eq_some_iff.1 hv;exact⟨o,h1,h2.symm⟩
    simp only[if_true];refine yF ?_;refine Z3 (Qc C.le.1 h3) ?_;have x:toSee G (setS m q.2)<N:=by
     have a1:=toSee_lt (List.mem_of_getElem? B) l;have a2:=toSee_le (G:=G) u.grow;omega
    refine J2 (Kq (first:=#[]) (args:=#[.int .i64 o]) (cap:=#[.pointer (some I),.pointer (some J),.pointer (some K),.pointer (some L)]) Qn rfl (ih _ x o rfl C)) ?_;rintro _ W ⟨b,y,z,rfl,F,Z⟩;refine yI (fun M=>?_) (fun M=>?_)
    ·subst M;have q0:=Qc F.le.1 h2;obtain⟨k0,e0,U,R⟩:=F.own;refine gZ ?_;refine t_putO (enc:=encI) q.2 rfl Db Yu U R fkeyI fun t A f=>?_;have O:=F.give (c:=A) f;refine gZ ?_;exact Qe ⟨true,_,_,rfl,O,u.take B d l H Z⟩
    ·subst M;obtain⟨rfl,w⟩:=u.miss B l H Z;exact Qa (next F (by omega) w)
   ·have H:ow q.2=none:=by
     unfold ownM at hv;simpa using hv
    simp only[if_true];refine yT ?_;refine gZ ?_;refine t_putO (enc:=encI) q.2 rfl Db Yu E D fkeyI fun t A f=>?_;have O:=C.give (c:=A) f;refine gZ ?_;exact Qe ⟨true,_,_,rfl,O,u.free B d l H⟩
  ·refine gZ ?_;have:k=G.length:=by omega
   subst this;exact Qe ⟨false,ow,m,rfl,j,u.stop⟩
theorem c3191{h:LH}{p0 p1 p2 p q pp:Option Addr}{n0 c0 n1 c1 n2 c2 n c m d D O:Nat}{e lev:Int}{a:List Int}{G:Ed}(ha:Sl IntE 1 h.get p n a)(x0:a.Nodup)(hG:Sl PairE 2 h.get pp D G)(a0:∀ x∈G,x.1∈a) :
  Gr Tryz.prog 77 #[.agg #[.slice p0 n0 c0,.slice p1 n1 c1,.slice p2 n2 c2,.int .i64 e,lev,.slice p n c,.slice q m d],.slice pp D O] h fun r _=>∃ k:Nat,r=.int .i64 k/\Mat G k/\Cov G k:=by
 refine w3191 Qn ?_;have hn:=ha.1;have x1:=ha.2.1;refine J1 fun r hr=>?_;have L:=Qp (x:=(true,.cells #[.slice pp D O] 98 (0,0))) hr;generalize m0:({ h with get:=h.get.upd r (true,.cells #[.slice pp D O] 98 (0,0)) }:LH)=h1 at *;have k1:h1.get r=some (true,.cells #[.slice pp D O] 98 (0,0)):=by rw[<- m0];exact Qd _ _ _
 refine Wy fun mo j=>?_;have M:=Qp (x:=(true,.map #[] 0)) j;have a2:r≠mo:=by rintro rfl;rw[k1]at j;cases j
 generalize o0:({ h1 with get:=h1.get.upd mo (true,.map #[] 0) }:LH)=h2 at *;have k2:h2.get mo=some (true,.map #[] 0):=by rw[<- o0];exact Qd _ _ _
 refine gZ ?_;refine Uc (fun _=>rfl) fun o A=>?_;have B:=Qp (x:=(true,.cells #[.map (some mo)] 218 (0,0))) A;have q1:o≠mo:=by rintro rfl;rw[k2]at A;cases A
 generalize q0:({ h2 with get:=h2.get.upd o (true,.cells #[.map (some mo)] 218 (0,0)) }:LH)=h3 at *;have k3:h3.get o=some (true,.cells #[.map (some mo)] 218 (0,0)):=by rw[<- q0];exact Qd _ _ _
 have K:=LH.le_trans L (LH.le_trans M B);have H:h.get mo=none:=by
  cases g:h.get mo with
  | none=>rfl
  | some x=>rw[L.1 _ _ g]at j;cases j
 refine Qq (fun mm vs h'=>h.le h'/\h'.get r=some (true,.cells #[.slice pp D O] 98 (0,0))/\h'.get o=some (true,.cells #[.map (some mo)] 218 (0,0))/\∃ (i k:Nat) (ow:Ow),vs=[.int .i64 k,.int .i64 i]/\i<=n/\k<=i/\mm=n-i /\
   (∃ es c,h'.get mo=some (true,.map es c)/\MapO encI es (ownM ow))/\Best G (a.take i) ow k)
  ⟨K,B.1 _ _ (M.1 _ _ k1),k3,0,0,fun _=>none,rfl,Nat.zero_le _,Nat.le_refl _,rfl,⟨#[],0,B.1 _ _ k2,MapO.nil⟩,Best.start⟩ ?_
 rintro Y mm vs g1 hY ⟨V,e1,e2,i,k,ow,rfl,hi,z1,rfl,⟨es,cc,hm,hM⟩,hB⟩;refine yJ (fun b1=>?_) (fun b1=>?_)
 ·obtain⟨x,ad,g,u1,e3⟩:=(ha.le IntE.grow V.1).at (i:=i) (by omega);unfold IntE at e3;have y1:0<=(i:Int)/\(i:Int)<(n:Int):=by omega
  refine gZ ?_;refine Wy fun ms l=>?_;have l2:=Qp (x:=(true,.map #[] 0)) l;generalize j0:({ g1 with get:=g1.get.upd ms (true,.map #[] 0) }:LH)=X at *;have j2:X.get ms=some (true,.map #[] 0):=by rw[<- j0];exact Qd _ _ _
  refine gZ ?_;refine Uc (fun _=>rfl) fun u y0=>?_;have l3:=Qp (x:=(true,.cells #[.map (some ms)] 163 (0,0))) y0;generalize k0:({ X with get:=X.get.upd u (true,.cells #[.map (some ms)] 163 (0,0)) }:LH)=Z at *;have j3:Z.get u=some (true,.cells #[.map (some ms)] 163 (0,0)):=by rw[<- k0];exact Qd _ _ _
  refine Uc (fun _=>rfl) fun C z0=>?_;have l4:=Qp (x:=(true,.cells #[.func (.func 126) #[] #[.pointer (some ⟨r,0,none⟩),.pointer (some ⟨u,0,none⟩),.pointer (some ⟨o,0,none⟩),.pointer (some ⟨C,0,none⟩)]] 115 (0,0))) z0;generalize l0:({ Z with get:=Z.get.upd C (true,.cells #[.func (.func 126) #[] #[.pointer (some ⟨r,0,none⟩),.pointer (some ⟨u,0,none⟩),.pointer (some ⟨o,0,none⟩),.pointer (some ⟨C,0,none⟩)]] 115 (0,0)) }:LH)=s at *;have U:s.get C=some (true,.cells #[.func (.func 126) #[] #[.pointer (some ⟨r,0,none⟩),.pointer (some ⟨u,0,none⟩),.pointer (some ⟨o,0,none⟩),.pointer (some ⟨C,0,none⟩)]] 115 (0,0)):=by rw[<- l0];exact Qd _ _ _
  have t:=LH.le_trans l2 (LH.le_trans l3 l4);have J:=LH.le_trans V t;have f1:=t.1 _ _ e1;have f2:=t.1 _ _ e2;have f3:=l4.1 _ _ j3;have fm:=t.1 _ _ hm;have E:=l4.1 _ _ (l3.1 _ _ j2);have I:h.get ms=none:=by
   cases g:h.get ms with
   | none=>rfl
   | some x=>rw[V.1 _ _ g]at l;cases l
  have f:∀ {b:Nat} {y:Bool×Obj},s.get b=some y->notCells y.2->∀ {b':Nat} {y':Bool×Obj},s.get b'=some y'->¬ notCells y'.2->b'≠b:=fun h1 h2 _ _ h3 h4 e=>by
   subst e;rw[h1]at h3;cases h3;exact h4 h2
  have P:=f fm trivial f1 id;have Q:=f E trivial f1 id;have R:=f fm trivial f2 id;have S:=f E trivial f2 id;have a1:=f fm trivial f3 id;have j1:=f E trivial f3 id;have m1:=f fm trivial U id;have o1:=f E trivial U id;have u0:mo≠ms:=by rintro rfl;rw[hm]at l;cases l
  have hb:∀ x:Nat,∀ y,h.get x=some y->(without s mo ms).get x=some y:=fun x y g=>by
   have n1:x≠mo:=by rintro rfl;rw[H]at g;cases g
   have n2:x≠ms:=by rintro rfl;rw[I]at g;cases g
   rw[Wa n1 n2];exact J.1 _ _ g
  have F:h.le (without s mo ms):=⟨hb,J.2⟩
  have st:GSt (without s mo ms) mo ms ow (fun _=>false) s:=by
   refine⟨without_le _ _ _,fun b n1 n2=>(Wa n1 n2).symm,u0,?_,?_,⟨es,cc,fm,hM⟩,#[],0,E,?_⟩
   ·unfold without;simp
   ·unfold without;simp
   ·have:seenM (fun _=>false)=fun _=>none:=by funext y;simp[seenM]
    rw[this];exact MapO.nil
  have cell:∀ {b:Nat} {v:Value} {el:TypeId},b≠mo->b≠ms->s.get b=some (true,.cells #[v] el (0,0))->(without s mo ms).get.cell? ⟨b,0,none⟩=some v:=fun n1 n2 hb=>by
   unfold Cells.cell?;rw[Wa n1 n2,hb];rfl
  refine Z3 (n:=.func (.func 126) #[] #[.pointer (some ⟨r,0,none⟩),.pointer (some ⟨u,0,none⟩),.pointer (some ⟨o,0,none⟩),.pointer (some ⟨C,0,none⟩)]) (by unfold Cells.cell?;rw[U];rfl) ?_;refine J2 (Kq (first:=#[]) (args:=#[.int .i64 x]) (cap:=#[.pointer (some ⟨r,0,none⟩),.pointer (some ⟨u,0,none⟩),.pointer (some ⟨o,0,none⟩),.pointer (some ⟨C,0,none⟩)]) Qn rfl (c3213 (cell P Q f1) (cell a1 j1 f3) (cell R S f2) (cell m1 o1 U) (hG.le PairE.grow F.1) _ x rfl st)) ?_;rintro _ g5 ⟨b,N,m2,rfl,w,sr⟩;have w0:x∉a.take i:=fun hm=>by
   have hp:=List.take_append_drop i a▸x0;rw[List.nodup_append]at hp;refine hp.2.2 x hm x ?_ rfl;rw[Jd g];simp
  have z:=hB.step w0 sr;rw[<- show a.take (i+1)=a.take i++[x] by rw[List.take_add_one,g];rfl]at z;have keep:∀ (k':Nat),k'<=i+1->Best G (a.take (i+1)) N k'->Y [.int .i64 (k':Int),.int .i64 (wrap .i64 ((i:Int)+1))] g5:=fun k' s0 e0=>by
   refine hY (n-(i+1)) _ _ (by omega) ⟨LH.le_trans F w.le,w.le.1 _ _ (by rw[Wa P Q];exact f1),w.le.1 _ _ (by rw[Wa R S];exact f2),i+1,k',N,?_,by omega,s0,rfl,w.own,e0⟩;rw[Qj (by omega) (by omega)];rfl
  refine yI (fun W=>?_) (fun W=>?_)
  ·subst W;have:=keep (k+1) (by omega) z;rw[show ((k+1:Nat):Int)=wrap .i64 ((k:Int)+1) by rw[Qj (by omega) (by omega)];rfl]at this;exact Qa this
  ·subst W;exact Qa (keep k (by omega) z)
 ·refine gZ ?_;have:a.take i=a:=List.take_of_length_le (by omega);rw[this]at hB;obtain⟨o,u⟩:=hB.done a0;exact Qe ⟨V,k,rfl,o,u⟩
end Go.Y
end
section
namespace Go.TM
open Go.Sort Go.TM.Ma
theorem pairs_nodup{t:GTab}{e lev:Int}{b x y:List Int}(hb:b.Nodup):∀ {a:List Int},a.Nodup->(pairsF t e lev a b x y).Nodup
 | [],_=>List.nodup_nil
 | one::a,h=>by
  have f:=List.nodup_cons.1 h;show (Wl t e lev x y b one++pairsF t e lev a b x y).Nodup;rw[List.nodup_append];refine⟨?_,pairs_nodup hb f.2,fun p g q i c=>?_⟩
  ·unfold Wl;refine List.Pairwise.map _ (fun u v d c=>d (by cases c;rfl)) (List.Nodup.sublist List.filter_sublist hb)
  ·subst c;unfold Wl at g;obtain⟨two,_,rfl⟩:=List.mem_map.1 g;exact f.1 (Ka.1 i).1
theorem Ux{t:GTab}(ok:TabOk t){e lev:Int}(h:1<=lev){a b x y:List Int}(l:ListOk t e a)(i:a.Nodup)(hb:b.Nodup):(pairsF t e lev a b x y).length<=28:=by
 have m:=l.len8 ok;have n:=ok.kins;have:=Z2 (b:=a.map (fun v=>(v,v))++(t.kins.map (fun k=>(k.one,k.two))++t.kins.map fun k=>(k.two,k.one))) (pairs_nodup (t:=t) (e:=e) (lev:=lev) (x:=x) (y:=y) hb i) fun p j=>by
  obtain⟨h1,_,h3⟩:=Ka.1 j;rw[List.mem_append,List.mem_append];by_cases g:p.1=p.2
  ·exact .inl (List.mem_map.2 ⟨p.1,h1,by rw[Prod.ext_iff];exact⟨rfl,g⟩⟩)
  ·right;have d:¬ levelF t e p.1 p.2<lev:=by
    unfold pairOk at h3;simp only[Bool.not_eq_true',Bool.or_eq_false_iff,decide_eq_false_iff_not]at h3;exact h3.2.2
   unfold levelF at d;rw[if_neg g]at d;cases f:t.kins.find? (kinIs e p.1 p.2) with
   | none=>rw[f]at d;simp only[]at d;omega
   | some k =>
    have hm:=List.mem_of_find?_eq_some f;have c:=List.find?_some f;unfold kinIs at c;simp only[Bool.and_eq_true,beq_iff_eq]at c;by_cases h2:p.2<p.1
    ·rw[if_pos h2,if_neg (by omega)]at c;exact .inr (List.mem_map.2 ⟨k,hm,by rw[c.2.1,c.2.2]⟩)
    ·rw[if_neg h2]at c;have:p.2>p.1:=by omega
     rw[if_pos this]at c;exact .inl (List.mem_map.2 ⟨k,hm,by rw[c.2.1,c.2.2]⟩)
 simp only[List.length_append,List.length_map]at this;omega
theorem ListOk.nodup{t:GTab}{e:Int}{l:List Int}(o:ListOk t e l):l.Nodup:=o.up.imp fun h e=>by subst e;omega
end Go.TM
namespace Go.Y
open Go.Sort Go.TM.Ma
attribute [local irreducible] T.wp CV FWK
theorem c3214n{h1:LH}:Pu Tryz.prog 128 #[.slice none 0 0] h1 (.slice none 0 0):=by
 refine w3214 _ _ _ Qn ?_;unfold n3214;refine t_if (fun _=>?_) (fun e=>absurd (by omega) e);exact Qe ⟨rfl,rfl⟩
theorem c3192{h:LH}{f:TabC}{t:GTab}(ok:TabOk t){e lev:Int}(u:1<=lev){p q px:Option Addr}{n c m d nx cx:Nat}{a b x:List Int}(hr:TabR h.get f t)(ha:Sl IntE 1 h.get p n a)(V:ListOk t e a)(hb:Sl IntE 1 h.get q m b)(ob:ListOk t e b)(hx:Sl IntE 1 h.get px nx x) :
  Gr Tryz.prog 78 #[.agg #[.slice f.p0 f.n0 f.c0,.slice f.p1 f.n1 f.c1,.slice f.p2 f.n2 f.c2,.int .i64 e,lev,.slice p n c,.slice q m d],.slice px nx cx] h fun r _=>∃ (P:Option Addr) (H:Nat) (R:List Int),r=.slice P R.length H/\R.length<=28/\R.Nodup/\∀ y,y∈R↔∃ g∈pairsF t e lev a b x [],g.2=y:=by
 refine w3192 Qn ?_;refine t_gr (c3190 (py:=none) (ny:=0) (cy:=0) (y:=[]) hr ha hb hx Sl.nil) ?_;intro v h1 E Z;have U:=Ux ok u (x:=x) (y:=[]) V V.nodup ob.nodup;generalize hL:pairsF t e lev a b x []=L at *;refine Gs (LH.le_refl h1) Z (fun j vs h'=>∃ (p:Option Addr) (n c:Nat),vs=[.slice p n c]/\Growing IntEnc 3 1 h1.get h'.get p n c ((L.take j).map (·.2))) ⟨none,0,0,rfl,Growing.nil⟩ ?_ ?_
 ·rintro vs h' hle ⟨p,n,c,rfl,g⟩;rw[List.take_of_length_le (by rw[List.length_map];omega)]at g;have k:=LH.le_trans E hle;have A:=g.count IntEnc.len (by omega);have M:Sl IntE 1 h'.get p n (L.map (·.2)):=g.sl IntEnc.len (by omega) IntEnc.e (by rw[List.length_map];omega);obtain⟨vs,⟨m0,B⟩,rows⟩:=g.row;have new:=g.new;refine gZ ?_;rcases B with⟨rfl,rfl,rfl⟩|⟨r,cs,rfl,N,e0,k0,hv⟩
  ·have I:L=[]:=by
    have:=M.1;rw[List.length_map]at this;exact List.eq_nil_of_length_eq_zero this.symm
   subst I;refine t_pu c2092n ?_;refine gZ ?_;refine t_pu c3214n ?_;refine gZ ?_;exact Qe ⟨k,none,0,[],rfl,by simp,List.nodup_nil,fun y=>by simp⟩
  have C:h1.get r=none:=new _ rfl;have O:∀ (j:Nat) y,(L.map (·.2))[j]?=some y->cs[j]?=some (.int .i64 y):=fun j y F=>by
   obtain⟨ws,W,Q⟩:=rows.at IntEnc.len j y F;rw[W]at Q;have:=Q 0 _ rfl;rw[Nat.mul_one,Nat.add_zero]at this;exact hv j _ this
  have o:n=(L.map (·.2)).toArray.size:=by rw[List.size_toArray];exact M.1
  have j0:n=L.length:=by rw[M.1,List.length_map]
  have J:RA cs (L.map (·.2)).toArray:=fun i hi=>by
   refine O i _ ?_;have:=Ks hi;rwa[List.toList_toArray]at this
  have st:DSt h' r 3 cs.size (L.map (·.2)).toArray h':=DSt.self N (by rw[<- o];omega) J;have l:=sortInt (L.map (·.2));have s:(Go.Sort.sort ltInt (L.map (·.2)).toArray).size=n:=by rw[(sort_sorts ltInt swo_ltInt _).1.1,<- o]
  have hc1:=c2092 (c:=c) st (by rw[<- o];omega);rw[<- o]at hc1;generalize hS:Go.Sort.sort ltInt (L.map (·.2)).toArray=S at *;refine Qz hc1 ?_;rintro _ h2 ⟨rfl,s2⟩;have D:S.toList.Pairwise (·<=·):=by
   rw[l];have:=List.pairwise_mergeSort (le:=fun x y:Int=>decide (x<=y)) (fun a b c h1 h2=>by simp at *;omega) (fun a b=>by simp;omega) (L.map (·.2));exact this.imp fun h=>of_decide_eq_true h
  have z:∀ y,y∈S.toList↔∃ g∈L,g.2=y:=fun y=>by
   rw[l,(List.mergeSort_perm _ _).mem_iff,List.mem_map]
  have hc2:=c3214 (c:=c) s2 (by omega) D (by omega);rw[s]at hc2;refine gZ ?_;refine Qz hc2 ?_;rintro _ h3 ⟨rfl,d',G⟩;refine gZ ?_;obtain⟨q1,q2,_⟩:=compact_spec _ S.toList rfl D;have a0:=compact_len S.toList;have l0:S.toList.length=n:=by rw[Array.length_toList];exact s
  refine Qe ⟨⟨fun b y hb=>?_,by rw[G.rest.1];exact k.2.1,by rw[G.rest.2.1];exact k.2.2.1,by rw[G.rest.2.2];exact k.2.2.2⟩,_,c,compactL S.toList,rfl,by omega,q1.imp fun h e=>by subst e;omega,fun y=>by rw[q2,z]⟩;have K:b≠r:=by rintro rfl;rw[E.1 _ _ hb]at C;cases C
  exact G.keep b y K (k.1 _ _ hb)
 ·rintro j xs vs h' F hle ⟨p,n,c,rfl,g⟩ Y hY;rw[List.getElem?_map]at F;obtain⟨w,hw,rfl⟩:=Option.map_eq_some_iff.1 F;have A:=g.count IntEnc.len (by omega);rw[List.length_map,List.length_take]at A;unfold pairV;refine gZ ?_;refine Ub g hle (by omega) fun P H h2 k X=>?_;refine gZ ?_;refine Jk k (hY _ _ k ⟨P,n+1,H,rfl,?_⟩);rw[List.take_add_one,hw,List.map_append];exact X
end Go.Y
end
section
namespace Go.TM
def pcs(y:Int×Int):List Value:=[.int .i64 y.1,.int .i64 y.2]
def flatP(l:List (Int×Int)):List Value:=l.flatMap pcs
variable {cs:Array Value}
theorem U2:∀ l:List (Int×Int),(flatP l).length=l.length*2
 | []=>rfl
 | y::l=>by
  show (pcs y++flatP l).length=_;rw[List.length_append,U2 l,List.length_cons];show 2+l.length*2=_;omega
theorem flatP_get:∀ {l:List (Int×Int)} {j:Nat} {v:Value},(flatP l)[j]?=some v->∃ k y,l[k]?=some y/\((j=k*2/\v=.int .i64 y.1)\/(j=k*2+1/\v=.int .i64 y.2))
 | [],j,v,h=>by simp[flatP]at h
 | y::l,0,v,h=>⟨0,y,rfl,.inl ⟨rfl,by cases h;rfl⟩⟩
 | y::l,1,v,h=>⟨0,y,rfl,.inr ⟨rfl,by cases h;rfl⟩⟩
 | y::l,j+2,v,h=>by
  have h':(flatP l)[j]?=some v:=h;obtain⟨k,z,h1,h2⟩:=flatP_get h';refine⟨k+1,z,by simpa using h1,?_⟩;rcases h2 with⟨rfl,h3⟩|⟨rfl,h3⟩
  ·exact .inl ⟨by omega,h3⟩
  ·exact .inr ⟨by omega,h3⟩
theorem rows_pairs:∀ l:List (Int×Int),Rows PairEnc (flatP l) l:=by
 have:∀ (k:Nat) (l:List (Int×Int)),l.length=k->Rows PairEnc (flatP l) l:=by
  intro k
  induction k with
  | zero=>intro l h;rw[List.eq_nil_of_length_eq_zero h];exact .nil
  | succ k b =>
   intro l h;have a:l≠[]:=by rintro rfl;simp at h
   rw[<- List.dropLast_concat_getLast a];have e:flatP (l.dropLast++[l.getLast a])=flatP l.dropLast++pcs (l.getLast a):=by unfold flatP;rw[List.flatMap_append];simp
   rw[e];exact .snoc (b _ (by simp[h])) rfl
 exact fun l=>this _ l rfl
def RP(cs:Array Value)(l:List (Int×Int)):Prop:=∀ (k:Nat) y,l[k]?=some y->cs[k*2]?=some (.int .i64 y.1)/\cs[k*2+1]?=some (.int .i64 y.2)
theorem RP.flat{l:List (Int×Int)}(h:RP cs l){j:Nat}{v:Value}(a:(flatP l)[j]?=some v):cs[j]?=some v:=by
 obtain⟨k,y,h1,h2⟩:=flatP_get a;rcases h2 with⟨rfl,rfl⟩|⟨rfl,rfl⟩
 ·exact(h k y h1).1
 ·exact(h k y h1).2
variable {P:Program} {X:XP} {Q:Leaf->LH->Prop}
theorem zeroCells_pair(n:Nat):(Builtin.zeroCells #[Value.int .i64 0,.int .i64 0] n).toList=List.replicate (n*2) (.int .i64 0):=by
 unfold Builtin.zeroCells;refine List.ext_getElem? fun i=>?_;simp only[Array.toList_map,Array.toList_range,List.getElem?_map,List.getElem?_replicate];by_cases h:i<n*2
 ·rw[List.getElem?_range (by simpa using h),if_pos h];have:i%2=0\/i%2=1:=by omega
  rcases this with e|e<;>simp[e]
 ·rw[List.getElem?_eq_none (by simp;omega),if_neg h];rfl
theorem t_clearP{h:LH}{K:Value->T}{t el d ty:TypeId}{b r o n c:Nat}(hu:P.underlying t=some (.slice el))(m:(P.info? el).map (fun i=>(i.size,i.bytes,i.zero))=some (2,b,some (.agg #[.int .i64 0,.int .i64 0])))(hr:h.get r=some (true,.cells cs d (0,0)))(p:n≠0)(f:o+n*2<=cs.size)
 (e:∀ h',Turn1 r h h'->(∃ a,h'.get r=some (true,.cells a d (0,0))/\a.size=cs.size/\∀ k,k<o->a[k]?=cs[k]?)->(K (.tuple #[])).wp X P Q h'):(T.sem false (Builtin.clear_ #[t] ty #[.slice (some ⟨r,o,none⟩) n c]) K).wp X P Q h:=by
 obtain⟨inf,j,q,s,l⟩:=Zk m;refine J3 (A:=fun v h'=>v=.tuple #[]/\h'=h.get.upd r (true,.cells (setMany cs o (List.replicate (n*2) (.int .i64 0))) d (0,0))) ?_ (by
  rintro v h' ⟨rfl,rfl⟩;refine e _ ⟨fun g hb=>?_,rfl,rfl,rfl⟩ ⟨_,Qd _ _ _,Hi _ _ _,fun k e=>?_⟩
  ·show h.get.upd r _ g=_;rw[Qk _ _ hb]
  ·rw[H8 _ _ _ (by rw[List.length_replicate];omega),if_neg (by omega)])
 unfold Builtin.clear_
 match n,p,f with
 | n+1,_,f =>
  show Qi P (underlying t >>= _) _ _ _;rw[lwp_bind,Qg hu];show Qi P (zeroValue el >>= _) _ _ _;rw[lwp_bind,Jp j l];rw[show Value.cells (.agg #[.int .i64 0,.int .i64 0])=#[.int .i64 0,.int .i64 0] from rfl,zeroCells_pair,lwp_bind];refine Zr _ 0 _ r o cs d hr (by rw[List.length_replicate];omega) (fun v hv=>?_) ⟨rfl,rfl⟩;rw[List.eq_of_mem_replicate hv];rfl
end Go.TM
namespace Go.Y
open Go.TM.Ma
attribute [local irreducible] T.wp CV FWK
variable {h:LH}{p:Option Addr}{n c:Nat}{l:List (Int×Int)}{fv:Value}
theorem c3217{a:Addr}{p q:Int×Int}(h0:h.get.cell? (a.add 0)=some (.int .i64 p.1))(h1:h.get.cell? (a.add 1)=some (.int .i64 p.2)):Pu Tryz.prog 132 #[.agg #[.int .i64 q.1,.int .i64 q.2],.pointer (some a)] h (.bool (q.1==p.1||q.2==p.2)):=by
 refine w3217 Qn ?_;refine yI (fun b1=>?_) (fun b1=>?_)
 ·rw[b1];exact Qe ⟨rfl,rfl⟩
 ·refine gZ ?_;rw[b1];exact Qe ⟨rfl,rfl⟩
theorem c3241{g:Int×Int->Bool}(k:Sl PairE 2 h.get p n l)(t:∀ x:Int×Int,CV X0 Tryz.prog fv #[.agg #[.int .i64 x.1,.int .i64 x.2]] h fun r h'=>r=.bool (g x)/\h'=h) :
  FW X0 Tryz.prog 175 #[.slice p n c,fv] h fun r h'=>h=h'/\∃ i:Nat,i<=n/\(∀ (j:Nat) x,j<i->l[j]?=some x->g x=false)/\((i=n/\r=.int .i64 (-1))\/(i<n/\r=.int .i64 i/\∃ x,l[i]?=some x/\g x=true)):=by
 refine w3241 Qn ?_;have B:=k.1;have hb:=k.2.1;refine Qq (fun o vs h'=>h'=h/\∃ i:Nat,vs=[.int .i64 0,.int .i64 i]/\i<=n/\o=n-i/\∀ (j:Nat) x,j<i->l[j]?=some x->g x=false) ⟨rfl,0,rfl,Nat.zero_le _,rfl,fun j x f=>absurd f (Nat.not_lt_zero _)⟩ ?_;rintro Y o vs _ s ⟨rfl,i,rfl,u,rfl,b⟩;refine yJ (fun q=>?_) (fun q=>?_)
 ·obtain⟨x,a,d,A,w,z⟩:=k.at (i:=i) (by omega);have v:0<=(i:Int)/\(i:Int)<(n:Int):=by omega
  refine gZ ?_;refine J2 (t x) ?_;rintro _ _ ⟨rfl,rfl⟩;refine yI (fun b1=>?_) (fun b1=>?_)
  ·refine gI ?_;refine gZ ?_;exact Qe ⟨rfl,i,u,b,.inr ⟨by omega,rfl,x,d,b1⟩⟩
  ·refine Qa (s (n-(i+1)) _ _ (by omega) ⟨rfl,i+1,?_,by omega,rfl,fun j y f m=>?_⟩)
   ·rw[Qj (by omega) (by omega)];rfl
   ·by_cases e:j=i
    ·subst e;rw[d]at m;cases m;exact b1
    ·exact b j y (by omega) m
 ·refine gZ ?_;exact Qe ⟨rfl,n,Nat.le_refl _,fun j x f d=>b j x (by omega) d,.inl ⟨rfl,rfl⟩⟩
theorem c3216(d:Sl PairE 2 h.get p n l)(o:l.length<=2^29):Gr Tryz.prog 131 #[.slice p n c] h fun r h'=>∃ k g,r=.slice k n g/\Growing PairEnc 150 2 h.get h'.get k n g l:=by
 refine w3216 Qn ?_;have s:=d.1;refine Yw K5 ?_;refine yI (fun i=>?_) (fun i=>?_)
 ·have t:p=none:=by cases p with|none=>rfl|some a=>cases i
  subst t;have h0:l=[]:=by
   cases l with
   | nil=>rfl
   | cons x l =>
    obtain⟨a,q,_⟩:=d.2.2 0 x rfl;cases q
  subst h0;have e:n=0:=s;subst e;exact Qe ⟨LH.le_refl _,none,0,rfl,Growing.nil⟩
 ·refine Uw (h₀:=h) (Enc:=PairEnc) K5 Gq (LH.le_refl _) fun r0 h1 u b m=>?_;refine gZ ?_;refine t_copy (h₀:=h) rfl rfl K5 K5 Gq rfl (by omega) (by omega) m b (d.le PairE.grow b.1) PairE.told fun p2 c2 h2 f _ j=>?_;refine gZ ?_;rw[List.nil_append,Nat.zero_add]at j;rw[Nat.zero_add];exact Qe ⟨f,p2,c2,rfl,j⟩
theorem c3215{h₀:LH}{g:Int×Int->Bool}(J:Growing PairEnc 150 2 h₀.get h.get p n c l)(j0:l.length<=2^29)
 (hf:∀ h',Keeps p h h'->∀ x:Int×Int,CV X0 Tryz.prog fv #[.agg #[.int .i64 x.1,.int .i64 x.2]] h' fun r P=>r=.bool (g x)/\P=h') :
  FW X0 Tryz.prog 130 #[.slice p n c,fv] h fun r h'=>∃ n' c',r=.slice p n' c'/\Keeps p h h'/\Growing PairEnc 150 2 h₀.get h'.get p n' c' (l.filter fun x=>!g x):=by
 refine w3215 Qn ?_;have hl:Sl PairE 2 h.get p n l:=J.sl PairEnc.len (by omega) PairEnc.e (by omega);have hn:=hl.1;refine Qz (Ko (c3241 hl (hf h (Keeps.refl _ _)))) ?_;rintro _ _ ⟨rfl,i,hi,v,⟨V,rfl⟩|⟨V,rfl,x,hx,U⟩⟩
 ·refine yT ?_;have:l.filter (fun x=>!g x)=l:=List.filter_eq_self.2 fun x hx=>by
   obtain⟨j,u⟩:=List.mem_iff_getElem?.1 hx;rw[v j x (by have:=(List.getElem?_eq_some_iff.1 u).1;omega) u];rfl
  exact Qe ⟨n,c,rfl,Keeps.refl _ _,by rw[this];exact J⟩
 refine gZ ?_;refine Qt (fun e=>absurd e (by simp)) (fun _=>?_);obtain⟨vs,⟨o0,F⟩,rows⟩:=J.row;have new:=J.new;rcases F with⟨rfl,L,_⟩|⟨r,s,rfl,hr,S,m0,hv⟩
 ·omega
 have H:RP s l:=fun j y u=>by
  obtain⟨ws,N,B⟩:=rows.at PairEnc.len j y u;rw[N]at B;exact⟨hv _ _ (B 0 _ rfl),hv _ _ (B 1 _ rfl)⟩
 rw[Qj (by omega) (by omega)];have A:(l.take (i+1)).filter (fun x=>!g x)=l.take i:=by
  rw[filter_take hx,U];simp only[Bool.not_true,Bool.false_eq_true,if_false,List.append_nil];refine List.filter_eq_self.2 fun y I=>?_;obtain⟨j,u⟩:=List.mem_iff_getElem?.1 I;rw[List.getElem?_take]at u;split at u
  ·rename_i W;rw[v j y W u];rfl
  ·cases u
 refine Qq (fun mm vs h'=>∃ (j:Nat) (cs:Array Value) (a:Nat),vs=[.int .i64 a,.int .i64 j]/\a<j/\j<=n/\mm=n-j/\Turn1 r h h'/\h'.get r=some (true,.cells cs 150 (0,0))/\cs.size=c*2/\a=((l.take j).filter fun x=>!g x).length /\
   RP cs ((l.take j).filter fun x=>!g x)/\∀ (k:Nat) y,j<=k->l[k]?=some y->cs[k*2]?=some (.int .i64 y.1)/\cs[k*2+1]?=some (.int .i64 y.2))
  ⟨i+1,s,i,by simp,by omega,by omega,rfl,Turn1.refl _ _,hr,S,by rw[A,List.length_take];omega,fun k y b=>?_,fun k y _ b=>H k y b⟩ ?_
 ·rw[A,List.getElem?_take]at b;split at b
  ·exact H k y b
  ·cases b
 rintro Y mm vs h1 hY ⟨j,cs,a,rfl,l0,u,rfl,t1,t,G,m,o,d⟩;have ks:Keeps (some ⟨r,0,none⟩) h h1:=t1.keeps;refine yJ (fun N=>?_) (fun N=>?_)
 ·have X:0<=(j:Int)/\(j:Int)<(n:Int):=by omega
  have a0:j<l.length:=by omega
  obtain⟨y,I⟩ : ∃ y,l[j]?=some y:=⟨l[j],List.getElem?_eq_getElem a0⟩
  have R:h1.get.cell? (Addr.add (Addr.add ⟨r,0,none⟩ (Int.toNat (j:Int)*2)) 0)=some (.int .i64 y.1):=by
   rw[Int.toNat_natCast,Qh,Qh,Nat.zero_add,Nat.add_zero];unfold Cells.cell?;rw[t];exact(d j y (Nat.le_refl _) I).1
  have K:h1.get.cell? (Addr.add (Addr.add ⟨r,0,none⟩ (Int.toNat (j:Int)*2)) 1)=some (.int .i64 y.2):=by
   rw[Int.toNat_natCast,Qh,Qh,Nat.zero_add];unfold Cells.cell?;rw[t];exact(d j y (Nat.le_refl _) I).2
  have q:=filter_take (f:=fun x=>!g x) I;refine gZ ?_;refine J2 (hf h1 ks y) ?_;rintro _ Q ⟨rfl,hh⟩;obtain rfl:h1=Q:=hh.symm;refine yI (fun b1=>?_) (fun b1=>?_)
  ·have E:0<=(a:Int)/\(a:Int)<(n:Int):=by omega
   refine gZ ?_;have k0:a*2+1<cs.size:=by omega
   refine Zo (r:=r) (j:=a*2) (by rw[Qh,Qh];simp) t (by omega) rfl fun h2 t2 B=>?_;refine Zo (r:=r) (j:=a*2+1) (by rw[Qh,Qh];simp) B (by rw[Array.size_setIfInBounds];omega) rfl fun h3 t3 e3=>?_;rw[b1,if_pos rfl]at q;have get:∀ k,((cs.setIfInBounds (a*2) (.int .i64 y.1)).setIfInBounds (a*2+1) (.int .i64 y.2))[k]?=if k=a*2+1 then some (.int .i64 y.2) else if k=a*2 then some (.int .i64 y.1) else cs[k]?:=fun k=>by
    by_cases D:k=a*2+1
    ·subst D;rw[Array.getElem?_setIfInBounds_self_of_lt (by rw[Array.size_setIfInBounds];omega),if_pos rfl]
    ·rw[Array.getElem?_setIfInBounds_ne (Ne.symm D),if_neg D];by_cases O:k=a*2
     ·subst O;rw[Array.getElem?_setIfInBounds_self_of_lt (by omega),if_pos rfl]
     ·rw[Array.getElem?_setIfInBounds_ne (Ne.symm O),if_neg O]
   refine Qa (hY (n-(j+1)) _ _ (by omega) ⟨j+1,_,a+1,?_,by omega,by omega,rfl,t1.trans (t2.trans t3),e3,by simpa using G,by rw[q,List.length_append,<- m];rfl,fun k z b=>?_,fun k z b L=>?_⟩)
   ·rw[Qj (by omega) (by omega),Qj (by omega) (by omega)];rfl
   ·rw[q]at b;rw[get,get];by_cases e:k=a
    ·subst e;rw[m,List.getElem?_append_right (Nat.le_refl _),Nat.sub_self]at b;cases b;rw[if_neg (by omega),if_pos rfl,if_pos rfl];exact⟨rfl,rfl⟩
    ·have e0:k<((l.take j).filter fun x=>!g x).length:=by
      have:=(List.getElem?_eq_some_iff.1 b).1;rw[List.length_append,<- m]at this;rw[<- m];simp at this;omega
     rw[List.getElem?_append_left e0]at b;rw[if_neg (by omega),if_neg (by omega),if_neg (by omega),if_neg (by omega)];exact o k z b
   ·rw[get,get,if_neg (by omega),if_neg (by omega),if_neg (by omega),if_neg (by omega)];exact d k z (by omega) L
  ·rw[b1,if_neg (by simp),List.append_nil]at q;refine Qa (hY (n-(j+1)) _ _ (by omega) ⟨j+1,cs,a,?_,by omega,by omega,rfl,t1,t,G,by rw[q];exact m,fun k z b=>o k z (by rw[q]at b;exact b),fun k z b L=>d k z (by omega) L⟩);rw[Qj (by omega) (by omega)];rfl
 ·have X:j=n:=by omega
  have C:l.take j=l:=List.take_of_length_le (by omega);rw[C]at m o;have E:a<=n:=by omega
  refine gZ ?_;refine Hd K5 Gq E ?_;rw[if_neg (by omega),show (some (⟨r,0,none⟩ : Addr)).map (·.add (a*2))=some ⟨r,a*2,none⟩ by simp[Qh]];refine gZ ?_;refine t_clearP K5 Gq t (by omega) (by omega) fun h2 t2 ⟨M,B,e3,D⟩=>?_;refine Hx K5 Gq (by omega) ?_;refine gZ ?_;refine Qe ⟨a,c,rfl,(t1.trans t2).keeps,⟨flatP (l.filter fun x=>!g x),⟨by rw[U2,<- m],.inr ⟨r,M,rfl,B,by omega,by omega,fun k w b=>?_⟩⟩,rows_pairs _⟩,new⟩;have Z:k<a*2:=by
   have:=(List.getElem?_eq_some_iff.1 b).1;rw[U2,<- m]at this;exact this
  rw[D k Z];exact o.flat b
end Go.Y
end
section
namespace Go.TM
theorem growKept{α:Type}{Enc:α->List Value->Prop}{el:TypeId}{k:Nat}{B h h':Cells}{p:Option Addr}{n c:Nat}{l:List α}(d:∀ a y,p=some a->h a.block=some y->h' a.block=some y)(g:Growing Enc el k B h p n c l):Growing Enc el k B h' p n c l:=by
 obtain⟨vs,⟨h1,h2⟩,h3⟩:=g.row;refine⟨⟨vs,⟨h1,?_⟩,h3⟩,g.new⟩;rcases h2 with h2|⟨r,cs,rfl,b,h5⟩
 ·exact .inl h2
 ·exact .inr ⟨r,cs,rfl,d _ _ rfl b,h5⟩
theorem Growing.le_cap{α:Type}{Enc:α->List Value->Prop}{el:TypeId}{k:Nat}{B h:Cells}{p:Option Addr}{n c:Nat}{l:List α}(g:Growing Enc el k B h p n c l):n<=c:=by
 obtain⟨_,o,_⟩:=g.row;exact o.le_cap
end Go.TM
namespace Go.Y
open Go.TM.Ma
attribute [local irreducible] T.wp CV FWK
theorem t_pushP'{X:XP}{Q:Leaf->LH->Prop}{h h₀:LH}{k:Value->T}{p:Option Addr}{n c:Nat}{l:List (Int×Int)}{x y:Int}(g:Growing PairEnc 150 2 h₀.get h.get p n c l)(hle:h₀.le h)(j:n+1<=2^30)
 (i:∀ e d h',h₀.le h'->(∀ r y,(∀ a,p=some a->a.block≠r)->h.get r=some y->h'.get r=some y)->Growing PairEnc 150 2 h₀.get h'.get e (n+1) d (l++[(x,y)])->(k (.slice e (n+1) d)).wp X Tryz.prog Q h') :
  (T.sem false (Instr.buildSlice 98 1 #[(0,.agg #[x,.int .i64 y])]) fun v=>T.unS v fun a m c2=>T.sem false (Builtin.append_ #[98,98] 98 #[.slice p n c,.slice a m c2]) k).wp X Tryz.prog Q h :=
 Gd (x,y) [.int .i64 x,.int .i64 y] rfl rfl K5 Gq rfl (by decide) (by decide) (by kernel_rfl) rfl (by intro v hv;simp at hv;rcases hv with rfl|rfl<;>rfl) j g hle rfl fun e d h' f b g'=>i e d h' f b g'
theorem c3193{h:LH}{p0 p1 p2 p q pp:Option Addr}{n0 c0 n1 c1 n2 c2 n c m d pn pc:Nat}{e lev:Int}{a:List Int}{G:Ed}{many:Nat}(ha:Sl IntE 1 h.get p n a)(l1:a.Nodup)(hG:Sl PairE 2 h.get pp pn G)(o1:pn<=pc)(u0:∀ x∈G,x.1∈a)(a2:G.length<=2^20)(hM:Mat G many) :
  Gr Tryz.prog 80 #[.agg #[.slice p0 n0 c0,.slice p1 n1 c1,.slice p2 n2 c2,.int .i64 e,lev,.slice p n c,.slice q m d],.slice pp pn pc,.int .i64 many] h fun r _=>∃ p n c,r=.slice p n c:=by
 refine w3193 Qn ?_;have z2:=hM.len;refine Qq (fun mm vs h'=>h.le h'/\∃ (f:Ed) (O:Ed) (p:Option Addr) (n c:Nat) (op:Option Addr) (on oc:Nat),vs=[.slice p n c,.slice op on oc]/\on<=many/\mm=many-on/\n<=c/\Sl PairE 2 h'.get p n f/\(∀ x∈f,x.1∈a)/\f.length<=G.length/\Growing PairEnc 150 2 h.get h'.get op on oc O/\O.length<=many/\Mat f (many-on))
  ⟨LH.le_refl _,G,[],pp,pn,pc,none,0,0,rfl,Nat.zero_le _,rfl,o1,hG,u0,Nat.le_refl _,Growing.nil,Nat.zero_le _,hM⟩ ?_
 rintro Y mm vs h1 hY ⟨j0,f,O,gp,M,gc,op,on,oc,rfl,b3,rfl,a1,N,Q,o2,gr,hO,w0⟩;refine yJ (fun e1=>?_) (fun e1=>?_)
 ·obtain⟨k,hk⟩ : ∃ k,many-on=k+1:=⟨many-on-1,by omega⟩
  have u:=w0;rw[hk]at u;obtain⟨i0,x0,C,X⟩:=u.pop;have x2:=N.1;have b2:i0<M:=by have:=(List.getElem?_eq_some_iff.1 C).1;omega
  have g2:=gr.count PairEnc.len (by omega);refine J7 (fun mm vs h'=>h1.le h'/\∃ i:Nat,vs=[.slice gp M gc,.slice op on oc,.int .i64 i]/\mm=M-i/\i<=i0)
   (fun vs h'=>h.le h'/\∃ (J O2:Ed) (p:Option Addr) (n c:Nat) (t:Option Addr) (s:Nat) (i:Int),vs=[.slice p n c,.slice t (on+1) s,.int .i64 i]/\n<=c/\Sl PairE 2 h'.get p n J/\(∀ x∈J,x.1∈a)/\J.length<=G.length/\Growing PairEnc 150 2 h.get h'.get t (on+1) s O2/\O2.length<=many/\Mat J k)
   ⟨LH.le_refl _,0,rfl,rfl,Nat.zero_le _⟩ ?_ ?_
  ·rintro Y2 mm vs h2 z0 ⟨o,i,rfl,rfl,hi⟩;have Z:=LH.le_trans j0 o;refine gZ ?_;refine t_if (fun e2=>?_) (fun e2=>absurd (by omega) e2);have P:=N.le PairE.grow o.1;obtain⟨x,ad,hx,q2,f1,f2⟩:=P.at (i:=i) (by omega);have y2:0<=(i:Int)/\(i:Int)<(M:Int):=by omega
   refine gZ ?_;refine J1 fun r hr=>?_;have k0:=Qp (x:=(true,.cells #[.int .i64 0,.int .i64 0] 150 (0,0))) hr;refine Zo (r:=r) (j:=0) (by rw[Qh]) (Qd _ _ _) (by simp) rfl fun g1 t1 L=>?_;refine Zo (r:=r) (j:=1) (by rw[Qh]) L (by simp) rfl fun h3 t2 A=>?_;have F:h2.le h3:=(t1.trans t2).le k0 hr;have b0:h3.get.cell? (Addr.add ⟨r,0,none⟩ 0)=some (.int .i64 x.1):=by
    rw[Qh];unfold Cells.cell?;rw[A];rfl
   have b1:h3.get.cell? (Addr.add ⟨r,0,none⟩ 1)=some (.int .i64 x.2):=by
    rw[Qh];unfold Cells.cell?;rw[A];rfl
   clear t1 t2 L A k0;have l:=LH.le_trans o F;have a0:=LH.le_trans Z F;rw[Qj (n:=(i:Int)+1) (by omega) (by omega)];refine Hd (i:=i+1) K5 Gq (by omega) ?_;have B:=(P.le PairE.grow F.1).drop (c:=gc) (i:=i+1) a1;generalize (if gc=i+1 then gp else gp.map (·.add ((i+1)*2)))=dp at *;refine gZ ?_;refine t_gr (c3216 B (by rw[List.length_drop];omega)) ?_;rintro _ h4 H ⟨p4,c4,rfl,g4⟩;refine gZ ?_;have r2:(f.drop (i+1)).length<=f.length:=by rw[List.length_drop];omega
   refine Qz (Ko (c3215 (g:=fun y=>y.1==x.1||y.2==x.2) g4 (by omega) fun h' ks y=>Kq (first:=#[]) (args:=#[.agg #[.int .i64 y.1,.int .i64 y.2]]) (cap:=#[.pointer (some ⟨r,0,none⟩)]) Qn rfl (c3217 (Qc (ks.le H g4.new).1 b0) (Qc (ks.le H g4.new).1 b1)))) ?_;rintro _ h5 ⟨n5,c5,rfl,ks,g5⟩;have z:=ks.le H g4.new;have w:=LH.le_trans a0 z;have u2:=List.length_filter_le (fun y:Int×Int=>!(y.1==x.1||y.2==x.2)) (f.drop (i+1));have v:∀ y∈(f.drop (i+1)).filter fun y:Int×Int=>!(y.1==x.1||y.2==x.2),y.1∈a:=fun y hy=>Q y (List.mem_of_mem_drop (List.mem_filter.1 hy).1);have E:i=i0->Mat ((f.drop (i+1)).filter fun y:Int×Int=>!(y.1==x.1||y.2==x.2)) k:=fun e=>by
    subst e;rw[hx]at C;cases C;exact X
   generalize (f.drop (i+1)).filter (fun y:Int×Int=>!(y.1==x.1||y.2==x.2))=rest at *;have u1:Sl PairE 2 h5.get p4 n5 rest:=g5.sl PairEnc.len (by omega) PairEnc.e (by omega);refine gZ ?_;refine t_gr (c3191 (ha.le IntE.grow w.1) l1 u1 v) ?_;rintro _ h6 I ⟨nu,rfl,y0,s0⟩;have b:=LH.le_trans z I;have e0:=LH.le_trans w I;have wk:wrap .i64 (wrap .i64 ((many:Int)-(on:Int))-1)=(k:Int):=by rw[Qj (n:=(many:Int)-(on:Int)) (by omega) (by omega),Qj (by omega) (by omega)];omega
   rw[wk];refine yJ (fun e3=>?_) (fun e3=>?_)
   ·have l2:=Qc b.1 b0;have m2:=Qc b.1 b1;have q0:=gr.le (LH.le_trans l b).1;refine gZ ?_;refine t_pushP' q0 e0 (by omega) fun p7 c7 h7 x1 D g7=>?_;refine gZ ?_;have m0:Growing PairEnc 150 2 h3.get h7.get p4 n5 c5 rest:=growKept (fun ad y hp hy=>D _ _ (fun ao R e=>?_) hy) (g5.le I.1)
    ·exact⟨x1,rest,O++[(x.1,x.2)],p4,n5,c5,p7,c7,_,rfl,g5.le_cap,m0.sl PairEnc.len (by omega) PairEnc.e (by omega),v,by omega,g7,by rw[List.length_append];simp;omega,y0.less (by omega)⟩
    ·-- z1 block of k2 g3 K to is older j2 z1 rest
     have V:=g5.new ad hp;obtain⟨vs,⟨_,ho⟩,_⟩:=gr.row;rcases ho with⟨rfl,_⟩|⟨r',cs,rfl,q1,_⟩
     ·cases R
     ·cases R;have:=l.1 _ _ q1;rw[show r'=ad.block from e,V]at this;cases this
   ·have a3:i≠i0:=fun e=>e3 (by have:=weak (E e) s0;omega);refine Qa (z0 (M-(i+1)) _ _ (by omega) ⟨LH.le_trans l b,i+1,?_,rfl,by omega⟩);rw[show ((i+1:Nat):Int)=(i:Int)+1 from rfl]
  ·rintro vs h2 ⟨o,J,O2,p2,y1,l0,t,s,i,rfl,W,r1,S,U,o0,m1,j1⟩;refine gZ ?_;exact Qa (hY (many-(on+1)) _ _ (by omega) ⟨o,J,O2,p2,y1,l0,t,on+1,s,rfl,by omega,rfl,W,r1,S,U,o0,m1,by rw[show many-(on+1)=k by omega];exact j1⟩)
 ·refine gZ ?_;exact Qe ⟨j0,_,_,_,rfl⟩
end Go.Y
end
section
namespace Go.TM
open Go.TM.Ma
def pickT(a:List Int)(s i:Nat):List Int:=((List.range i).filter s.testBit).filterMap fun j=>a[j]?
variable {a b:List Int}{s i:Nat}{t:GTab}{e lev:Int}
theorem pickT_succ{x:Int}(b:a[i]?=some x):pickT a s (i+1)=pickT a s i++(if s.testBit i then [x] else []):=by
 unfold pickT;rw[List.range_succ,List.filter_append,List.filterMap_append];congr 1;by_cases h:s.testBit i=true
 ·simp[h,b]
 ·simp[h]
theorem pickT_len(a:List Int)(s i:Nat):(pickT a s i).length<=i:=by
 unfold pickT;refine Nat.le_trans (List.length_filterMap_le _ _) (Nat.le_trans (List.length_filter_le _ _) (by simp))
theorem pickT_sub(a:List Int)(s:Nat):∀ i,i<=a.length->(pickT a s i).Sublist (a.take i)
 | 0,_=>by simp[pickT]
 | i+1,h=>by
  have b:a[i]?=some a[i]:=List.getElem?_eq_getElem (by omega);rw[pickT_succ b,List.take_add_one,b];refine List.Sublist.append (pickT_sub a s i (by omega)) ?_;split
  ·exact List.Sublist.refl _
  ·exact List.nil_sublist _
theorem mem_pickT{v:Int}:v∈pickT a s i↔∃ j,j<i/\s.testBit j=true/\a[j]?=some v:=by
 unfold pickT;rw[List.mem_filterMap];constructor
 ·rintro⟨j,h1,h2⟩;obtain⟨h3,b⟩:=List.mem_filter.1 h1;exact⟨j,List.mem_range.1 h3,b,h2⟩
 ·rintro⟨j,h1,h2,h3⟩;exact⟨j,List.mem_filter.2 ⟨List.mem_range.2 h1,h2⟩,h3⟩
theorem bits_ex(p:Nat->Bool):∀ n,∃ j,j<2^n/\∀ b,b<n->j.testBit b=p b:=by
 intro n
 induction n with
 | zero=>exact⟨0,by omega,fun b hb=>by omega⟩
 | succ n f =>
  obtain⟨j,d,hb⟩:=f;by_cases e:p n=true
  ·refine⟨2^n+j,by rw[Nat.pow_succ];omega,fun b c=>?_⟩;by_cases a:b=n
   ·subst a;rw[Nat.testBit_two_pow_add_eq,Nat.testBit_lt_two_pow d,e];rfl
   ·rw[Nat.testBit_two_pow_add_gt (by omega)];exact hb b (by omega)
  ·refine⟨j,by rw[Nat.pow_succ];omega,fun b c=>?_⟩;by_cases a:b=n
   ·subst a;rw[Nat.testBit_lt_two_pow d];simpa using e
   ·exact hb b (by omega)
theorem once_ex:∀ l:List Int,∃ R:List Int,R.Nodup/\∀ y,y∈R↔y∈l
 | []=>⟨[],List.nodup_nil,fun y=>Iff.rfl⟩
 | x::l=>by
  obtain⟨R,h1,h2⟩:=once_ex l;by_cases e:x∈l
  ·exact⟨R,h1,fun y=>by
    rw[h2,List.mem_cons];constructor
    ·exact .inr
    ·rintro(rfl|h)
     ·exact e
     ·exact h⟩
  ·exact⟨x::R,List.nodup_cons.2 ⟨fun h=>e ((h2 x).1 h),h1⟩,fun y=>by rw[List.mem_cons,List.mem_cons,h2]⟩
theorem mem_struck{l:List Int}{p:Int×Int}:p∈pairsF t e lev a b l []↔p∈pairsF t e lev a b [] []/\p.1∉l:=by
 rw[Ka,Ka];unfold pairOk;simp only[List.not_mem_nil,decide_false,Bool.false_or,Bool.not_or,Bool.and_eq_true,Bool.not_eq_true',List.contains_eq_mem,decide_eq_false_iff_not,not_false_eq_true,true_and];constructor
 ·rintro⟨h1,h2,h3,c⟩;exact⟨⟨h1,h2,c⟩,h3⟩
 ·rintro⟨⟨h1,h2,c⟩,h3⟩;exact⟨h1,h2,h3,c⟩
def Cost(t:GTab)(e lev:Int)(a b:List Int)(s k:Nat):Prop:=∀ R:List Int,R.Nodup->(∀ y,y∈R↔∃ g∈pairsF t e lev a b (pickT a s a.length) [],g.2=y)->(pickT a s a.length).length+R.length≠k
theorem cost_some{k:Nat}(o:a.Nodup)(x:Mat (pairsF t e lev a b [] []) k)(hC:Cov (pairsF t e lev a b [] []) k):∃ s,s<2^a.length/\¬ Cost t e lev a b s k:=by
 obtain⟨l,z,hr⟩:=struck_some hC o fun p i=>(Ka.1 i).1;obtain⟨s,B,hb⟩:=bits_ex (fun j=>match a[j]? with|some v=>decide (v∈l)|none=>false) a.length;have c:∀ v,v∈pickT a s a.length↔v∈l:=fun v=>by
  rw[mem_pickT];constructor
  ·rintro⟨j,h1,h2,h3⟩;rw[hb j h1,h3]at h2;exact of_decide_eq_true h2
  ·intro hv;obtain⟨j,f⟩:=List.mem_iff_getElem?.1 (z.subset hv);have d:=(List.getElem?_eq_some_iff.1 f).1;exact⟨j,d,by rw[hb j d,f];exact decide_eq_true hv,f⟩
 have m:(pickT a s a.length).Nodup:=List.Nodup.sublist (pickT_sub a s _ (Nat.le_refl _)) (by rw[List.take_length];exact o);have h1:(pickT a s a.length).length<=l.length:=Z2 m fun v hv=>(c v).1 hv;obtain⟨R,q,n⟩:=once_ex ((pairsF t e lev a b (pickT a s a.length) []).map (·.2));refine⟨s,B,fun hc=>hc R q (fun y=>by rw[n,List.mem_map]) ?_⟩;have up:=hr R q fun y C=>by
  obtain⟨g,h3,u⟩:=List.mem_map.1 ((n y).1 C);obtain⟨h5,w⟩:=mem_struck.1 h3;exact⟨g,h5,fun h=>w ((c _).2 h),u⟩
 have D:=struck_ge (l:=pickT a s a.length) (r:=R) x fun p i A=>(n _).2 (List.mem_map.2 ⟨p,mem_struck.2 ⟨i,A⟩,rfl⟩);omega
end Go.TM
namespace Go.Y
open Go.TM.Ma
attribute [local irreducible] T.wp CV FWK
variable {h:LH}{f:TabC}{t:GTab}{e:Int}
theorem c3122(hr:TabR h.get f t)(ok:TabOk t)(he:0<=e/\e<(t.eds.length:Int))(bits:Int) :
  Gr Tryz.prog 10 #[tabV f,.int .i64 e,.int .u8 bits] h fun r h'=>∃ p n c l,r=.slice p n c/\Sl IntE 1 h'.get p n l/\ListOk t e l:=by
 refine w3122 Qn ?_;have D:=hr.eds.1;have L:=ok.items8 e;refine Qq (fun q vs h'=>h.le h'/\∃ (i:Nat) (p:Option Addr) (n c:Nat) (l:List Int),vs=[.slice p n c,.int .i64 i]/\i<=(t.items e).length/\q=(t.items e).length-i/\Growing IntEnc 3 1 h.get h'.get p n c l/\l.length<=i/\l.Pairwise (·<·)/\∀ v∈l,0<=v/\v<(i:Int))
  ⟨LH.le_refl _,0,none,0,0,[],rfl,Nat.zero_le _,rfl,Growing.nil,Nat.le_refl _,List.Pairwise.nil,fun v hv=>by simp at hv⟩ ?_
 rintro Y q vs h1 o ⟨b,i,p,n,c,l,rfl,M,rfl,j,C,d,a⟩;obtain⟨it,J,g,A,N,H,c0,K,u⟩:=(hr.le b.1).eds.at (i:=e.toNat) (by omega);have k:H=(t.items e).length:=by
  unfold GTab.items;rw[List.getD_eq_getElem?_getD,g];exact u.1
 have B:0<=e/\e<(f.n0:Int):=by omega
 have E:=j.count IntEnc.len (by omega);refine gZ ?_;rw[k];refine t_if (fun w=>?_) (fun w=>?_)
 ·refine yI (fun _=>?_) (fun _=>?_)
  ·refine Ub j b (by omega) fun I s h2 m z=>?_;refine gZ ?_;refine Qa (o ((t.items e).length-(i+1)) _ _ (by omega) ⟨m,i+1,I,n+1,s,l++[(i:Int)],?_,by omega,rfl,z,by rw[List.length_append];simp;omega,?_,fun v hv=>?_⟩)
   ·rw[Qj (by omega) (by omega)];rfl
   ·rw[List.pairwise_append];refine⟨d,by simp,fun x F y G=>?_⟩;rw[List.mem_singleton]at G;have:=a x F;omega
   ·rw[List.mem_append,List.mem_singleton]at hv;rcases hv with hv|rfl
    ·have:=a v hv;omega
    ·omega
  ·refine Qa (o ((t.items e).length-(i+1)) _ _ (by omega) ⟨b,i+1,p,n,c,l,?_,by omega,rfl,j,by omega,d,fun v hv=>by have:=a v hv;omega⟩);rw[Qj (by omega) (by omega)];rfl
 ·refine gZ ?_;refine Qe ⟨b,p,n,c,l,rfl,j.sl IntEnc.len (by omega) IntEnc.e (by omega),fun v hv=>?_,d⟩;have:=a v hv;exact⟨he.1,he.2,this.1,by omega⟩
theorem c3164(hr:TabR h.get f t)(ok:TabOk t){lev:Int}(he:0<=e/\e<(t.eds.length:Int))(w:1<=lev/\lev<=5){p q:Option Addr}{n c m d:Nat}{a b:List Int}(P:Sl IntE 1 h.get p n a)(K:ListOk t e a)(hb:Sl IntE 1 h.get q m b)(ob:ListOk t e b) :
  Gr Tryz.prog 38 #[tabV f,.int .i64 e,.slice p n c,.slice q m d,lev] h fun r _=>∃ (pA:Option Addr) (nA cA:Nat) (pB:Option Addr) (nB cB:Nat) (pC:Option Addr) (nC cC k:Nat),r=.tuple #[.slice pA nA cA,.slice pB nB cB,.slice pC nC cC,.int .i64 0]/\nA+nB=k/\Mat (pairsF t e lev a b [] []) k/\Cov (pairsF t e lev a b [] []) k:=by
 refine w3164 Qn ?_;have hn:=P.1;have h8:=K.len8 ok;have j0:=Ux ok w.1 (x:=[]) (y:=[]) K K.nodup ob.nodup;refine t_gr (c3188 hr ok he w P K hb ob) ?_;rintro _ h1 E rfl;refine yF ?_;refine t_gr (c3190 (px:=none) (nx:=0) (cx:=0) (x:=[]) (py:=none) (ny:=0) (cy:=0) (y:=[]) (hr.le E.1) (P.le IntE.grow E.1) (hb.le IntE.grow E.1) Sl.nil Sl.nil) ?_;intro v h2 o1 hH;have Z:∀ x∈pairsF t e lev a b [] [],x.1∈a:=fun x hx=>(Ka.1 hx).1;have Q:=fun {k:Nat}=>cost_some (t:=t) (e:=e) (lev:=lev) (a:=a) (b:=b) (k:=k) K.nodup;refine t_gr (c3189 hH (by omega)) ?_;rintro _ h3 q1 ⟨pg,cg,rfl,y0,l0⟩;have I:=LH.le_trans E (LH.le_trans o1 q1);refine gZ ?_;refine t_gr (c3191 (P.le IntE.grow I.1) K.nodup l0 Z) ?_;rintro _ h4 q0 ⟨k,rfl,hM,hC⟩;have J:=LH.le_trans I q0;have x1:k<=28:=Nat.le_trans hM.len j0;have a2:2^n<=2^8:=Nat.pow_le_pow_right (by omega) (by omega);have u0:wrap .i64 (1*2^min ((n:Int)).toNat 64)=((2^n:Nat):Int):=by
  have e1:(1:Int)*2^min ((n:Int)).toNat 64=((2^n:Nat):Int):=by
   rw[Int.toNat_natCast,Nat.min_eq_left (by omega),Int.one_mul]
   norm_cast
  rw[e1];clear e1;generalize 2^n=M at *;exact Qj (by omega) (by omega)
 refine gZ ?_;rw[u0];refine J7 (fun mm vs h'=>h4.le h'/\∃ (l:Option Addr) (fn G:Nat) (u:Option Addr) (o gc s:Nat) (fa:List Int),vs=[.slice l fn G,.slice u o gc,.int .i64 s]/\s<=2^n/\mm=2^n-s/\Sl IntE 1 h'.get l fn fa/\(fn+o=k\/(l=none/\u=none/\∀ N,N<s->Cost t e lev a b N k)))
  (fun vs h'=>h4.le h'/\∃ (l:Option Addr) (fn G:Nat) (u:Option Addr) (o gc:Nat) (s:Int),vs=[.slice l fn G,.slice u o gc,.int .i64 s]/\fn+o=k)
  ⟨LH.le_refl _,none,0,0,none,0,0,0,[],rfl,Nat.zero_le _,rfl,Sl.nil,.inr ⟨rfl,rfl,fun N hs=>absurd hs (Nat.not_lt_zero _)⟩⟩ ?_ ?_
 ·rintro Y mm vs g1 hY ⟨X,l,fn,G,u,o,gc,s,fa,rfl,hs,rfl,m1,g⟩;have B:=LH.le_trans J X;refine yJ (fun e1=>?_) (fun e1=>?_)
  ·have o2:s<2^n:=by
    generalize 2^n=M at *;omega
   have j1:s<2^32:=by
    generalize 2^n=M at *;omega
   refine J7 (fun mm vs h'=>g1.le h'/\∃ (i:Nat) (L:Option Addr) (F O:Nat),vs=[.slice L F O,.int .i64 i]/\i<=n/\mm=n-i/\Growing IntEnc 3 1 g1.get h'.get L F O (pickT a s i))
    (fun vs h'=>g1.le h'/\∃ (L:Option Addr) (F O:Nat) (i:Int),vs=[.slice L F O,.int .i64 i]/\Sl IntE 1 h'.get L F (pickT a s a.length)) ⟨LH.le_refl _,0,none,0,0,rfl,Nat.zero_le _,rfl,Growing.nil⟩ ?_ ?_
   ·rintro Y2 mm vs g2 e0 ⟨D,i,L,F,O,rfl,hi,rfl,gr⟩;have a1:=pickT_len a s i;have k2:=gr.count IntEnc.len (by omega);refine yJ (fun V=>?_) (fun V=>?_)
    ·obtain⟨x,ad,hx,b2,e3⟩:=(P.le IntE.grow (LH.le_trans B D).1).at (i:=i) (by omega);unfold IntE at e3;have j2:0<=(i:Int)/\(i:Int)<(n:Int):=by omega
     have C:=pickT_succ (s:=s) hx;refine gZ ?_;rw[bit_test j1];refine Qt (fun W=>?_) (fun W=>?_)
     ·rw[W,if_pos rfl]at C;refine Ub gr D (by omega) fun p2 c2 g3 l3 w0=>?_;refine gZ ?_;refine Qa (e0 (n-(i+1)) _ _ (by omega) ⟨l3,i+1,p2,F+1,c2,?_,by omega,rfl,by rw[C];exact w0⟩);rw[Qj (by omega) (by omega)];rfl
     ·rw[W,if_neg (by simp),List.append_nil]at C;refine Qa (e0 (n-(i+1)) _ _ (by omega) ⟨D,i+1,L,F,O,?_,by omega,rfl,by rw[C];exact gr⟩);rw[Qj (by omega) (by omega)];rfl
    ·refine gZ ?_;have:i=a.length:=by omega
     subst this;exact⟨D,L,F,O,_,rfl,gr.sl IntEnc.len (by omega) IntEnc.e (by omega)⟩
   rintro vs g2 ⟨D,pl,nl,cl,i,rfl,S⟩;have U:=LH.le_trans B D;have a1:=pickT_len a s a.length;have m2:=S.1;refine gZ ?_;refine t_gr (c3192 ok w.1 (hr.le U.1) (P.le IntE.grow U.1) K (hb.le IntE.grow U.1) ob S) ?_;rintro _ g3 l3 ⟨pR,cR,R,rfl,u1,x0,a0⟩;have m0:=LH.le_trans D l3;have o0:=LH.le_trans X m0;have A:=S.le IntE.grow l3.1;have z:=m1.le IntE.grow m0.1;refine gZ ?_;rw[Qj (n:=(nl:Int)+(R.length:Int)) (by omega) (by omega)]
   -- s0 next round, with s0 new pair of lists or with s0 old one
   have take:nl+R.length=k->Y [.slice pl nl cl,.slice pR R.length cR,.int .i64 (wrap .i64 ((s:Int)+1))] g3:=fun H=>by
    refine hY (2^n-(s+1)) _ _ (by generalize 2^n=M at *;omega) ⟨o0,pl,nl,cl,pR,R.length,cR,s+1,_,?_,by generalize 2^n=M at *;omega,rfl,A,.inl H⟩;rw[Qj (by omega) (by omega)];rfl
   have keep:(fn+o=k\/(l=none/\u=none/\Cost t e lev a b s k))->Y [.slice l fn G,.slice u o gc,.int .i64 (wrap .i64 ((s:Int)+1))] g3:=fun H=>by
    refine hY (2^n-(s+1)) _ _ (by generalize 2^n=M at *;omega) ⟨o0,l,fn,G,u,o,gc,s+1,fa,?_,by generalize 2^n=M at *;omega,rfl,z,?_⟩
    ·rw[Qj (by omega) (by omega)];rfl
    ·rcases g with g|⟨h1,h2,h3⟩
     ·exact .inl g
     ·rcases H with H|⟨_,_,H⟩
      ·exact .inl H
      ·refine .inr ⟨h1,h2,fun N k0=>?_⟩;by_cases e:N=s
       ·subst e;exact H
       ·exact h3 N (by omega)
   refine Qt (fun V=>?_) (fun V=>?_)
   ·have j:nl+R.length=k:=by
     have:(nl:Int)+(R.length:Int)=(k:Int):=by simpa using V
     omega
    refine Qt (fun _=>Qa (take j)) (fun _=>?_);have old:(l.isNone&&u.isNone)=false->fn+o=k:=fun hh=>by
     rcases g with g|⟨h1,h2,_⟩
     ·exact g
     ·rw[h1,h2]at hh;cases hh
    refine Yw und50 ?_;refine yI (fun e3=>?_) (fun e3=>?_)
    ·refine Yw und50 ?_;refine gZ ?_;refine Qt (fun W=>Qa (take j)) (fun W=>?_);refine t_pu (c97 A z) ?_;refine gZ ?_;refine t_if (fun _=>Qa (take j)) (fun _=>Qa (keep (.inl (old (by rw[W,Bool.and_false])))))
    ·refine t_pu (c97 A z) ?_;refine gZ ?_;refine t_if (fun _=>Qa (take j)) (fun _=>Qa (keep (.inl (old (by rw[e3,Bool.false_and])))))
   ·refine Qa (keep ?_);rcases g with g|⟨h1,h2,_⟩
    ·exact .inl g
    ·refine .inr ⟨h1,h2,fun R' r1 r2=>?_⟩;have y1:=Z2 (b:=R) r1 fun y hy=>(a0 y).2 ((r2 y).1 hy);have z1:=Z2 (b:=R') x0 fun y hy=>(r2 y).2 ((a0 y).1 hy);intro H;have:((nl:Int)+(R.length:Int)==(k:Int))=true:=by
      rw[beq_iff_eq];omega
     rw[this]at V;cases V
  ·refine gZ ?_;rcases g with g|⟨h1,h2,h3⟩
   ·exact⟨X,l,fn,G,u,o,gc,_,rfl,g⟩
   ·exfalso;obtain⟨N,k0,z0⟩:=Q hM hC;rw[<- hn]at k0;refine z0 (h3 N ?_);generalize 2^n=M at *;omega
 rintro vs g1 ⟨X,l,fn,G,u,o,gc,s,rfl,j⟩;have B:=LH.le_trans J X;refine gZ ?_;refine t_gr (c3193 (P.le IntE.grow B.1) K.nodup (l0.le PairE.grow (LH.le_trans q0 X).1) y0 Z (by omega) hM) ?_;rintro _ g2 D ⟨px,nx,cx,rfl⟩;refine gZ ?_;exact Qe ⟨LH.le_trans B D,_,_,_,_,_,_,_,_,_,k,rfl,j,hM,hC⟩
end Go.Y
end
section
namespace Go.Y
set_option linter.unusedVariables false
variable {X:XP} {h:LH} {A:Value->LH->Prop}
variable {a b c d e f g i j k l m:Int}{n o p q r s t u v w x y z:Nat}{B C D E F G H I J K L M:Option Addr}
theorem w3154:FX X 37 #[.agg #[.slice B n o,.slice C p q,.slice D r s],a,.slice E t u,b,.slice F v w] h A (.cI 70 #[.agg #[.slice B n o,.slice C p q,.slice D r s],a,.slice E t u] fun d=>bif d != 0 then .rt (.tuple #[.agg #[.int .i64 0,.int .i64 0],d]) else .cI 70 #[.agg #[.slice B n o,.slice C p q,.slice D r s],b,.slice F v w] fun d=>bif d != 0 then .rt (.tuple #[.agg #[.int .i64 0,.int .i64 0],d]) else .cT 71 #[.agg #[.slice B n o,.slice C p q,.slice D r s],a,.int .i64 (if b>a then b else a),.slice E t u] fun c f=>.unAgg c fun e=>.popB e fun c0 s0=>.popB s0 fun d0 e1=>.popB e1 fun e0 r1=>.popB r1 fun f0 v1=>.popB v1 fun g0 x1=>.popB x1 fun i0 y1=>.popB y1 fun j0 z1=>.popB z1 fun k0 a2=>.unNil a2 (.unCons f fun c f=>.unAgg c fun e=>.popB e fun L b2=>.popB b2 fun M t0=>.popB t0 fun z u0=>.popB u0 fun G v0=>.popB v0 fun H x0=>.popB x0 fun I y0=>.popB y0 fun J z0=>.popB z0 fun K a1=>.unNil a1 (.unNil f (.cT 71 #[.agg #[.slice B n o,.slice C p q,.slice D r s],b,.int .i64 (if b>a then b else a),.slice F v w] fun c f=>.unAgg c fun e=>.popB e fun Q b1=>.popB b1 fun R c1=>.popB c1 fun S d1=>.popB d1 fun U f1=>.popB f1 fun V g1=>.popB g1 fun W i1=>.popB i1 fun Y j1=>.popB j1 fun Z k1=>.unNil k1 (.unCons f fun c f=>.unAgg c fun e=>.popB e fun g l1=>.popB l1 fun i m1=>.popB m1 fun j o1=>.popB o1 fun k p1=>.popB p1 fun l q1=>.popB q1 fun m s1=>.popB s1 fun x t1=>.popB t1 fun y u1=>.unNil u1 (.unNil f (.cl 73 #[.agg #[c0,d0,e0,f0,g0,i0,j0,k0]] fun c=>.unS c fun N d O=>.nds [.val (.agg #[g,i,j,k,l,m,x,y]),.val (.agg #[L,M,z,G,H,I,J,K]),.val (.int .i64 (if b>a then b else a)),.val (.agg #[.slice B n o,.slice C p q,.slice D r s]),.val (.agg #[Q,R,S,U,V,W,Y,Z]),.val (.int .i64 (if b>a then b else a)),.val (.agg #[.slice B n o,.slice C p q,.slice D r s])] (.cl 73 #[.agg #[Q,R,S,U,V,W,Y,Z]] fun c=>.unS c fun a0 o0 l0=>.nds [.val (.agg #[g,i,j,k,l,m,x,y]),.val (.agg #[L,M,z,G,H,I,J,K]),.val (.int .i64 (if b>a then b else a)),.val (.agg #[.slice B n o,.slice C p q,.slice D r s]),.val (.int .i64 (if b>a then b else a)),.val (.agg #[.slice B n o,.slice C p q,.slice D r s])] (.cI 72 #[.agg #[.slice B n o,.slice C p q,.slice D r s],.int .i64 (if b>a then b else a),.slice N d O,.slice a0 o0 l0] fun d=>.nds [.val (.agg #[g,i,j,k,l,m,x,y]),.val (.agg #[L,M,z,G,H,I,J,K]),.val (.int .i64 (if b>a then b else a)),.val (.agg #[.slice B n o,.slice C p q,.slice D r s])] (.cl 73 #[.agg #[L,M,z,G,H,I,J,K]] fun c=>.unS c fun N p0 O=>.nds [.val (.agg #[g,i,j,k,l,m,x,y]),.val (.int .i64 (if b>a then b else a)),.val (.agg #[.slice B n o,.slice C p q,.slice D r s])] (.cl 73 #[.agg #[g,i,j,k,l,m,x,y]] fun c=>.unS c fun b0 q0 m0=>.nds [.val (.int .i64 (if b>a then b else a)),.val (.agg #[.slice B n o,.slice C p q,.slice D r s])] (.cI 72 #[.agg #[.slice B n o,.slice C p q,.slice D r s],.int .i64 (if b>a then b else a),.slice N p0 O,.slice b0 q0 m0] fun r0=>.rt (.tuple #[.agg #[d,r0],.int .i64 0]))))))))))))):=fk [5,10,14,16,17,18,19] [] [] Tryz.f37
end Go.Y
end
section
namespace Go.TM
theorem listT_len(s:Te.Items):(listT s).length<=8:=by
 unfold listT;rw[List.length_map];exact Nat.le_trans (List.length_filter_le _ _) (by simp)
def kinF(t:GTab)(a b:Int)(x y:List Int):Int×Int :=
 (nearF t (if b>a then b else a) (listT (coverAt t a (if b>a then b else a) x).1) (listT (coverAt t b (if b>a then b else a) y).1),nearF t (if b>a then b else a) (listT (coverAt t a (if b>a then b else a) x).2) (listT (coverAt t b (if b>a then b else a) y).2))
theorem kinF_mono{t:GTab}{a b:Int}{x c y:List Int}(h:∀ v∈x,v∈c):(kinF t a b x y).1<=(kinF t a b c y).1/\(kinF t a b x y).2<=(kinF t a b c y).2:=by
 obtain⟨d,e⟩:=cover_up t a (if b>a then b else a) h;exact⟨nearF_mono (listT_sub d) fun _ h=>h,nearF_mono (listT_sub e) fun _ h=>h⟩
end Go.TM
namespace Go.Y
attribute [local irreducible] T.wp CV FWK
attribute [local irreducible] nearF
variable {h:LH}{f:TabC}{t:GTab}{p:Option Addr}{n c:Nat}
theorem c3177(hr:TabR h.get f t)(ok:TabOk t){e:Int}(he:0<=e/\e<(t.eds.length:Int)){l:List Int}(g:Sl IntE 1 h.get p n l)(i:ListOk t e l) :
  Gr Tryz.prog 70 #[tabV f,e,.slice p n c] h fun r _=>r=.int .i64 0:=by
 refine w3177 Qn ?_;refine Yi und106 infL (by decide) (by decide) (cells:=#[.slice p n c]) (by kernel_rfl) fun r h1 a _ d=>?_;refine gZ ?_;refine t_gr (c3133 (hr.le a.1) ok he (sl_one d (g.le IntE.grow a.1)) fun j hm=>?_) ?_
 ·rw[List.mem_singleton]at hm;subst hm;exact i
 rintro _ h2 b rfl;unfold tabV;refine gZ ?_;exact Qe ⟨LH.le_trans a b,rfl⟩
theorem c3154(B:h.chans=[])(C:h.pend=[])(hr:TabR h.get f t)(ok:TabOk t){a b:Int}(K:0<=a/\a<(t.eds.length:Int))(hb:0<=b/\b<(t.eds.length:Int)){q:Option Addr}{m d:Nat}{x y:List Int}(M:Sl IntE 1 h.get p n x)(O:ListOk t a x)(N:Sl IntE 1 h.get q m y)(P:ListOk t b y) :
  FW (XG lk) Tryz.prog 37 #[tabV f,a,.slice p n c,b,.slice q m d] h fun r h'=>Rd h.get h'.get/\h'.chans=[]/\h'.pend=[]/\h'.todo=h.todo/\r=.tuple #[.agg #[.int .i64 (kinF t a b x y).1,.int .i64 (kinF t a b x y).2],.int .i64 0]:=by
 refine w3154 XG_ok ?_;refine t_gr (c3177 hr ok K M O) ?_;rintro _ h1 l rfl;refine yF ?_;refine t_gr (c3177 (hr.le l.1) ok hb (N.le IntE.grow l.1) P) ?_;rintro _ h2 D rfl;have i:=LH.le_trans l D;refine yF ?_;have A:0<=(if b>a then b else a)/\(if b>a then b else a)<(t.eds.length:Int):=by split<;>omega
 unfold kinF;generalize (if b>a then b else a)=L at A ⊢;refine gZ ?_;refine t_gr (c3162 (hr.le i.1) ok K A (M.le IntE.grow i.1) (O.in8 ok)) ?_;rintro _ h3 E rfl;have j:=LH.le_trans i E;refine gZ ?_;refine t_gr (c3162 (hr.le j.1) ok hb A (N.le IntE.grow j.1) (P.in8 ok)) ?_;rintro _ W F rfl;have o:=LH.le_trans j F;refine gZ ?_;refine t_gr (c3163 _) ?_;rintro _ h5 G ⟨p1,n1,c1,rfl,_,s1⟩;have s:=LH.le_trans o G;refine gZ ?_;refine t_gr (c3163 _) ?_;rintro _ X u ⟨p2,n2,c2,rfl,_,s2⟩;have e:=LH.le_trans s u;refine gZ ?_;refine Qz (c3178 (by rw[e.2.1,B]) (by rw[e.2.2.1,C]) (hr.le e.1) L (s1.le IntE.grow u.1) s2 (Nat.le_trans (listT_len _) (by decide))) ?_;rintro _ Y ⟨J,Q,S,t7,rfl⟩;have k:=(Ja e.1).trans J;refine gZ ?_;refine t_gr (c3163 _) ?_;rintro _ Z H ⟨p3,n3,c3,rfl,_,U⟩;refine gZ ?_;refine t_gr (c3163 _) ?_;rintro _ h9 v ⟨p4,n4,c4,rfl,_,V⟩;have g:=LH.le_trans H v;refine gZ ?_;refine Qz (c3178 (by rw[g.2.1,Q]) (by rw[g.2.2.1,S]) (hr.rd (k.trans (Ja g.1))) L (U.le IntE.grow v.1) V (Nat.le_trans (listT_len _) (by decide))) ?_;rintro _ R ⟨w,z,I,t10,rfl⟩;refine gZ ?_;exact Qe ⟨(k.trans (Ja g.1)).trans w,z,I,by rw[t10,g.2.2.2,t7,e.2.2.2],rfl⟩
end Go.Y
end
section
namespace Go.TM
open Go.TM.Ma
theorem pairs_sub{t:GTab}{e lev:Int}{a c b:List Int}(h:∀ v∈a,v∈c):∀ p∈pairsF t e lev a b [] [],p∈pairsF t e lev c b [] []:=fun p d=>by
 obtain⟨h1,h2⟩:=Ka.1 d;exact Ka.2 ⟨h _ h1,h2⟩
end Go.TM
namespace Go.Y
open Go.TM.Ma
attribute [local irreducible] T.wp CV FWK
theorem wrap_lev{level:Int}(a:0<=level/\level<=255):wrap .i64 (1+Int.tmod (wrap .i64 level) 5)=1+level%5:=by
 rw[wrap_u8 a,tmod_nn a.1,Qj (by omega) (by omega)]
end Go.Y
end
namespace Go.Y
section
set_option linter.unusedVariables false
variable {X:XP} {h:LH} {A:Value->LH->Prop}
variable {a b c d e f g i j k l m:Int}{n o p q r s t u v w x y z:Nat}{B C D E F G H I J K L M:Option Addr}
theorem w3130:FX X 19 #[.agg #[a,b,c,d,e,f,.slice B n o],g,i,.agg #[.slice C p q,.slice D r s,.slice E t u],j,.slice F v w,k] h A (.cT 49 #[.agg #[a,b,c,d,e,f,.slice B n o],g,i,.agg #[.slice C p q,.slice D r s,.slice E t u],j] fun G H=>.unS G fun N x O=>.unCons H fun G H=>.unB G fun m=>.unNil H (.cT 38 #[.agg #[.slice C p q,.slice D r s,.slice E t u],j,.slice N x O,.slice F v w,k] fun G H=>.unS G fun J y L=>.unCons H fun G H=>.unS G fun K z M=>.unCons H fun G H=>.unS G fun U W V=>.unCons H fun G H=>.ui G fun l=>.unNil H (.cT 37 #[.agg #[.slice C p q,.slice D r s,.slice E t u],j,.slice N x O,j,.slice F v w] fun G H=>.unAgg G fun Q=>.pi Q fun x R=>.pi R fun x S=>.unNil S (.unCons H fun G H=>.ui G fun I=>.unNil H (bif m then bif l==0 then .nds [.B (I==0),.B (I==0),I,.B (l==0),.B (l==0),l] (.nf m true (.nds [m,x,.pp 23 1,.B (I==0),.B (I==0),I,.B (l==0),.B (l==0),l] (.nf m true (.nd m (.rt (.tuple #[.int .i64 (wrap .i64 ((↑y:Int)+(↑z:Int))),x,.bool (I==0)])))))) else .both (.nds [.B (l==0),.B (l==0),l] (.nf m true (.nds [m,x,.pp 23 1,.val (.int .i64 (wrap .i64 ((↑y:Int)+(↑z:Int)))),.val (.int .i64 (↑z:Int)),.S K z M,.val (.int .i64 (↑y:Int)),.S J y L,false,.B (l==0),.B (l==0),l] (.nf m true (.nds [m,x,.pp 23 1,false,.B (l==0),.B (l==0),l] (.nf m true (.nd m (.rt (.tuple #[.int .i64 (wrap .i64 ((↑y:Int)+(↑z:Int))),x,false]))))))))) (.nds [.U,.B (l==0),.B (l==0),l] (.nf m true (.nds [m,x,.pp 23 1] (.both (.nds [.B (l==0),.B (l==0),l] (.nf m true (.nds [m,x,.pp 23 1,false,.B (l==0),.B (l==0),l] (.nf m true (.nd m (.rt (.tuple #[.int .i64 (wrap .i64 ((↑y:Int)+(↑z:Int))),x,false]))))))) (.nds [.U,.B (l==0),.B (l==0),l] (.nf m true (.nds [m,.B (l==0),.B (l==0),l] (.nf m true (.nd m (.rt (.tuple #[.int .i64 (wrap .i64 ((↑y:Int)+(↑z:Int))),x,false]))))))))))) else .nds [m,x,.pp 23 1,.val (.int .i64 (wrap .i64 ((↑y:Int)+(↑z:Int)))),.val (.int .i64 (↑z:Int)),.S K z M,.val (.int .i64 (↑y:Int)),.S J y L] (.both (.nds [false,m,x,.pp 23 1,.val (.int .i64 (wrap .i64 ((↑y:Int)+(↑z:Int)))),.val (.int .i64 (↑z:Int)),.S K z M,.val (.int .i64 (↑y:Int)),.S J y L,false,false,m,x,.pp 23 1,false,false,m] (.rt (.tuple #[.int .i64 (wrap .i64 ((↑y:Int)+(↑z:Int))),x,false]))) (.nds [.U,false,m,x,.pp 23 1] (.both (.nds [false,m,x,.pp 23 1,false,false,m] (.rt (.tuple #[.int .i64 (wrap .i64 ((↑y:Int)+(↑z:Int))),x,false]))) (.nds [.U,false,m,false,m] (.rt (.tuple #[.int .i64 (wrap .i64 ((↑y:Int)+(↑z:Int))),x,false]))))))))))):=fk [7,10,23] [] [] Tryz.f19
end
section
set_option linter.unusedVariables false
variable {X:XP} {h:LH} {A:Value->LH->Prop}
variable {a b c d e f g i j k l m:Int}{n o p q r s t u v w x y z:Nat}{B C D E F G H I J K L M:Option Addr}
theorem w3107{H:Int}{R:Int}{z:Int}:FX X 5 #[.agg #[a,b,c,d,e,f,.slice B n o],.agg #[g,i,j,.slice C p q,k],.int .u8 l,.int .u16 m,.agg #[.slice D r s,.slice E t u,.slice F v w],.int .u8 H,.int .u8 R,.int .u8 z] h A (.cT 15 #[.agg #[a,b,c,d,e,f,.slice B n o],.agg #[g,i,j,.slice C p q,k]] fun G x=>.unAgg G fun a0=>.pi a0 fun I i0=>.pi i0 fun b0 j0=>.pi j0 fun c0 k0=>.pi k0 fun d0 l0=>.pi l0 fun e0 m0=>.pi m0 fun f0 o0=>.popS o0 fun W g0 Z p0=>.unNil p0 (.unCons x fun G x=>.unB G fun y=>.unNil x (.blk (.cB 16 #[.agg #[a,b,c,d,e,f,.slice B n o]] fun M=>bif M then .cB 17 #[] fun y=>.rn [y] else bif !y then .cB 17 #[] fun y=>.rn [y] else .cB 7 #[.agg #[.slice D r s,.slice E t u,.slice F v w]] fun y=>bif !y then .cB 17 #[] fun y=>.rn [y] else .ag [false]) (fun x=>.popB x fun y x=>.unNil x (.need (b≠0) (.need ((↑r:Int)≠0) (.need ((5:Int)≠0) (.cI 18 #[.int .u16 m] fun U=>.nd (.int .i64 (wrap .i64 (1+Int.tmod (wrap .i64 z) 5))) (.need ((5:Int)≠0) (.nds [.val (.int .i64 (Int.tmod (wrap .i64 z) 5)),.val (.int .i64 (wrap .i64 z)),.val (.int .u8 z)] (.need ((↑r:Int)≠0) (.nds [.val (.int .i64 (Int.tmod (wrap .i64 H) (↑r:Int))),.val (.int .i64 (↑r:Int)),.S D r s,.pp 12 0,.val (.int .i64 (wrap .i64 H)),.val (.int .u8 H)] (.need (b≠0) (.nds [.val (.int .i64 (Int.tmod (wrap .i64 l) b)),b,.pp 8 1,.val (.int .i64 (wrap .i64 l)),.val (.int .u8 l),.val (.int .i64 (wrap .i64 (1+Int.tmod (wrap .i64 z) 5)))] (.need ((5:Int)≠0) (.nds [.val (.int .i64 (Int.tmod (wrap .i64 z) 5)),.val (.int .i64 (wrap .i64 z)),.val (.int .u8 z)] (.need ((↑r:Int)≠0) (.nds [.val (.int .i64 (Int.tmod (wrap .i64 H) (↑r:Int))),.val (.int .i64 (↑r:Int)),.S D r s,.pp 12 0,.val (.int .i64 (wrap .i64 H)),.val (.int .u8 H),.val (.int .i64 (wrap .i64 (1+Int.tmod (wrap .i64 z) 5)))] (.need ((5:Int)≠0) (.nds [.val (.int .i64 (Int.tmod (wrap .i64 z) 5)),.val (.int .i64 (wrap .i64 z)),.val (.int .u8 z)] (.need ((↑r:Int)≠0) (.nds [.val (.int .i64 (Int.tmod (wrap .i64 H) (↑r:Int))),.val (.int .i64 (↑r:Int)),.S D r s,.pp 12 0,.val (.int .i64 (wrap .i64 H)),.val (.int .u8 H),.val (.int .i64 (wrap .i64 (1+Int.tmod (wrap .i64 z) 5)))] (.need ((5:Int)≠0) (.nds [.val (.int .i64 (Int.tmod (wrap .i64 z) 5)),.val (.int .i64 (wrap .i64 z)),.val (.int .u8 z)] (.cl 10 #[.agg #[.slice D r s,.slice E t u,.slice F v w],.int .i64 (Int.tmod (wrap .i64 H) (↑r:Int)),.int .u8 R] fun G=>.unS G fun Q V S=>.cT 19 #[.agg #[a,b,c,d,e,f,.slice B n o],.int .i64 (Int.tmod (wrap .i64 l) b),U,.agg #[.slice D r s,.slice E t u,.slice F v w],.int .i64 (Int.tmod (wrap .i64 H) (↑r:Int)),.slice Q V S,.int .i64 (wrap .i64 (1+Int.tmod (wrap .i64 z) 5))] fun G x=>.ui G fun L=>.unCons x fun G x=>.ui G fun J=>.unCons x fun G x=>.unB G fun M=>.unNil x (.cT 19 #[.agg #[I,b0,c0,d0,e0,f0,.slice W g0 Z],.int .i64 (Int.tmod (wrap .i64 l) b),U,.agg #[.slice D r s,.slice E t u,.slice F v w],.int .i64 (Int.tmod (wrap .i64 H) (↑r:Int)),.slice Q V S,.int .i64 (wrap .i64 (1+Int.tmod (wrap .i64 z) 5))] fun G x=>.ui G fun I=>.unCons x fun G x=>.ui G fun K=>.unCons x fun G x=>.unB G fun Y=>.unNil x (.blk (bif !M then .rn [false] else bif !Y then .rn [false] else .ag [y]) (fun x=>.popB x fun y x=>.unNil x (.blk (.blk (.ag [.bool (g==3)]) (fun x=>.popB x fun y x=>.unNil x (bif y then .ag [y] else .ag [.bool (g==1)])) (fun x=>.popB x fun y x=>.unNil x (.rn [y])) fun N O=>.fail) (fun x=>.popB x fun y x=>.unNil x (bif y then bif decide (I<=L) then bif decide (K<=J) then .cB 17 #[] fun y=>.rt (.bool y) else .rt (.bool false) else .rt (.bool false) else bif g==0 then bif g==0 then bif decide (I>=L) then bif decide (K>=J) then .cB 17 #[] fun y=>.rt (.bool y) else .rt (.bool false) else .rt (.bool false) else .cB 17 #[] fun y=>.rt (.bool y) else bif g==2 then bif g==2 then bif decide (I>=L) then bif decide (K>=J) then .cB 17 #[] fun y=>.rt (.bool y) else .rt (.bool false) else .rt (.bool false) else .cB 17 #[] fun y=>.rt (.bool y) else bif g==5 then bif decide (I>=L) then bif decide (K>=J) then .cB 17 #[] fun y=>.rt (.bool y) else .rt (.bool false) else .rt (.bool false) else .cB 17 #[] fun y=>.rt (.bool y))) (fun x=>.popB x fun q0 x=>.unNil x (.rt (.bool y))) fun N O=>.fail)) (fun x=>.popB x fun y x=>.unNil x (.rt (.bool y))) fun N O=>.fail)))))))))))))))))))))))) (fun x=>.popB x fun y x=>.unNil x (.rt (.bool y))) fun N O=>.fail))):=fk [8,9,12,17] [] [⟨2000101,[(101,.bool)],[8,9,12,17],[],[],[]⟩,⟨10,[(16,.bool)],[8,9,12,17],[],[],[]⟩,⟨4,[(16,.bool)],[8,9,12,17],[],[],[]⟩] Tryz.f5
end
end Go.Y
section
namespace Go.Y.Tre
open Go.TM.Tr Go.TM.Ma
attribute [local irreducible] T.wp CV FWK
attribute [local irreducible] nearF
def pickH(x:TF)(k d:Int)(t:GTab)(e:Int):List Int:=pickL (heldB x k d) (min x.items.toNat (t.items e).length)
variable {x:TF}{k d e:Int}{t:GTab}{h:LH}{f:TC}{g:TabC}{q:Option Addr}{m c:Nat}
theorem pickH_ok(he:0<=e/\e<(t.eds.length:Int)):ListOk t e (pickH x k d t e):=pick_ok he (Nat.min_le_right _ _)
theorem pickH_sub{y:TF}(a:x.items=y.items)(h:∀ j:Int,0<=dateOn x k j d->0<=dateOn y k j d):∀ v∈pickH x k d t e,v∈pickH y k d t e:=by
 unfold pickH;rw[a];exact pick_sub fun j _ h0=>by
  have:=h j (by simpa[heldB] using h0);simpa[heldB] using this
theorem Wc{h':LH}{k:Bool->T}{Q:Leaf->LH->Prop}(c:Kinds h.get)(i:Idle h h')(d:∀ a,Idle h a->(k true).wp (XG lk) Tryz.prog Q a) :
  (T.call false 17 #[] fun v=>T.unB v k).wp (XG lk) Tryz.prog Q h':=by
 refine Qz (FW.up (c2017 i.chans i.pend (c.rd i.rd))) ?_;rintro _ a ⟨rfl,rd,h2,h3,b⟩;exact gC (d a ⟨i.rd.trans rd,h2,h3,b.trans i.todo⟩)
theorem c3130(u:h.chans=[])(w:h.pend=[])(E:Kinds h.get)(F:TreatyR h.get f x)(n:checkT x=0)(v:0<=k/\k<x.lands)(D:0<=d/\d<=9999)(hr:TabR h.get g t)(ok:TabOk t){lev:Int}(he:0<=e/\e<(t.eds.length:Int))(i:1<=lev/\lev<=5)
 {b:List Int}(hb:Sl IntE 1 h.get q m b)(y:ListOk t e b) :
  FW (XG lk) Tryz.prog 19 #[treatyV f x,k,d,tabV g,.int .i64 e,.slice q m c,lev] h fun r h'=>Idle h h' /\
   ∃ j:Nat,r=.tuple #[.int .i64 j,.int .i64 (kinF t e e (pickH x k d t e) b).2,.bool true]/\Mat (pairsF t e lev (pickH x k d t e) b [] []) j/\Cov (pairsF t e lev (pickH x k d t e) b [] []) j:=by
 refine w3130 XG_ok ?_;have o:=Jx n;refine t_gr (c3127 E F o.1 (asked_fit n v D) hr he) ?_;rintro _ h1 l ⟨p1,n1,c1,rfl,s1⟩;have s:=pickH_ok (x:=x) (k:=k) (d:=d) he;replace s1:Sl IntE 1 h1.get p1 n1 (pickH x k d t e):=s1;generalize pickH x k d t e=A at *;refine gZ ?_;refine t_gr (c3164 (hr.le l.1) ok he i s1 s (hb.le IntE.grow l.1) y) ?_;rintro _ h2 p ⟨N,G,J,O,H,cB,P,M,K,j,rfl,C,B,hC⟩;have L:j<=28:=Nat.le_trans B.len (Ux ok i.1 s s.nodup y.nodup);have a:=LH.le_trans l p;refine gZ ?_;refine Qz (c3154 (by rw[a.2.1,u]) (by rw[a.2.2.1,w]) (hr.le a.1) ok he he (s1.le IntE.grow p.1) s (hb.le IntE.grow a.1) y) ?_;rintro _ h3 ⟨z,c3,I,t3,rfl⟩;refine yT ?_;refine yT ?_;refine gZ ?_;refine Qe ⟨⟨(Ja a.1).trans z,c3,I,by rw[t3,a.2.2.2]⟩,j,?_,B,hC⟩;rw[Qj (by omega) (by omega),show (G:Int)+(H:Int)=(j:Int) by omega];rfl
theorem c3107(w:h.chans=[])(z:h.pend=[])(s:Kinds h.get)(Y:TreatyR h.get f x)(J:x.events.length*56<=2^47){e:Ev}(hm:m<=c)(V:Sl IntE 1 h.get q m e.items)(land:Int)(hl:0<=land/\land<=255)(day:Int)(hd:0<=day/\day<=65535)
 (hr:TabR h.get g t)(a:Int)(ha:0<=a/\a<=255)(bits:Int)(S:0<=bits/\bits<=255)(G:Int)(W:0<=G/\G<=255) :
  FW (XG lk) Tryz.prog 5 #[treatyV f x,eventV e q m c,.int .u8 land,.int .u16 day,tabV g,.int .u8 a,.int .u8 bits,.int .u8 G] h (Fin h):=by
 refine w3107 XG_ok ?_;refine t_gr (c2035 Y J hm V) ?_;rintro _ h1 r ⟨f1,b1,rfl,hy,hb1⟩;unfold treatyV;refine gZ ?_;have k0:=s.le r.1;have Z:=Y.le r.1;have L:=hr.le r.1;refine Jw (fun vs h'=>vs=[.bool false]/\h1=h'/\b1=true/\TabOk t) ?_ ?_
 ·refine t_pu (c2016 Z) ?_;refine yI (fun _=>?_) (fun _=>?_)
  ·refine Wc s (.of w z r) fun h' p=>?_;refine gZ ?_;exact Qe p.fin
  refine Qt (fun _=>?_) (fun v=>?_)
  ·refine Wc s (.of w z r) fun h' p=>?_;refine gZ ?_;exact Qe p.fin
  refine Qz (Ko (c3108 L)) ?_;rintro _ _ ⟨rfl,bt,rfl,U⟩;refine yI (fun _=>?_) (fun R=>?_)
  ·refine Wc s (.of w z r) fun h' p=>?_;refine gZ ?_;exact Qe p.fin
  exact Qa ⟨rfl,rfl,by simpa using v,U (by simpa using R)⟩
 rintro vs _ ⟨rfl,rfl,rfl,ok⟩;have D:=hb1 rfl;have C:=check_add D;have a0:=Jx C;have m0:=hr.eds.1;have X:=ok.many;have o0:(g.n0:Int)≠0:=by omega
 have l0:x.lands≠0:=by omega
 have e0:(5:Int)≠0:=by decide
 have ea:Int.tmod (wrap .i64 a) (g.n0:Int)=a%(g.n0:Int):=by rw[wrap_u8 ha,tmod_nn ha.1]
 obtain⟨ek,K,A⟩:=mod_in (m:=x.lands) (n:=land) (by omega) (by omega);have he:=mod_pos (n:=a) (b:=(g.n0:Int)) (by omega);have B:1<=1+G%5/\1+G%5<=5:=by omega
 have E:=day_mod day;rw[ek,ea,wrap_lev W];generalize land%x.lands=k at *;generalize a%(g.n0:Int)=n at *;generalize 1+G%5=lev at *;replace he:0<=n/\n<(t.eds.length:Int):=by omega
 clear ek ea;refine gZ ?_;refine t_pu (c2032 hd) ?_;generalize day%10000=d at E;refine gZ ?_;refine t_gr (c3122 L ok he bits) ?_;rintro _ h2 M ⟨p2,n2,c2,O,rfl,sO,oO⟩;have o:=LH.le_trans r M;refine gZ ?_;refine Qz (c3130 (by rw[o.2.1,w]) (by rw[o.2.2.1,z]) (s.le o.1) (Y.le o.1) C ⟨K,A⟩ E (hr.le o.1) ok he B sO oO) ?_;rintro _ h3 ⟨i3,j0,rfl,M0,C0⟩;have u:=(Ja o.1).trans i3.rd;refine gZ ?_;refine Qz (c3130 (x:=add x e) i3.chans i3.pend (s.rd u) ((hy.le M.1).rd i3.rd) D ⟨K,A⟩ E (hr.rd u) ok he B (sO.rd IntE.grow i3.rd) oO) ?_;rintro _ Q ⟨i4,j1,rfl,M1,C1⟩;have idle:Idle h Q:=⟨u.trans i4.rd,i4.chans,i4.pend,by rw[i4.todo,i3.todo,o.2.2.2]⟩
 have N:=Yo C;have P:=Yo D;have less:e.kind=3\/e.kind=1->j1<=j0/\(kinF t n n (pickH (add x e) k d t n) O).2<=(kinF t n n (pickH x k d t n) O).2:=fun F=>by
  have sub:=pickH_sub (x:=add x e) (y:=x) (k:=k) (d:=d) (t:=t) (e:=n) rfl fun j h0=>(add_takes F.symm k j).protects N P h0;exact⟨mono (pairs_sub sub) M1 C0,(kinF_mono sub).2⟩
 have more:e.kind=0\/e.kind=2\/e.kind=5->j0<=j1/\(kinF t n n (pickH x k d t n) O).2<=(kinF t n n (pickH (add x e) k d t n) O).2:=fun F=>by
  have sub:=pickH_sub (x:=x) (y:=add x e) (k:=k) (d:=d) (t:=t) (e:=n) rfl fun j h0=>((add_gives F k j).noLess N P h0).1;exact⟨mono (pairs_sub sub) M0 C1,(kinF_mono sub).2⟩
 generalize (kinF t n n (pickH x k d t n) O).2=z0 at *;generalize (kinF t n n (pickH (add x e) k d t n) O).2=z1 at *;refine gZ ?_;refine Jw (fun vs h'=>vs=[.bool false]/\Q=h') ?_ ?_
 ·refine yF ?_;refine yF ?_;exact Qa ⟨rfl,rfl⟩
 rintro vs _ ⟨rfl,rfl⟩;refine gZ ?_;have done:∀ {I:LH},Idle h I->Fin h (.bool true) I:=fun i=>i.fin;refine Jw (fun vs h'=>∃ b,vs=[.bool b]/\Q=h'/\(b=true->e.kind=3\/e.kind=1)) ?_ ?_
 ·refine Jw (fun vs h'=>vs=[.bool (e.kind==3)]/\Q=h') ?_ ?_
  ·exact Qa ⟨rfl,rfl⟩
  rintro vs _ ⟨rfl,rfl⟩;refine yI (fun v=>?_) (fun v=>?_)
  ·exact Qa ⟨_,rfl,rfl,fun _=>.inl (by simpa using v)⟩
  ·exact Qa ⟨_,rfl,rfl,fun l=>.inr (by simpa using l)⟩
 rintro vs _ ⟨b,rfl,rfl,hb⟩;refine yI (fun v=>?_) (fun _=>?_)
 ·obtain⟨w1,w2⟩:=less (hb v);refine t_if (fun _=>?_) (fun l=>absurd (by omega) l);refine t_if (fun _=>?_) (fun l=>absurd w2 l);exact Wc s idle fun h' p=>Qe p.fin
 refine Qt (fun v=>?_) (fun v=>?_)
 ·refine Qt (fun _=>?_) (fun l=>by rw[v]at l;cases l);obtain⟨w1,w2⟩:=more (.inl (by simpa using v));refine t_if (fun _=>?_) (fun l=>absurd (by omega) l);refine t_if (fun _=>?_) (fun l=>absurd w2 l);exact Wc s idle fun h' p=>Qe p.fin
 refine Qt (fun l=>?_) (fun l=>?_)
 ·refine Qt (fun _=>?_) (fun H=>by rw[l]at H;cases H);obtain⟨w1,w2⟩:=more (.inr (.inl (by simpa using l)));refine t_if (fun _=>?_) (fun l=>absurd (by omega) l);refine t_if (fun _=>?_) (fun l=>absurd w2 l);exact Wc s idle fun h' p=>Qe p.fin
 refine Qt (fun H=>?_) (fun H=>?_)
 ·obtain⟨w1,w2⟩:=more (.inr (.inr (by simpa using H)));refine t_if (fun _=>?_) (fun l=>absurd (by omega) l);refine t_if (fun _=>?_) (fun l=>absurd w2 l);exact Wc s idle fun h' p=>Qe p.fin
 exact Wc s idle fun h' p=>Qe p.fin
end Go.Y.Tre
end
section
namespace Go.TM
open Go.ChangeShapes Go.RowKit
section
variable {H:Type} {enc:TypeId×Value->H}
theorem row_leavingG{C:Checked}{L:Go.Conc.Lib.WgLink}(lib:Go.Conc.Lib.WgLib C.prog L){os:Os}{f:FuncId}{fn:Func}{s:ChangeSpec}{l:List (String×DataW Unit)}{tb:TypeId}
 (own:ownKnob C.prog.godebug=none)(started:os.Started)(B:C.prog.funcs[f]?=some fn)(D:C.prog.inits.idxOf? f=none)(hv:s.vars=[])(lo:laidOutB C.prog=true)
 (hr:∀ t∈fn.params.toList,C.prog.readableRec t=true/\t<C.prog.types.size)(y:fn.resultTypes=#[tb])(hb:C.prog.underlying tb=some .bool)
 (R:∀ ds:List (DataW H),ds.length=fn.params.size->s.fn H ds={ results:=[.lit (.bool true)],args:=ds })
 (witness:∃ (w:World) (tape:Tape) (i:Input),w.os=os/\(w.forCall tape i).Shaped C.prog/\i.vars=[]/\Input.okWide C.prog (w.forCall tape i) .any w.heap.size f i /\
   ((s.pre enc C.prog fn [] false (w.forCall tape i).memory i.args/\laidMetH C.prog l (w.forCall tape i).memory)/\sizedMet enc C.prog fn (OpenSpec.ofChange s) false (w.forCall tape i).memory i.args)/\({}:Assume).holds C.prog (lone (Frame.enter C.prog f i.args .normal) [] (w.forCall tape i)))
 (runs:∀ (W:World) (base:Nat) (args:Array Value) (ds:List (DataW H)) (ps:List MemPlace),(∀ (j:Nat) t v,fn.params[j]?=some t->args[j]?=some v->Value.okWide C.prog W .any base t v) ->
   DataW.TrodAll enc C.prog W 0 (fun _=>true) true fn.params.toList args.toList ds ps->(∀ (j:Nat) t d,fn.params.toList[j]?=some t->ds[j]?=some d->Light C.prog t d)->laidMetH C.prog l W->FWK (XG L) C.prog .normal f args ⟨getW W,[],[],[]⟩ fun r h'=>r=.bool true/\h'.pend=[]) :
  ReturnsInLeavingWide {} C os f .any (fun w args=>(s.pre enc C.prog fn [] false w args/\laidMetH C.prog l w)/\sizedMet enc C.prog fn (OpenSpec.ofChange s) false w args) (s.post enc C.prog fn false true false false):=by
 refine returnsInLeavingWide_of_good own started witness ?_;intro w tape i _ _ _ F u _;obtain⟨_,_,_,a,o,_,_,_,_,c⟩:=F;have e:a=fn:=Option.some.inj (o.symm.trans B);subst e;obtain⟨⟨⟨ds,gs,before,hw,_⟩,G⟩,S⟩:=u;have I:=S.weights hw;have k:=DataW.Whole.of_heap (w':=w.forCall tape i) (by rfl) hw;have z:laidMetH C.prog l (w.forCall tape i):=laidMetH.of_heap (by rfl) G;generalize w.forCall tape i=W at c k z ⊢;have m:=k;obtain⟨p,q,A,J,rfl,_,_⟩:=k;rw[hv]at J;obtain⟨rfl,rfl⟩:=trodVars_none J;have b:∀ (j:Nat) t d,a.params.toList[j]?=some t->ds[j]?=some d->Light C.prog t d:=by
  intro j t d M N n O;have hm:=DataW.weights_mem_each (P:=C.prog) (ts:=a.params.toList++s.plain.varTypes C.prog) (ds:=ds++[]) (j:=j) (by rw[List.getElem?_append_left (List.getElem?_eq_some_iff.1 M).1];exact M) (by rw[List.append_nil];exact N) n O;have:=List.all_eq_true.1 I n hm;simpa using this
 have E:∀ x∈p,x.block<W.heap.size:=fun x G=>by simpa using m.lt x (by simpa using G)
 have hlen:ds.length=a.params.size:=by
  have:∀ {ts:List TypeId} {vs:List Value} {ds:List (DataW H)} {ps:List MemPlace},DataW.TrodAll enc C.prog W 0 (fun _=>true) true ts vs ds ps->ds.length=ts.length:=by
   intro ts
   induction ts with
   | nil=>intro vs ds ps h;cases vs<;>cases ds<;>first|rfl|exact h.elim
   | cons t ts U =>
    intro vs ds ps h;cases vs with
    | nil=>exact h.elim
    | cons v vs =>
     cases ds with
     | nil=>exact h.elim
     | cons d ds=>obtain⟨_,_,_,h2,_⟩:=h;simp[U h2]
  simpa using this A
 have g:s.fn H (ds++[])={ results:=[.lit (.bool true)],args:=ds }:=by rw[List.append_nil];exact R ds hlen
 exact run_wellG lib (Φ:=fun v w'=>s.post enc C.prog a false true false false W.blind i.args v w'.blind) (getW_fits W) (getW_no W) (getW_whole W) D (runs W _ i.args ds p c A b z) (by
  rintro v h' ⟨rfl,Q⟩;refine⟨Q,fun w' _ K=>ChangeSpec.post_blind ⟨ds,[],_,[],p,[],m,?_,?_,?_,K.below.frame _,fun h=>by cases h⟩⟩
  ·rw[g,y];exact trodAll_mk1 (shut_bool hb true)
  ·rw[g];exact trodAll_below lo K.below hr A E
  ·rw[g,hv];rfl)
end
end Go.TM
end
section
namespace Go.Proofs.YtfkfohpnpljihaaGreatDoor
open Go.Y Go.Y.Tre
open Go.Y.Tre Go.ChangeShapes Go.WideShapes Go.RowKit
theorem door_met(os:Os)(args:Array Value):laidMetH Tryz.prog Rows.treatyAgreedRow.laid ((World.doorLaid Tryz.prog 200 os).forCall (fun _ _=>0) ⟨#[],args,[]⟩).memory :=
 laidMetH_of_parts3 (fuel:=8) (laidMet_of_run' 8 (by kernel_rfl) (by kernel_rfl)) (by kernel_rfl) (by kernel_rfl)
theorem door_shaped(os:Os)(args:Array Value):((World.doorLaid Tryz.prog 200 os).forCall (fun _ _=>0) ⟨#[],args,[]⟩).Shaped Tryz.prog :=
 World.shaped_of_RefB (by kernel_rfl) (by kernel_rfl)
theorem treatyAgreed_lifted(os:Os)(started:os.Started)(H:Type)(enc:TypeId×Value->H) :
  ReturnsInLeavingWide {} Tryz.checked os 5 .any (fun w args=>(Rows.treatyAgreedSpec.pre enc Tryz.prog Tryz.f5 [] false w args/\laidMetH Tryz.prog Rows.treatyAgreedRow.laid w)/\sizedMet enc Tryz.prog Tryz.f5 (OpenSpec.ofChange Rows.treatyAgreedSpec) false w args)
   (Rows.treatyAgreedSpec.post enc Tryz.prog Tryz.f5 false true false false):=by
 refine row_leavingG lib (C:=Tryz.checked) (tb:=4) own started Tryz.func5 (by kernel_rfl) rfl lo ?_ (by kernel_rfl) Tryz.underlying4 ?_
  (ChangeSpec.witness_shaped (enc:=enc) (C:=Tryz.checked) (os:=os) (X:=fun w _=>laidMetH Tryz.prog Rows.treatyAgreedRow.laid w) false (World.doorLaid Tryz.prog 200 os) #[noTreaty,.agg #[.int .i64 0,.int .i64 0,.int .i64 0,.slice none 0 0,.int .i64 0],.int .u8 0,.int .u16 0,.agg #[.slice none 0 0,.slice none 0 0,.slice none 0 0],.int .u8 0,.int .u8 0,.int .u8 0] 8 rfl (door_shaped os _) (by kernel_rfl) (by kernel_rfl) (by kernel_rfl) (door_met os _)) ?_
 ·exact fun t x=>of_decide_eq_true (List.all_eq_true.1 (show (Tryz.f5.params.toList.all fun t=>decide (Tryz.prog.readableRec t=true/\t<Tryz.prog.types.size))=true by kernel_rfl) t x)
 ·intro ds u
  match ds,(show ds.length=8 from u) with
  | [d0,d1,d2,d3,d4,d5,d6,d7],_=>rfl
 ·intro W base args ds ps b e l s;have a:∀ (j:Nat) t v,Tryz.f5.params[j]?=some t->args[j]?=some v->Value.okWide Tryz.prog W .any base t v:=b;have c:∀ (j:Nat) t d,Tryz.f5.params.toList[j]?=some t->ds[j]?=some d->Light Tryz.prog t d:=l;have m:DataW.TrodAll enc Tryz.prog W 0 (fun _=>true) true Tryz.f5.params.toList args.toList ds ps:=e;rw[Tryz.params5]at a c m;obtain⟨v0,v1,v2,I,v4,J,v6,K,d0,d1,d2,d3,d4,d5,d6,d7,y,z,A,B,D,E,F,G,rfl,rfl,rfl,h0,h1,h2,h3,o,h5,p,q⟩:=trodAll8 m;obtain⟨f0,Z,rfl,i,f⟩:=treaty_argB (a 0 55 v0 rfl rfl) (c 0 55 d0 rfl rfl) h0;obtain⟨Y,V,k1,U,rfl,g,s1⟩:=event_arg TT (a 1 58 v1 rfl rfl) (c 1 58 d1 rfl rfl) h1;obtain⟨O,rfl,_,_,w2⟩:=open_int und5 (a 2 5 v2 rfl rfl) h2;obtain⟨P,rfl,_,_,w3⟩:=open_int und57 (a 3 27 I rfl rfl) h3;obtain⟨f4,u4,rfl,k⟩:=table_arg GT (a 4 39 v4 rfl rfl) (c 4 39 d4 rfl rfl) o;obtain⟨Q,rfl,_,_,L⟩:=open_int und5 (a 5 5 J rfl rfl) h5;obtain⟨R,rfl,_,_,M⟩:=open_int und5 (a 6 5 v6 rfl rfl) p;obtain⟨S,rfl,_,_,N⟩:=open_int und5 (a 7 5 K rfl rfl) q;exact FW.mono (c3107 (h:=⟨getW W,[],[],[]⟩) rfl rfl (kinds_of_laid s (by repeat first|exact List.Mem.head _|apply List.Mem.tail) (by repeat first|exact List.Mem.head _|apply List.Mem.tail)) i f g s1 O (wf_u8 w2) P (wf_u16 w3) k Q (wf_u8 L) R (wf_u8 M) S (wf_u8 N)) fun r h' n=>⟨n.1,n.2.2.1⟩
set_option maxHeartbeats 0 in
theorem treatyAgreed_closed:joinedFacts Tryz.prog 5 Tryz.f5 Rows.treatyAgreedSpec Rows.treatyAgreedRow=true:=by
 unfold joinedFacts;simp only[Bool.and_eq_true]
 and_intros
 all_goals (as_aux_lemma=>kernel_rfl)
theorem treatyAgreed_named:Tryz.prog.funcNamed Rows.treatyAgreedRow.func=some 5:=by kernel_rfl
theorem treatyAgreed_row:Rows.TreatyAgreedSaid :=
 OpenClaim.holds_of_wide_leaving 5 Tryz.f5 rfl rfl rfl rfl rfl rfl rfl ⟨rfl,rfl,rfl,rfl,rfl⟩ rfl rfl rfl rfl rfl treatyAgreed_named Tryz.func5 treatyAgreed_closed
  (of_decide_eq_true (by kernel_rfl)) (by unfold Func.isWrapper;first|(rw[if_pos (by decide +kernel)];kernel_rfl)|(rw[if_neg (by decide +kernel)];exact⟨rfl,rfl⟩))
  (fun os started H enc _=>treatyAgreed_lifted os started H enc)
theorem treatyAgreed_holds:Rows.TreatyAgreedCardSaid :=
 card_goes [.data,.funcsDeep] true Rows.treatyAgreedCard.stood.harness false treatyAgreed_row (by kernel_rfl) treatyAgreed_row_tie rfl ⟨rfl,rfl⟩ (by kernel_rfl) rfl
  (fun f fn b a=>by
   obtain rfl:f=5:=Option.some.inj (treatyAgreed_named.symm.trans b) |>.symm;obtain rfl:fn=Tryz.f5:=(Option.some.inj (Tryz.func5.symm.trans a)).symm;exact⟨by kernel_rfl,fun j t c=>by
    have hm:=Array.mem_of_getElem? c;have:=of_decide_eq_true (List.all_eq_true.1 (show (Tryz.f5.params.toList.all fun t=>decide (Tryz.prog.wantsStandIn t=false))=true by kernel_rfl) t (Array.mem_toList_iff.2 hm));exact this⟩)
  (by kernel_rfl)
end Go.Proofs.YtfkfohpnpljihaaGreatDoor
end
#print axioms Go.Proofs.YtfkfohpnpljihaaGreatDoor.treatyAgreed_holds
